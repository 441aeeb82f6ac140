import PyProof.Rows.All
import Wide.All
import OpenK.AllK
import Wide.FinOn
import KE.KStateDown
import HandS.ForMost
import HandS.ForExc
import HandS.More
import HandS.Flow
import HandS.IsInst
import HandS.ExcValue
import HandS.ExcIs
import HandS.ExcField
import HandS.Defaults
import HandS.HeadHook1
import HandS.TupAny
import HandS.TupMul
import HandS.TupLe
import HandS.Style
import PyProof.NeKinds
import PyProof.Rows.StrMul
import PyProof.Rows.SortShellAny
import KE.KExcIs
import KE.KDictSum
import KE.KDictList
import HandS.Conv
import HandS.ExcOwn
import KE.KEqDict
import HandS.HeadEnd
import PyProof.DictCopy
import HandS.TryOnly
import HandS.Set
import HandS.SetFor
import HandS.SetKeys
import HandS.HeadHook3
import PySem.Challenge.RW_nestways_k91_whole_least_shape
import Lean
import HandS.Head0
import HandS.Head1
import HandS.Head2
import HandS.HeadHook2
import HandS.HeadHook4
set_option Elab.async false
set_option linter.all false
set_option maxRecDepth 100000
set_option maxHeartbeats 4000000
/-! Part A: plain data, how the abstract heap bears it, what a piece of code does to both. -/
namespace Nw
open PySem PySem.Spec L2
/-! ### results -/
inductive Cl where
  | NestError | BadThing | BadText | BadWay | NoWay | NoGo | Nothing | Clash | Apart
  deriving DecidableEq
def Cl.name : Cl → Str
  | .NestError => "NestError" | .BadThing => "BadThing" | .BadText => "BadText" | .BadWay => "BadWay" | .NoWay => "NoWay"
  | .NoGo => "NoGo" | .Nothing => "Nothing" | .Clash => "Clash" | .Apart => "Apart"
/-- plain data: lists and dicts as they stand (row, tab), lists that are only read (kro: the script, a module's own), errors held, things that change (obj) -/
inductive D where
  | non | bl (b : Bool) | int (i : Int) | str (x : Str) | row (xs : List D) | tup (xs : List D) | tab (kvs : List (Key × D)) | kro (xs : List D)
  | exc (c : Cl) (fs : List (Str × D)) | obj (k : Nat)
  deriving Inhabited
structure Xn where
  c : Cl
  fs : List (Str × D)
inductive Res (S α : Type) where
  | ok (a : α) (s : S) | exc (x : Xn) (s : S) | bot
abbrev M (S α : Type) := S → Res S α
def ret {S α : Type} (a : α) : M S α := fun s => .ok a s
def bot {S α : Type} : M S α := fun _ => .bot
def bnd {S α β : Type} (m : M S α) (k : α → M S β) : M S β := fun s => match m s with
  | .ok a s' => k a s'
  | .exc x s' => .exc x s'
  | .bot => .bot
def lift {S α : Type} : Option α → M S α
  | some a => ret a
  | none => bot
section
variable {S α β : Type}
@[simp] theorem ret_ap (a : α) (s : S) : ret a s = .ok a s := rfl
@[simp] theorem bot_ap (s : S) : (bot : M S α) s = .bot := rfl
theorem bnd_ok {m : M S α} {k : α → M S β} {s s' : S} {a : α} (h : m s = .ok a s') : bnd m k s = k a s' := by unfold bnd; rw [h]
theorem bnd_exc {m : M S α} {k : α → M S β} {s s' : S} {x : Xn} (h : m s = .exc x s') : bnd m k s = .exc x s' := by unfold bnd; rw [h]
theorem bnd_bot {m : M S α} {k : α → M S β} {s : S} (h : m s = .bot) : bnd m k s = .bot := by unfold bnd; rw [h]
@[simp] theorem bnd_ret (a : α) (k : α → M S β) : bnd (ret a) k = k a := rfl
@[simp] theorem bnd_bot' (k : α → M S β) : bnd bot k = bot := rfl
@[simp] theorem lift_some (a : α) : (lift (some a) : M S α) = ret a := rfl
@[simp] theorem lift_none : (lift none : M S α) = bot := rfl
end
/-- the slots of a def, by plain data -/
abbrev Sl := List (Option D)
/-- how a statement ends -/
inductive Flw where
  | next (r : Sl) | rt (d : D) | brk (r : Sl) | cnt (r : Sl) | thr (x : Xn) (r : Sl)
abbrev Mo (S : Type) := S → Option (Flw × S)
/-! ### what bears the data -/
/-- an error that is held: its class, its own dict -/
def ExH (cls : Value) (dd : Option Addr) (a : Addr) : HO := .ext fun h => ∃ oe : Obj, h.get? a = some oe ∧ Zc cls dd oe ∧ ∃ vs, oe.data = .fields vs
def kOk : Key → Prop
  | .inl _ => True
  | .inr x => x.length ≤ sizeLine
mutual
def Rep (K : PySem.W.Frag) (nm : Nat → Option Addr) (F : Hp) : D → V → Prop
  | .non, v => v = .non
  | .bl b, v => v = .bl b
  | .int i, v => v = .int i
  | .str x, v => v = .str x ∧ x.length ≤ sizeLine
  | .row ds, v => ∃ a vs, v = .ref a ∧ F a = some (.lst vs) ∧ ds.length ≤ sizeLine ∧ Reps K nm F ds vs
  | .tup ds, v => ∃ a vs, v = .ref a ∧ F a = some (.tup vs) ∧ ds.length ≤ sizeLine ∧ Reps K nm F ds vs
  | .tab kvs, v => ∃ a ws, v = .ref a ∧ F a = some (.dK ws) ∧ kvs.length ≤ sizeLine ∧ RepsK K nm F kvs ws
  | .kro ds, v => ∃ a vs, v = .ref a ∧ SqL K F a vs ∧ ds.length ≤ sizeLine ∧ Reps K nm F ds vs
  | .exc c fs, v => ∃ a dd, v = .ref a ∧ F a = some (ExH (.ref (He.ga K c.name)) dd a) ∧ ((fs = [] ∧ dd = none) ∨ ∃ d ws, dd = some d ∧ F d = some (.xd ws) ∧ RepsF K nm F fs ws)
  | .obj k, v => ∃ a, nm k = some a ∧ v = .ref a
def Reps (K : PySem.W.Frag) (nm : Nat → Option Addr) (F : Hp) : List D → List V → Prop
  | [], vs => vs = []
  | d :: ds, vs => ∃ v ws, vs = v :: ws ∧ Rep K nm F d v ∧ Reps K nm F ds ws
def RepsK (K : PySem.W.Frag) (nm : Nat → Option Addr) (F : Hp) : List (Key × D) → List (Key × V) → Prop
  | [], ws => ws = []
  | (k, d) :: r, ws => ∃ v ws', ws = (k, v) :: ws' ∧ kOk k ∧ Rep K nm F d v ∧ RepsK K nm F r ws'
def RepsF (K : PySem.W.Frag) (nm : Nat → Option Addr) (F : Hp) : List (Str × D) → List (Str × V) → Prop
  | [], ws => ws = []
  | (k, d) :: r, ws => ∃ v ws', ws = (k, v) :: ws' ∧ Rep K nm F d v ∧ RepsF K nm F r ws'
end
def RepX (K : PySem.W.Frag) (nm : Nat → Option Addr) (F : Hp) (x : Xn) (cls : Value) (dd : Option Addr) : Prop :=
  cls = .ref (He.ga K x.c.name) ∧ ((x.fs = [] ∧ dd = none) ∨ ∃ d ws, dd = some d ∧ F d = some (.xd ws) ∧ RepsF K nm F x.fs ws)
theorem sqL_mono {K : PySem.W.Frag} {F F' : Hp} (h : Same F F') {a : Addr} {vs : List V} (q : SqL K F a vs) : SqL K F' a vs := h.seq q
section
variable {K : PySem.W.Frag} {nm : Nat → Option Addr} {F F' : Hp}
mutual
theorem Rep.mono (h : Same F F') : ∀ {d : D} {v : V}, Rep K nm F d v → Rep K nm F' d v
  | .non, v, r => r
  | .bl b, v, r => r
  | .int i, v, r => r
  | .str x, v, r => r
  | .row ds, v, r => by
    obtain ⟨a, vs, e, hf, hz, hr⟩ := r
    exact ⟨a, vs, e, h _ _ hf, hz, Reps.mono h hr⟩
  | .tup ds, v, r => by
    obtain ⟨a, vs, e, hf, hz, hr⟩ := r
    exact ⟨a, vs, e, h _ _ hf, hz, Reps.mono h hr⟩
  | .tab kvs, v, r => by
    obtain ⟨a, vs, e, hf, hz, hr⟩ := r
    exact ⟨a, vs, e, h _ _ hf, hz, RepsK.mono h hr⟩
  | .kro ds, v, r => by
    obtain ⟨a, vs, e, hf, hz, hr⟩ := r
    exact ⟨a, vs, e, sqL_mono h hf, hz, Reps.mono h hr⟩
  | .exc c fs, v, r => by
    obtain ⟨a, dd, e, hf, hr⟩ := r
    refine ⟨a, dd, e, h _ _ hf, ?_⟩
    rcases hr with hr | ⟨d, ws, e1, e2, e3⟩
    · exact .inl hr
    · exact .inr ⟨d, ws, e1, h _ _ e2, RepsF.mono h e3⟩
  | .obj k, v, r => r
theorem Reps.mono (h : Same F F') : ∀ {ds : List D} {vs : List V}, Reps K nm F ds vs → Reps K nm F' ds vs
  | [], vs, r => r
  | d :: ds, vs, r => by
    obtain ⟨v, ws, e, h1, h2⟩ := r
    exact ⟨v, ws, e, Rep.mono h h1, Reps.mono h h2⟩
theorem RepsK.mono (h : Same F F') : ∀ {ds : List (Key × D)} {vs : List (Key × V)}, RepsK K nm F ds vs → RepsK K nm F' ds vs
  | [], vs, r => r
  | (k, d) :: ds, vs, r => by
    obtain ⟨v, ws, e, hk, h1, h2⟩ := r
    exact ⟨v, ws, e, hk, Rep.mono h h1, RepsK.mono h h2⟩
theorem RepsF.mono (h : Same F F') : ∀ {ds : List (Str × D)} {vs : List (Str × V)}, RepsF K nm F ds vs → RepsF K nm F' ds vs
  | [], vs, r => r
  | (k, d) :: ds, vs, r => by
    obtain ⟨v, ws, e, h1, h2⟩ := r
    exact ⟨v, ws, e, Rep.mono h h1, RepsF.mono h h2⟩
end
theorem RepX.mono (h : Same F F') {x : Xn} {cls : Value} {dd : Option Addr} (r : RepX K nm F x cls dd) : RepX K nm F' x cls dd := by
  obtain ⟨e, hr⟩ := r
  refine ⟨e, ?_⟩
  rcases hr with hr | ⟨d, ws, e1, e2, e3⟩
  · exact .inl hr
  · exact .inr ⟨d, ws, e1, h _ _ e2, e3.mono h⟩
theorem Reps.length : ∀ {ds : List D} {vs : List V}, Reps K nm F ds vs → vs.length = ds.length
  | [], vs, r => by rw [show vs = [] from r]; rfl
  | d :: ds, vs, r => by
    obtain ⟨v, ws, e, _, h2⟩ := r
    rw [e, List.length_cons, List.length_cons, h2.length]
theorem RepsK.length : ∀ {ds : List (Key × D)} {vs : List (Key × V)}, RepsK K nm F ds vs → vs.length = ds.length
  | [], vs, r => by rw [show vs = [] from r]; rfl
  | (k, d) :: ds, vs, r => by
    obtain ⟨v, ws, e, _, _, h2⟩ := r
    rw [e, List.length_cons, List.length_cons, h2.length]
theorem RepsK.get : ∀ {ds : List (Key × D)} {vs : List (Key × V)} {i : Nat} {k : Key} {d : D}, RepsK K nm F ds vs → ds[i]? = some (k, d) → ∃ v, vs[i]? = some (k, v) ∧ kOk k ∧ Rep K nm F d v
  | [], vs, i, k, d, r, e => by simp at e
  | (k, d) :: ds, vs, 0, k', d', r, e => by
    obtain ⟨v, ws, rfl, hk, h1, _⟩ := r
    have e' : (k, d) = (k', d') := by simpa using e
    cases e'
    exact ⟨v, rfl, hk, h1⟩
  | (k, d) :: ds, vs, i + 1, k', d', r, e => by
    obtain ⟨v, ws, rfl, _, _, h2⟩ := r
    obtain ⟨u, h3, h4⟩ := h2.get (i := i) (k := k') (d := d') (by simpa using e)
    exact ⟨u, by simpa using h3, h4⟩
theorem RepsK.keys : ∀ {ds : List (Key × D)} {vs : List (Key × V)}, RepsK K nm F ds vs → vs.map (·.1) = ds.map (·.1)
  | [], vs, r => by rw [show vs = [] from r]; rfl
  | (k, d) :: ds, vs, r => by
    obtain ⟨v, ws, rfl, _, _, h2⟩ := r
    rw [List.map_cons, List.map_cons, h2.keys]
theorem RepsK.vals : ∀ {ds : List (Key × D)} {vs : List (Key × V)}, RepsK K nm F ds vs → Reps K nm F (ds.map (·.2)) (vs.map (·.2))
  | [], vs, r => by rw [show vs = [] from r]; rfl
  | (k, d) :: ds, vs, r => by
    obtain ⟨v, ws, rfl, _, h1, h2⟩ := r
    exact ⟨v, _, rfl, h1, h2.vals⟩
theorem RepsK.kok : ∀ {ds : List (Key × D)} {vs : List (Key × V)}, RepsK K nm F ds vs → ∀ p ∈ ds, kOk p.1
  | [], vs, r, p, hp => by cases hp
  | (k, d) :: ds, vs, r, p, hp => by
    obtain ⟨v, ws, rfl, hk, _, h2⟩ := r
    rcases List.mem_cons.mp hp with rfl | hp
    · exact hk
    · exact h2.kok p hp
theorem Reps.get : ∀ {ds : List D} {vs : List V} {i : Nat} {d : D}, Reps K nm F ds vs → ds[i]? = some d → ∃ v, vs[i]? = some v ∧ Rep K nm F d v
  | [], vs, i, d, r, e => by simp at e
  | d :: ds, vs, 0, d', r, e => by
    obtain ⟨v, ws, rfl, h1, _⟩ := r
    have e' : d = d' := by simpa using e
    subst e'
    exact ⟨v, rfl, h1⟩
  | d :: ds, vs, i + 1, d', r, e => by
    obtain ⟨v, ws, rfl, _, h2⟩ := r
    obtain ⟨u, h3, h4⟩ := h2.get (i := i) (d := d') (by simpa using e)
    exact ⟨u, by simpa using h3, h4⟩
theorem Reps.get' : ∀ {ds : List D} {vs : List V} {i : Nat} {v : V}, Reps K nm F ds vs → vs[i]? = some v → ∃ d, ds[i]? = some d ∧ Rep K nm F d v := fun {ds vs i v} r e => by
  have hl := r.length
  have hi : i < ds.length := by
    have := (List.getElem?_eq_some_iff.mp e).1
    omega
  obtain ⟨u, h1, h2⟩ := r.get (List.getElem?_eq_getElem hi)
  rw [e] at h1
  cases h1
  exact ⟨_, List.getElem?_eq_getElem hi, h2⟩
theorem Reps.append : ∀ {ds es : List D} {vs ws : List V}, Reps K nm F ds vs → Reps K nm F es ws → Reps K nm F (ds ++ es) (vs ++ ws)
  | [], es, vs, ws, r, q => by rw [show vs = [] from r]; exact q
  | d :: ds, es, vs, ws, r, q => by
    obtain ⟨v, us, rfl, h1, h2⟩ := r
    exact ⟨v, us ++ ws, rfl, h1, h2.append q⟩
theorem Reps.take : ∀ {ds : List D} {vs : List V} (n : Nat), Reps K nm F ds vs → Reps K nm F (ds.take n) (vs.take n)
  | _, _, 0, _ => rfl
  | [], vs, n + 1, r => by rw [show vs = [] from r]; rfl
  | d :: ds, vs, n + 1, r => by
    obtain ⟨v, us, rfl, h1, h2⟩ := r
    exact ⟨v, us.take n, rfl, h1, h2.take n⟩
theorem Reps.drop : ∀ {ds : List D} {vs : List V} (n : Nat), Reps K nm F ds vs → Reps K nm F (ds.drop n) (vs.drop n)
  | _, _, 0, r => r
  | [], vs, n + 1, r => by rw [show vs = [] from r]; rfl
  | d :: ds, vs, n + 1, r => by
    obtain ⟨v, us, rfl, h1, h2⟩ := r
    exact h2.drop n
theorem Reps.reverse {ds : List D} {vs : List V} (r : Reps K nm F ds vs) : Reps K nm F ds.reverse vs.reverse := by
  induction ds generalizing vs with
  | nil => rw [show vs = [] from r]; rfl
  | cons d ds ih =>
    obtain ⟨v, us, rfl, h1, h2⟩ := r
    rw [List.reverse_cons, List.reverse_cons]
    exact (ih h2).append ⟨v, [], rfl, h1, rfl⟩
theorem reps_map {α : Type} {f : α → D} {g : α → V} (l : List α) (h : ∀ a ∈ l, Rep K nm F (f a) (g a)) : Reps K nm F (l.map f) (l.map g) := by
  induction l with
  | nil => rfl
  | cons a l ih => exact ⟨g a, l.map g, rfl, h a List.mem_cons_self, ih fun b hb => h b (List.mem_cons_of_mem _ hb)⟩
theorem reps_ints (ns : List Int) : Reps K nm F (ns.map D.int) (ns.map V.int) := reps_map ns fun _ _ => rfl
theorem reps_bls (ns : List Bool) : Reps K nm F (ns.map D.bl) (ns.map V.bl) := reps_map ns fun _ _ => rfl
end
/-! ### the world of a piece of code -/
structure Reg where
  K : PySem.W.Frag
  nm : Nat → Option Addr
  S : Type
  Mu : Addr → Prop
  SI : S → Hp → Prop
  loc : ∀ s H H', SI s H → (∀ a, Mu a → H' a = H a) → SI s H'
  dom : ∀ s H a, SI s H → Mu a → H a ≠ none
/-- nothing changes -/
abbrev R0 (K : PySem.W.Frag) (nm : Nat → Option Addr) : Reg := ⟨K, nm, Unit, fun _ => False, fun _ _ => True, fun _ _ _ h _ => h, fun _ _ _ _ h => h.elim⟩
/-- the law's list of draws, at T, is the thing number 0 -/
abbrev RT (K : PySem.W.Frag) (T : Addr) : Reg where
  K := K
  nm := fun k => if k = 0 then some T else none
  S := Nat
  Mu := fun a => a = T
  SI := fun n H => H T = some (.lst (List.replicate n (.int 0))) ∧ n ≤ sizeLine
  loc := fun n H H' h k => ⟨by rw [k T rfl]; exact h.1, h.2⟩
  dom := fun n H a h e => by rw [show a = T from e, h.1]; exact fun z => nomatch z
/-- F is borne by H (a dict may be locked) -/
def Sub (F H : Hp) : Prop := ∀ a o, F a = some o → H a = some o ∨ ∃ kvs ob, o = .dK kvs ∧ H a = some (.frz ob (.dK kvs))
structure Wd (R : Reg) (F H : Hp) (s : R.S) : Prop where
  sub : Sub F H
  mu : ∀ a, R.Mu a → F a = none
  si : R.SI s H
structure Stp (R : Reg) (F H F' H' : Hp) : Prop where
  fs : Same F F'
  hs : ∀ a o, ¬ R.Mu a → H a = some o → H' a = some o ∨ (F' a = some o ∧ ∃ kvs ob, o = .dK kvs ∧ H' a = some (.frz ob o))
  nw : ∀ a, F' a ≠ none → F a ≠ none ∨ H a = none
  th : ∀ a, H' a = none → H a = none
theorem Stp.refl {R : Reg} {F H : Hp} : Stp R F H F H := ⟨fun _ _ h => h, fun _ _ _ h => .inl h, fun _ h => .inl h, fun _ h => h⟩
theorem Stp.trans {R : Reg} {F H F1 H1 F2 H2 : Hp} (a : Stp R F H F1 H1) (b : Stp R F1 H1 F2 H2) : Stp R F H F2 H2 where
  fs := a.fs.trans b.fs
  hs := fun x o m h => by
    rcases a.hs x o m h with h | ⟨h1, kvs, ob, e, h2⟩
    · exact b.hs x o m h
    · rcases b.hs x _ m h2 with h3 | ⟨_, _, _, e3, _⟩
      · exact .inr ⟨b.fs _ _ h1, kvs, ob, e, h3⟩
      · cases e3
  nw := fun x h => by
    rcases b.nw x h with h | h
    · exact a.nw x h
    · exact .inr (a.th x h)
  th := fun x h => a.th x (b.th x h)
theorem Stp.own {R : Reg} {F H F' H' : Hp} (st : Stp R F H F' H') {a : Addr} {o : HO} (m : ¬ R.Mu a) (f : F a = none) (h : H a = some o) : H' a = some o := by
  rcases st.hs a o m h with h1 | ⟨h1, _⟩
  · exact h1
  · rcases st.nw a (by rw [h1]; exact fun z => nomatch z) with z | z
    · exact absurd f z
    · rw [h] at z; cases z
theorem Stp.nd {R : Reg} {F H F' H' : Hp} (st : Stp R F H F' H') {a : Addr} {o : HO} (m : ¬ R.Mu a) (n : ∀ kvs, o ≠ .dK kvs) (h : H a = some o) : H' a = some o := by
  rcases st.hs a o m h with h1 | ⟨_, kvs, _, e, _⟩
  · exact h1
  · exact absurd e (n kvs)
/-- a new object laid, into both -/
theorem Stp.new {R : Reg} {F H : Hp} {p : Addr} (o : HO) (hp : H p = none) (hF : F p = none) : Stp R F H (upd F p o) (upd H p o) where
  fs := fun b u q => by rw [upd_ne (ne_of_none q hF)]; exact q
  hs := fun b u _ q => by rw [upd_ne (ne_of_none q hp)]; exact .inl q
  nw := fun b h => by
    by_cases e : b = p
    · rw [e]; exact .inr hp
    · rw [upd_ne e] at h; exact .inl h
  th := fun b h => by
    by_cases e : b = p
    · rw [e, upd_same] at h; cases h
    · rw [upd_ne e] at h; exact h
/-- a new object laid, into the heap alone -/
theorem Stp.newH {R : Reg} {F H : Hp} {p : Addr} (o : HO) (hp : H p = none) : Stp R F H F (upd H p o) where
  fs := fun _ _ q => q
  hs := fun b u _ q => by rw [upd_ne (ne_of_none q hp)]; exact .inl q
  nw := fun b h => .inl h
  th := fun b h => by
    by_cases e : b = p
    · rw [e, upd_same] at h; cases h
    · rw [upd_ne e] at h; exact h
theorem Sub.free {F H : Hp} (h : Sub F H) {a : Addr} (e : H a = none) : F a = none := by
  cases q : F a with
  | none => rfl
  | some o =>
    rcases h a o q with z | ⟨_, _, _, z⟩ <;> rw [e] at z <;> cases z
theorem Wd.free {R : Reg} {F H : Hp} {s : R.S} (h : Wd R F H s) {a : Addr} (e : H a = none) : F a = none := h.sub.free e
theorem Wd.new {R : Reg} {F H : Hp} {s : R.S} (w : Wd R F H s) {p : Addr} (o : HO) (hp : H p = none) : Wd R (upd F p o) (upd H p o) s where
  sub := fun a u q => by
    by_cases e : a = p
    · rw [e, upd_same] at q; cases q; rw [e]; exact .inl upd_same
    · rw [upd_ne e] at q ⊢
      exact w.sub a u q
  mu := fun a m => by
    have ne : a ≠ p := fun e => w.si |> fun si => R.dom s H a si m (by rw [e]; exact hp)
    rw [upd_ne ne]; exact w.mu a m
  si := R.loc s H _ w.si fun a m => upd_ne fun e => R.dom s H a w.si m (by rw [e]; exact hp)
theorem Wd.newH {R : Reg} {F H : Hp} {s : R.S} (w : Wd R F H s) {p : Addr} (o : HO) (hp : H p = none) : Wd R F (upd H p o) s where
  sub := fun a u q => by
    have ne : a ≠ p := fun e => by rw [e, w.free hp] at q; cases q
    rw [upd_ne ne]
    exact w.sub a u q
  mu := w.mu
  si := R.loc s H _ w.si fun a m => upd_ne fun e => R.dom s H a w.si m (by rw [e]; exact hp)
theorem Sub.lst {F H : Hp} (h : Sub F H) {a : Addr} {xs : List V} (e : F a = some (.lst xs)) : H a = some (.lst xs) := by
  rcases h a _ e with z | ⟨_, _, z, _⟩
  · exact z
  · cases z
theorem Sub.tup {F H : Hp} (h : Sub F H) {a : Addr} {xs : List V} (e : F a = some (.tup xs)) : H a = some (.tup xs) := by
  rcases h a _ e with z | ⟨_, _, z, _⟩
  · exact z
  · cases z
theorem Sub.dK {F H : Hp} (h : Sub F H) {a : Addr} {xs : List (Key × V)} (e : F a = some (.dK xs)) : Rd H a (.dK xs) := by
  rcases h a _ e with z | ⟨_, ob, z, q⟩
  · exact .inl z
  · cases z; exact .inr ⟨ob, q⟩
theorem Sub.sqL {K : PySem.W.Frag} {F H : Hp} (h : Sub F H) {a : Addr} {xs : List V} (e : SqL K F a xs) : SqL K H a xs := by
  rcases e with (e | ⟨o, e⟩) | e
  · exact .inl (.inl (h.lst e))
  · rcases h a _ e with z | ⟨_, _, z, _⟩
    · exact .inl (.inr ⟨o, z⟩)
    · cases z
  · exact .inr e
/-! ### what is wanted behind a computation -/
def Post {α : Type} (R : Reg) (F H : Hp) (r : Res R.S α) (k : α → R.S → Hp → Hp → Prop) (x : Xn → R.S → Hp → Hp → Prop) : Prop := match r with
  | .ok a s => ∀ F' H', Wd R F' H' s → Stp R F H F' H' → k a s F' H'
  | .exc e s => ∀ F' H', Wd R F' H' s → Stp R F H F' H' → x e s F' H'
  | .bot => False
section
variable {α β : Type} {R : Reg} {F H F1 H1 : Hp} {k : α → R.S → Hp → Hp → Prop} {x : Xn → R.S → Hp → Hp → Prop}
theorem Post.from {r : Res R.S α} (h : Post R F H r k x) (st : Stp R F H F1 H1) : Post R F1 H1 r k x := by
  cases r with
  | ok a s => exact fun F' H' w q => h F' H' w (st.trans q)
  | exc e s => exact fun F' H' w q => h F' H' w (st.trans q)
  | bot => exact h
theorem Post.imp {r : Res R.S α} {k' : α → R.S → Hp → Hp → Prop} {x' : Xn → R.S → Hp → Hp → Prop} (h : Post R F H r k x) (hk : ∀ a s F' H', Wd R F' H' s → Stp R F H F' H' → k a s F' H' → k' a s F' H') (hx : ∀ a s F' H', Wd R F' H' s → Stp R F H F' H' → x a s F' H' → x' a s F' H') : Post R F H r k' x' := by
  cases r with
  | ok a s => exact fun F' H' w q => hk a s F' H' w q (h F' H' w q)
  | exc e s => exact fun F' H' w q => hx e s F' H' w q (h F' H' w q)
  | bot => exact h
theorem Post.bnd {m : M R.S α} {n : α → M R.S β} {s : R.S} {k : β → R.S → Hp → Hp → Prop} (h : Post R F H (Nw.bnd m n s) k x) : Post R F H (m s) (fun a s1 F1 H1 => Post R F1 H1 (n a s1) k x) x := by
  unfold Nw.bnd at h
  cases e : m s with
  | ok a s1 => rw [e] at h; exact fun F' H' w q => Post.from h q
  | exc a s1 => rw [e] at h; exact h
  | bot => rw [e] at h; exact h
theorem Post.lift {o : Option α} {s : R.S} (h : Post R F H (Nw.lift o s) k x) : ∃ a, o = some a ∧ ∀ F' H', Wd R F' H' s → Stp R F H F' H' → k a s F' H' := by
  cases o with
  | none => exact False.elim h
  | some a => exact ⟨a, rfl, h⟩
theorem Post.ret {a : α} {s : R.S} (h : Post R F H (Nw.ret a s) k x) (w : Wd R F H s) : k a s F H := h F H w Stp.refl
end
/-- the slots that hold plain data; those in O are the def's own things, read by other rules -/
structure Pu (R : Reg) (O : List Nat) (F : Hp) (σ : St) (r : Sl) : Prop where
  len : r.length = σ.length
  at_ : ∀ i d, i ∉ O → r[i]? = some (some d) → ∃ v, σ[i]? = some (some v) ∧ Rep R.K R.nm F d v
theorem Pu.mono {R : Reg} {O : List Nat} {F F' : Hp} {σ : St} {r : Sl} (h : Pu R O F σ r) (s : Same F F') : Pu R O F' σ r := ⟨h.len, fun i d hi e => by
  obtain ⟨v, h1, h2⟩ := h.at_ i d hi e
  exact ⟨v, h1, h2.mono s⟩⟩
section
variable (R : Reg) (W : WX) (O : List Nat)
/-- an expression computes f -/
def tD (f : Sl → M R.S D) : TE := fun σ H Q => ∃ F r s, Wd R F H s ∧ Pu R O F σ r ∧ Post R F H (f r s) (fun d _ F' H' => ∀ v, Rep R.K R.nm F' d v → Q v H') (fun x _ F' H' => ∀ cls dd, RepX R.K R.nm F' x cls dd → W cls dd σ H')
def tDT (f : Sl → M R.S Bool) : TT := fun σ H Q => ∃ F r s, Wd R F H s ∧ Pu R O F σ r ∧ Post R F H (f r s) (fun b _ _ H' => Q b H') (fun x _ F' H' => ∀ cls dd, RepX R.K R.nm F' x cls dd → W cls dd σ H')
def tDA (f : Sl → M R.S (List D)) : TA := fun σ H Q => ∃ F r s, Wd R F H s ∧ Pu R O F σ r ∧ Post R F H (f r s) (fun ds _ F' H' => ∀ vs, Reps R.K R.nm F' ds vs → Q vs H') (fun x _ F' H' => ∀ cls dd, RepX R.K R.nm F' x cls dd → W cls dd σ H')
end
/-! ### weaker readings -/
section
variable {X : Cx}
theorem pe_imp {e : Expr} {t t' : TE} (h : PE X e t) (k : ∀ σ H Q, t' σ H Q → t σ H Q) : PE X e t' := ⟨fun pins s σ H Q I q => h.run pins s σ H Q I (k σ H Q q)⟩
theorem pt_imp {e : Expr} {t t' : TT} (h : PT X e t) (k : ∀ σ H Q, t' σ H Q → t σ H Q) : PT X e t' := ⟨fun pins s σ H Q I q => h.run pins s σ H Q I (k σ H Q q)⟩
theorem pw_imp {e : Expr} {t t' : TT} (h : PW X e t) (k : ∀ σ H Q, t' σ H Q → t σ H Q) : PW X e t' := ⟨fun wh pins s σ H Q I q => h.run wh pins s σ H Q I (k σ H Q q)⟩
theorem pa_imp {e : List Expr} {t t' : TA} (h : PA X e t) (k : ∀ σ H Q, t' σ H Q → t σ H Q) : PA X e t' := ⟨fun pos pins s σ H Q I q => h.run pos pins s σ H Q I (k σ H Q q)⟩
theorem ps_imp {e : Stmt} {t t' : TS} (h : PS X e t) (k : ∀ D σ H, t' D σ H → t D σ H) : PS X e t' := ⟨fun pins s σ H D I q => h.run pins s σ H D I (k D σ H q)⟩
theorem pss_imp {e : List Stmt} {t t' : TS} (h : PSs X e t) (k : ∀ D σ H, t' D σ H → t D σ H) : PSs X e t' := ⟨fun pins s σ H D I q => h.run pins s σ H D I (k D σ H q)⟩
theorem pi_imp {tg e : Expr} {t t' : TI} (h : PI X tg e t) (k : ∀ σ H Q, t' σ H Q → t σ H Q) : PI X tg e t' := ⟨fun pins s σ H Q I q => h.run pins s σ H Q I (k σ H Q q)⟩
theorem pe_or2 {e : Expr} {t t' : TE} (h : PE X e t) (h' : PE X e t') : PE X e (fun σ H Q => t σ H Q ∨ t' σ H Q) := ⟨fun pins s σ H Q I q => q.elim (h.run pins s σ H Q I) (h'.run pins s σ H Q I)⟩
theorem ps_or2 {e : Stmt} {t t' : TS} (h : PS X e t) (h' : PS X e t') : PS X e (fun D σ H => t D σ H ∨ t' D σ H) := ⟨fun pins s σ H D I q => q.elim (h.run pins s σ H D I) (h'.run pins s σ H D I)⟩
theorem pi_or2 {tg e : Expr} {t t' : TI} (h : PI X tg e t) (h' : PI X tg e t') : PI X tg e (fun σ H Q => t σ H Q ∨ t' σ H Q) := ⟨fun pins s σ H Q I q => q.elim (h.run pins s σ H Q I) (h'.run pins s σ H Q I)⟩
end
end Nw
set_option Elab.async false
set_option linter.all false
set_option maxRecDepth 100000
set_option maxHeartbeats 4000000
/-! Part B: expressions. -/
namespace Nw
open PySem PySem.Spec L2
/-! ### what the pieces compute -/
section
variable {S : Type}
def getS (r : Sl) (i : Nat) : Option D := (r[i]?).join
def dVar (i : Nat) : Sl → M S D := fun r => lift (getS r i)
def dC (d : D) : Sl → M S D := fun _ => ret d
def dUn (op : D → Option D) (f : Sl → M S D) : Sl → M S D := fun r => bnd (f r) fun x => lift (op x)
def dOp (op : D → D → Option D) (f g : Sl → M S D) : Sl → M S D := fun r => bnd (f r) fun x => bnd (g r) fun y => lift (op x y)
def dNil : Sl → M S (List D) := fun _ => ret []
def dCons (f : Sl → M S D) (g : Sl → M S (List D)) : Sl → M S (List D) := fun r => bnd (f r) fun x => bnd (g r) fun xs => ret (x :: xs)
def dAll (op : List D → Option D) (f : Sl → M S (List D)) : Sl → M S D := fun r => bnd (f r) fun xs => lift (op xs)
def dCall (n : Nat) (g : List D → M S D) (f : Sl → M S (List D)) : Sl → M S D := fun r => bnd (f r) fun xs => if xs.length = n then g xs else bot
def dTst (f : Sl → M S D) (tr : D → Option Bool) : Sl → M S Bool := fun r => bnd (f r) fun x => lift (tr x)
def dIf (c : Sl → M S Bool) (f g : Sl → M S D) : Sl → M S D := fun r => bnd (c r) fun b => if b = true then f r else g r
def tAndD (c e : Sl → M S Bool) : Sl → M S Bool := fun r => bnd (c r) fun b => if b = true then e r else ret false
def tOrD (c e : Sl → M S Bool) : Sl → M S Bool := fun r => bnd (c r) fun b => if b = true then ret true else e r
def tNotD (c : Sl → M S Bool) : Sl → M S Bool := fun r => bnd (c r) fun b => ret (!b)
end
/-- a value's truth -/
def truD : D → Option Bool
  | .non => some false
  | .bl b => some b
  | .int i => some (i != 0)
  | .str x => some ((x.length : Int) != 0)
  | .row xs => some (!xs.isEmpty)
  | .tup xs => some (!xs.isEmpty)
  | .tab xs => some (!xs.isEmpty)
  | .kro xs => some (!xs.isEmpty)
  | _ => none
def isBl : D → Option Bool
  | .bl b => some b
  | _ => none
section
variable {S : Type}
/-- a and b, a or b, not a as values -/
def dAnd (f g : Sl → M S D) : Sl → M S D := fun r => bnd (f r) fun x => bnd (lift (truD x)) fun b => if b = true then g r else ret x
def dOr (f g : Sl → M S D) : Sl → M S D := fun r => bnd (f r) fun x => bnd (lift (truD x)) fun b => if b = true then ret x else g r
end
def notD (x : D) : Option D := (truD x).map fun b => .bl (!b)
section
variable {X : Cx} {R : Reg} {W : WX} {O : List Nat}
/-! ### names and constants -/
theorem getS_some {r : Sl} {i : Nat} {d : D} (h : getS r i = some d) : r[i]? = some (some d) := by
  unfold getS at h
  cases e : r[i]? with
  | none => rw [e] at h; cases h
  | some o => rw [e] at h; exact congrArg some h
theorem de_var (i : Nat) {x : Str} {pos : Pos} (hO : i ∉ O) (hN : X.N[i]? = some x := by rfl) (hv : Vis X.env.scope x := by first | exact Or.inl rfl | exact Or.inr (Or.inl rfl) | exact Or.inr (Or.inr rfl)) (hd : (x == ("__debug__" : Str)) = false := by decide)
    (hcd : (x == ("__classdict__" : Str)) = false := by decide) : PE X (.Name x pos) (tD R W O (dVar i)) := pe_imp (pe_var hN hv hd hcd) fun σ H Q h => by
  obtain ⟨F, r, s, w, pu, p⟩ := h
  obtain ⟨d, e, k⟩ := p.lift
  obtain ⟨v, h1, h2⟩ := pu.at_ i d hO (getS_some e)
  exact ⟨v, h1, k F H w Stp.refl v h2⟩
theorem de_c {e : Expr} {v : V} (d : D) (h : PE X e (tC v)) (hr : ∀ F, Rep R.K R.nm F d v) : PE X e (tD R W O (dC d)) := pe_imp h fun σ H Q h => by
  obtain ⟨F, r, s, w, pu, p⟩ := h
  exact p F H w Stp.refl v (hr F)
theorem de_int {i j pos} : PE X (.Constant (.int i) j pos) (tD R W O (dC (.int i))) := de_c _ pe_int fun _ => rfl
theorem de_bl {i j pos} : PE X (.Constant (.bool i) j pos) (tD R W O (dC (.bl i))) := de_c _ pe_bl fun _ => rfl
theorem de_non {j pos} : PE X (.Constant .none j pos) (tD R W O (dC .non)) := de_c _ pe_non fun _ => rfl
theorem de_str {i j pos} (h : i.length ≤ sizeLine := by decide +kernel) : PE X (.Constant (.str i) j pos) (tD R W O (dC (.str i))) := de_c _ pe_str fun _ => ⟨rfl, h⟩
/-- a module's number, text, list -/
theorem de_gint {x : Str} {i : Int} {pos : Pos} (hg : Gl X x) (hm : ∃ t, X.mg x = some (.int i t)) (hd : (x == ("__debug__" : Str)) = false := by decide) : PE X (.Name x pos) (tD R W O (dC (.int i))) := by
  obtain ⟨t, hm⟩ := hm
  exact de_c _ (pe_glob (v := .int i) hg hm ⟨t, rfl⟩ hd) fun _ => rfl
theorem de_gstr {x z : Str} {pos : Pos} (hg : Gl X x) (hm : ∃ t, X.mg x = some (.str z t)) (hz : z.length ≤ sizeLine := by decide +kernel) (hd : (x == ("__debug__" : Str)) = false := by decide) : PE X (.Name x pos) (tD R W O (dC (.str z))) := by
  obtain ⟨t, hm⟩ := hm
  exact de_c _ (pe_glob (v := .str z) hg hm ⟨t, rfl⟩ hd) fun _ => ⟨rfl, hz⟩
/-! ### operators -/
def OpSat (R : Reg) (r : R2) (op : D → D → Option D) : Prop := ∀ (x y : V) (d e d' : D) (F H : Hp) (s : R.S) (Q : VK), Wd R F H s → Rep R.K R.nm F d x → Rep R.K R.nm F e y → op d e = some d' →
  (∀ v F' H', Wd R F' H' s → Stp R F H F' H' → Rep R.K R.nm F' d' v → Q v H') → r x y H Q
variable {a b e : Expr} {f g : Sl → M R.S D} {pos : Pos}
theorem sat_op {r : R2} {op : D → D → Option D} (hs : OpSat R r op) (σ : L2.St) (H : Hp) (Q : VK) (h : tD R W O (dOp op f g) σ H Q) : tOp r (tD R W O f) (tD R W O g) σ H Q := by
  obtain ⟨F, ρ, s, w, pu, p⟩ := h
  refine ⟨F, ρ, s, w, pu, p.bnd.imp (fun d s1 F1 H1 w1 st1 p1 v rv => ?_) fun _ _ _ _ _ _ z => z⟩
  refine ⟨F1, ρ, s1, w1, pu.mono st1.fs, p1.bnd.imp (fun e s2 F2 H2 w2 st2 p2 u ru => ?_) fun _ _ _ _ _ _ z => z⟩
  obtain ⟨d', e', k⟩ := p2.lift
  exact hs v u d e d' F2 H2 s2 Q w2 (rv.mono st2.fs) ru e' fun v' F' H' w' st' r' => k F' H' w' st' v' r'
theorem de_op {o : Operator} {r : R2} {op : D → D → Option D} (ho : OpR X (binaryOp o) r) (hs : OpSat R r op) (ha : PE X a (tD R W O f)) (hb : PE X b (tD R W O g)) : PE X (.BinOp a o b pos) (tD R W O (dOp op f g)) :=
  pe_imp (pe_op ho ha hb) (sat_op hs)
theorem de_cmp {o : CmpOp} {r : R2} {op : D → D → Option D} (ho : OpR X (compareOp o) r) (hs : OpSat R r op) (ha : PE X a (tD R W O f)) (hb : PE X b (tD R W O g)) (hm : behindInMarks o b = false) : PE X (.Compare a [o] [b] pos) (tD R W O (dOp op f g)) :=
  pe_imp (pe_cmpR ho ha hb hm) (sat_op hs)
theorem dt_cmp {o : CmpOp} {r : R2} {op : D → D → Option D} (ho : OpR X (compareOp o) r) (hs : OpSat R r op) (ha : PE X a (tD R W O f)) (hb : PE X b (tD R W O g)) (hm : behindInMarks o b = false) : PT X (.Compare a [o] [b] pos) (tDT R W O (dTst (dOp op f g) isBl)) :=
  pt_imp (pt_cmpR ho ha hb hm) fun σ H Q h => by
    obtain ⟨F, ρ, s, w, pu, p⟩ := h
    refine sat_op hs σ H _ ⟨F, ρ, s, w, pu, p.bnd.imp (fun d s1 F1 H1 w1 st1 p1 v rv => ?_) fun _ _ _ _ _ _ z => z⟩
    obtain ⟨c, ec, k⟩ := p1.lift
    cases d <;> try cases ec
    exact ⟨_, rv, k F1 H1 w1 Stp.refl⟩
theorem OpSat.or {r r' : R2} {op op' : D → D → Option D} (h : OpSat R r op) (h' : OpSat R r' op') : OpSat R (fun x y H Q => r x y H Q ∨ r' x y H Q) (fun d e => (op d e).or (op' d e)) := fun x y d e d' F H s Q w rx ry eo k => by
  have eo : (op d e).or (op' d e) = some d' := eo
  cases q : op d e with
  | some z =>
    rw [q] at eo
    exact .inl (h x y d e d' F H s Q w rx ry (by rw [q]; exact eo) k)
  | none =>
    rw [q] at eo
    exact .inr (h' x y d e d' F H s Q w rx ry eo k)
/-! ### unary -/
def UnSat (R : Reg) (r : V → Hp → VK → Prop) (op : D → Option D) : Prop := ∀ (x : V) (d d' : D) (F H : Hp) (s : R.S) (Q : VK), Wd R F H s → Rep R.K R.nm F d x → op d = some d' →
  (∀ v F' H', Wd R F' H' s → Stp R F H F' H' → Rep R.K R.nm F' d' v → Q v H') → r x H Q
theorem de_un {o : UnaryOp} {r : V → Hp → VK → Prop} {op : D → Option D} (ho : UnR X (unaryOp o) r) (hs : UnSat R r op) (ha : PE X a (tD R W O f)) : PE X (.UnaryOp o a pos) (tD R W O (dUn op f)) :=
  pe_imp (pe_un ho ha) fun σ H Q h => by
    obtain ⟨F, ρ, s, w, pu, p⟩ := h
    refine ⟨F, ρ, s, w, pu, p.bnd.imp (fun d s1 F1 H1 w1 st1 p1 v rv => ?_) fun _ _ _ _ _ _ z => z⟩
    obtain ⟨d', e', k⟩ := p1.lift
    exact hs v d d' F1 H1 s1 Q w1 rv e' fun v' F' H' w' st' r' => k F' H' w' st' v' r'
def negD : D → Option D
  | .int i => some (.int (-i))
  | _ => none
theorem sat_neg : UnSat R (rU fun i => .int (-i)) negD := fun x d d' F H s Q w rx e k => by
  cases d <;> try cases e
  exact ⟨_, rx, k _ F H w Stp.refl rfl⟩
theorem de_neg (ha : PE X a (tD R W O f)) : PE X (.UnaryOp .USub a pos) (tD R W O (dUn negD f)) := de_un un_neg sat_neg ha
/-! ### truth -/
def TruW (K : PySem.W.Frag) (x : V) (H : Hp) (k : Bool) : Prop := TruV K x H k ∨ ∃ p kvs, x = .ref p ∧ Rd H p (.dK kvs) ∧ k = !kvs.isEmpty
theorem tru_okW : TruR X (fun x H Q => ∃ k, TruW X.K x H k ∧ Q k H) := by
  intro pins s σ H x v Q I rx h
  obtain ⟨k, e | ⟨p, kvs, rfl, hd, rfl⟩, q⟩ := h
  · exact tru_ok pins s σ H x v Q I rx ⟨k, e, q⟩
  · cases rx
    exact d_truth I hd fun s' I' => ⟨H, I', q⟩
theorem truW_of {K : PySem.W.Frag} {nm : Nat → Option Addr} {F H : Hp} {d : D} {v : V} {k : Bool} (sb : Sub F H) (r : Rep K nm F d v) (e : truD d = some k) : TruW K v H k := by
  cases d with
  | non => cases e; rw [show v = V.non from r]; exact .inl rfl
  | bl c => cases e; rw [show v = V.bl k from r]; exact .inl rfl
  | int i => cases e; rw [show v = V.int i from r]; exact .inl rfl
  | str x => cases e; obtain ⟨rfl, hz⟩ := r; exact .inl ⟨hz, rfl⟩
  | row xs =>
    cases e
    obtain ⟨a, vs, rfl, h1, h2, h3⟩ := r
    refine .inl (.inl ⟨vs, SqL.of (sb.lst h1), ?_⟩)
    cases xs with
    | nil => rw [show vs = [] from h3]; rfl
    | cons d ds => obtain ⟨v, ws, rfl, _⟩ := h3; rfl
  | tup xs =>
    cases e
    obtain ⟨a, vs, rfl, h1, h2, h3⟩ := r
    refine .inl (.inr (.inl ⟨vs, SqT.of (sb.tup h1), ?_⟩))
    cases xs with
    | nil => rw [show vs = [] from h3]; rfl
    | cons d ds => obtain ⟨v, ws, rfl, _⟩ := h3; rfl
  | tab xs =>
    cases e
    obtain ⟨a, vs, rfl, h1, h2, h3⟩ := r
    refine .inr ⟨a, vs, rfl, sb.dK h1, ?_⟩
    cases xs with
    | nil => rw [show vs = [] from h3]; rfl
    | cons d ds => obtain ⟨k, d⟩ := d; obtain ⟨v, ws, rfl, _⟩ := h3; rfl
  | kro xs =>
    cases e
    obtain ⟨a, vs, rfl, h1, h2, h3⟩ := r
    refine .inl (.inl ⟨vs, sb.sqL h1, ?_⟩)
    cases xs with
    | nil => rw [show vs = [] from h3]; rfl
    | cons d ds => obtain ⟨v, ws, rfl, _⟩ := h3; rfl
  | exc _ _ => cases e
  | obj _ => cases e
def tTruW (K : PySem.W.Frag) (ta : TE) : TT := fun σ H Q => ta σ H fun x H' => ∃ k, TruW K x H' k ∧ Q k H'
theorem sat_tru (hK : R.K = X.K) (σ : L2.St) (H : Hp) (Q : Bool → Hp → Prop) (h : tDT R W O (dTst f truD) σ H Q) : tTruW X.K (tD R W O f) σ H Q := by
  obtain ⟨F, ρ, s, w, pu, p⟩ := h
  refine ⟨F, ρ, s, w, pu, p.bnd.imp (fun d s1 F1 H1 w1 st1 p1 v rv => ?_) fun _ _ _ _ _ _ z => z⟩
  obtain ⟨c, ec, k⟩ := p1.lift
  exact ⟨c, by rw [← hK]; exact truW_of w1.sub rv ec, k F1 H1 w1 Stp.refl⟩
/-- an expression as a test -/
theorem dt_tru (hK : R.K = X.K) (ha : PE X a (tD R W O f)) (he : ∀ whole, isTrue a X.env whole = (do let v ← whole; standAt a.pos; holding [v] (truthy v)) := by intro _; rfl) : PT X a (tDT R W O (dTst f truD)) := by
  refine pt_imp (t := tTruW X.K (tD R W O f)) ⟨fun pins s σ H Q I h => ?_⟩ (sat_tru hK)
  exact PyProof.Rows.isTrue_plain (thn (ha.run pins s σ H _ I h) fun v s1 ⟨x, H1, I1, r1, q1⟩ => tru_okW pins s1 σ H1 x v Q I1 r1 q1) (he _)
variable {c c' : Sl → M R.S Bool} {rest : List Expr}
theorem dt_not (ha : PT X a (tDT R W O c)) : PT X (.UnaryOp .Not a pos) (tDT R W O (tNotD c)) := pt_imp (pt_not ha) fun σ H Q h => by
  obtain ⟨F, ρ, s, w, pu, p⟩ := h
  exact ⟨F, ρ, s, w, pu, p.bnd.imp (fun b s1 F1 H1 w1 st1 p1 => p1 F1 H1 w1 Stp.refl) fun _ _ _ _ _ _ z => z⟩
theorem dw_and1 (ha : PT X a (tDT R W O c)) : PW X (.BoolOp .And [a] pos) (tDT R W O c) := pw_and1 ha
theorem dw_or1 (ha : PT X a (tDT R W O c)) : PW X (.BoolOp .Or [a] pos) (tDT R W O c) := pw_or1 ha
theorem dw_and (ha : PT X a (tDT R W O c)) (hb : PW X (.BoolOp .And (b :: rest) pos) (tDT R W O c')) : PW X (.BoolOp .And (a :: b :: rest) pos) (tDT R W O (tAndD c c')) := pw_imp (pw_and ha hb) fun σ H Q h => by
  obtain ⟨F, ρ, s, w, pu, p⟩ := h
  refine ⟨F, ρ, s, w, pu, p.bnd.imp (fun b s1 F1 H1 w1 st1 p1 => ?_) fun _ _ _ _ _ _ z => z⟩
  cases b with
  | true => rw [if_pos rfl] at p1 ⊢; exact ⟨F1, ρ, s1, w1, pu.mono st1.fs, p1⟩
  | false => rw [if_neg Bool.false_ne_true] at p1 ⊢; exact p1 F1 H1 w1 Stp.refl
theorem dw_or (ha : PT X a (tDT R W O c)) (hb : PW X (.BoolOp .Or (b :: rest) pos) (tDT R W O c')) : PW X (.BoolOp .Or (a :: b :: rest) pos) (tDT R W O (tOrD c c')) := pw_imp (pw_or ha hb) fun σ H Q h => by
  obtain ⟨F, ρ, s, w, pu, p⟩ := h
  refine ⟨F, ρ, s, w, pu, p.bnd.imp (fun b s1 F1 H1 w1 st1 p1 => ?_) fun _ _ _ _ _ _ z => z⟩
  cases b with
  | true => rw [if_pos rfl] at p1 ⊢; exact p1 F1 H1 w1 Stp.refl
  | false => rw [if_neg Bool.false_ne_true] at p1 ⊢; exact ⟨F1, ρ, s1, w1, pu.mono st1.fs, p1⟩
/-- and, or, not as values -/
theorem de_one {op} (h : PE X a (tD R W O f)) : PE X (.BoolOp op [a] pos) (tD R W O f) := pe_one h
theorem de_and (hK : R.K = X.K) (ha : PE X a (tD R W O f)) (hb : PE X (.BoolOp .And (b :: rest) pos) (tD R W O g)) : PE X (.BoolOp .And (a :: b :: rest) pos) (tD R W O (dAnd f g)) := by
  refine ⟨fun pins s σ H Q I h => ?_⟩
  obtain ⟨F, ρ, st, w, pu, p⟩ := h
  refine PyProof.Rows.BoolOp_and (thn (ha.run pins s σ H (fun v H1 => ∃ k, TruW X.K v H1 k ∧ if k = true then tD R W O g σ H1 Q else Q v H1) I ⟨F, ρ, st, w, pu, p.bnd.imp (fun d s1 F1 H1 w1 st1 p1 v rv => ?_) fun _ _ _ _ _ _ z => z⟩) fun v s1 ⟨x, H1, I1, r1, q1⟩ => ?_)
  · obtain ⟨k, ek, p2⟩ := p1.bnd.lift
    refine ⟨k, by rw [← hK]; exact truW_of w1.sub rv ek, ?_⟩
    have p3 := p2 F1 H1 w1 Stp.refl
    cases k with
    | true => rw [if_pos rfl] at p3 ⊢; exact ⟨F1, ρ, s1, w1, pu.mono st1.fs, p3⟩
    | false => rw [if_neg Bool.false_ne_true] at p3 ⊢; exact p3 F1 H1 w1 Stp.refl v rv
  · obtain ⟨k, e, q1⟩ := q1
    refine thn (tru_okW pins s1 σ H1 x v (fun c H2 => c = k ∧ H2 = H1) I1 r1 ⟨k, e, rfl, rfl⟩) fun c s2 hc => ?_
    obtain ⟨H2, I2, e1, e2⟩ := hc
    rw [e2] at I2
    rw [← e1] at q1
    cases c with
    | true => exact hb.run pins s2 σ H1 Q I2 q1
    | false => exact ⟨x, H1, I2, r1, q1⟩
theorem de_or (hK : R.K = X.K) (ha : PE X a (tD R W O f)) (hb : PE X (.BoolOp .Or (b :: rest) pos) (tD R W O g)) : PE X (.BoolOp .Or (a :: b :: rest) pos) (tD R W O (dOr f g)) := by
  refine ⟨fun pins s σ H Q I h => ?_⟩
  obtain ⟨F, ρ, st, w, pu, p⟩ := h
  refine PyProof.Rows.BoolOp_or (thn (ha.run pins s σ H (fun v H1 => ∃ k, TruW X.K v H1 k ∧ if k = true then Q v H1 else tD R W O g σ H1 Q) I ⟨F, ρ, st, w, pu, p.bnd.imp (fun d s1 F1 H1 w1 st1 p1 v rv => ?_) fun _ _ _ _ _ _ z => z⟩) fun v s1 ⟨x, H1, I1, r1, q1⟩ => ?_)
  · obtain ⟨k, ek, p2⟩ := p1.bnd.lift
    refine ⟨k, by rw [← hK]; exact truW_of w1.sub rv ek, ?_⟩
    have p3 := p2 F1 H1 w1 Stp.refl
    cases k with
    | true => rw [if_pos rfl] at p3 ⊢; exact p3 F1 H1 w1 Stp.refl v rv
    | false => rw [if_neg Bool.false_ne_true] at p3 ⊢; exact ⟨F1, ρ, s1, w1, pu.mono st1.fs, p3⟩
  · obtain ⟨k, e, q1⟩ := q1
    refine thn (tru_okW pins s1 σ H1 x v (fun c H2 => c = k ∧ H2 = H1) I1 r1 ⟨k, e, rfl, rfl⟩) fun c s2 hc => ?_
    obtain ⟨H2, I2, e1, e2⟩ := hc
    rw [e2] at I2
    rw [← e1] at q1
    cases c with
    | true => exact ⟨x, H1, I2, r1, q1⟩
    | false => exact hb.run pins s2 σ H1 Q I2 q1
theorem de_not (hK : R.K = X.K) (ha : PE X a (tD R W O f)) : PE X (.UnaryOp .Not a pos) (tD R W O (dUn notD f)) := by
  refine ⟨fun pins s σ H Q I h => ?_⟩
  obtain ⟨F, ρ, st, w, pu, p⟩ := h
  refine PyProof.Rows.UnaryOp_ (thn (ha.run pins s σ H (fun v H1 => ∃ k, TruW X.K v H1 k ∧ Q (.bl (!k)) H1) I ⟨F, ρ, st, w, pu, p.bnd.imp (fun d s1 F1 H1 w1 st1 p1 v rv => ?_) fun _ _ _ _ _ _ z => z⟩) fun v s1 ⟨x, H1, I1, r1, q1⟩ => ?_)
  · obtain ⟨z, ez, p2⟩ := p1.lift
    unfold notD at ez
    cases ek : truD d with
    | none => rw [ek] at ez; cases ez
    | some k =>
      rw [ek] at ez
      cases ez
      exact ⟨k, by rw [← hK]; exact truW_of w1.sub rv ek, p2 F1 H1 w1 Stp.refl _ rfl⟩
  · obtain ⟨k, e, q1⟩ := q1
    exact PyProof.Rows.not_of (thn (tru_okW pins s1 σ H1 x v (fun c H2 => Q (.bl (!c)) H2) I1 r1 ⟨k, e, q1⟩) fun c s2 ⟨H2, I2, q2⟩ => ⟨.bl (!c), H2, I2, rfl, q2⟩)
theorem de_if {t : Expr} (hc : PT X t (tDT R W O c)) (ha : PE X a (tD R W O f)) (hb : PE X b (tD R W O g)) : PE X (.IfExp t a b pos) (tD R W O (dIf c f g)) := pe_imp (pe_ifExp hc ha hb) fun σ H Q h => by
  obtain ⟨F, ρ, s, w, pu, p⟩ := h
  refine ⟨F, ρ, s, w, pu, p.bnd.imp (fun k s1 F1 H1 w1 st1 p1 => ?_) fun _ _ _ _ _ _ z => z⟩
  cases k with
  | true => rw [if_pos rfl] at p1 ⊢; exact ⟨F1, ρ, s1, w1, pu.mono st1.fs, p1⟩
  | false => rw [if_neg Bool.false_ne_true] at p1 ⊢; exact ⟨F1, ρ, s1, w1, pu.mono st1.fs, p1⟩
/-! ### arguments, displays, calls -/
variable {es : List Expr} {fs : Sl → M R.S (List D)}
theorem da_nil : PA X [] (tDA R W O dNil) := pa_imp pa_nil fun σ H Q h => by
  obtain ⟨F, ρ, s, w, pu, p⟩ := h
  exact p F H w Stp.refl [] rfl
theorem da_cons (ha : PE X e (tD R W O f)) (hr : PA X es (tDA R W O fs)) (hs : starEach (e :: es) X.env = (false, eval e X.env) :: starEach es X.env := by rfl) : PA X (e :: es) (tDA R W O (dCons f fs)) := pa_imp (pa_cons ha hr hs) fun σ H Q h => by
  obtain ⟨F, ρ, s, w, pu, p⟩ := h
  refine ⟨F, ρ, s, w, pu, p.bnd.imp (fun d s1 F1 H1 w1 st1 p1 v rv => ?_) fun _ _ _ _ _ _ z => z⟩
  refine ⟨F1, ρ, s1, w1, pu.mono st1.fs, p1.bnd.imp (fun ds s2 F2 H2 w2 st2 p2 vs rvs => ?_) fun _ _ _ _ _ _ z => z⟩
  exact p2 F2 H2 w2 Stp.refl (v :: vs) ⟨v, vs, rfl, rv.mono st2.fs, rvs⟩
def tupD (xs : List D) : Option D := if xs.length ≤ sizeLine then some (.tup xs) else none
def rowD (xs : List D) : Option D := if xs.length ≤ sizeLine then some (.row xs) else none
theorem tupD_some {xs : List D} {d : D} (h : tupD xs = some d) : xs.length ≤ sizeLine ∧ d = .tup xs := by
  unfold tupD at h
  split at h
  · cases h; exact ⟨by assumption, rfl⟩
  · cases h
theorem rowD_some {xs : List D} {d : D} (h : rowD xs = some d) : xs.length ≤ sizeLine ∧ d = .row xs := by
  unfold rowD at h
  split at h
  · cases h; exact ⟨by assumption, rfl⟩
  · cases h
/-- a new list, tuple is laid -/
theorem new_row {F H : Hp} {s : R.S} {xs : List D} {vs : List V} {p : Addr} {Q : VK} (w : Wd R F H s) (hz : xs.length ≤ sizeLine) (r : Reps R.K R.nm F xs vs) (hp : H p = none)
    (k : ∀ v F' H', Wd R F' H' s → Stp R F H F' H' → Rep R.K R.nm F' (.row xs) v → Q v H') : Q (.ref p) (upd H p (.lst vs)) := by
  have st : Stp R F H (upd F p (.lst vs)) (upd H p (.lst vs)) := Stp.new _ hp (w.free hp)
  exact k (.ref p) (upd F p (.lst vs)) _ (w.new _ hp) st ⟨p, vs, rfl, upd_same, hz, r.mono st.fs⟩
theorem new_tup {F H : Hp} {s : R.S} {xs : List D} {vs : List V} {p : Addr} {Q : VK} (w : Wd R F H s) (hz : xs.length ≤ sizeLine) (r : Reps R.K R.nm F xs vs) (hp : H p = none)
    (k : ∀ v F' H', Wd R F' H' s → Stp R F H F' H' → Rep R.K R.nm F' (.tup xs) v → Q v H') : Q (.ref p) (upd H p (.tup vs)) := by
  have st : Stp R F H (upd F p (.tup vs)) (upd H p (.tup vs)) := Stp.new _ hp (w.free hp)
  exact k (.ref p) (upd F p (.tup vs)) _ (w.new _ hp) st ⟨p, vs, rfl, upd_same, hz, r.mono st.fs⟩
theorem new_tab {F H : Hp} {s : R.S} {xs : List (Key × D)} {vs : List (Key × V)} {p : Addr} {Q : VK} (w : Wd R F H s) (hz : xs.length ≤ sizeLine) (r : RepsK R.K R.nm F xs vs) (hp : H p = none)
    (k : ∀ v F' H', Wd R F' H' s → Stp R F H F' H' → Rep R.K R.nm F' (.tab xs) v → Q v H') : Q (.ref p) (upd H p (.dK vs)) := by
  have st : Stp R F H (upd F p (.dK vs)) (upd H p (.dK vs)) := Stp.new _ hp (w.free hp)
  exact k (.ref p) (upd F p (.dK vs)) _ (w.new _ hp) st ⟨p, vs, rfl, upd_same, hz, r.mono st.fs⟩
theorem de_tup {x1} (h : PA X es (tDA R W O fs)) : PE X (.Tuple es x1 pos) (tD R W O (dAll tupD fs)) := pe_imp (pe_tup h) fun σ H Q h => by
  obtain ⟨F, ρ, s, w, pu, p⟩ := h
  refine ⟨F, ρ, s, w, pu, p.bnd.imp (fun ds s1 F1 H1 w1 st1 p1 vs rvs => ?_) fun _ _ _ _ _ _ z => z⟩
  obtain ⟨d, ed, k⟩ := p1.lift
  obtain ⟨hz, rfl⟩ := tupD_some ed
  exact ⟨by rw [rvs.length]; exact hz, fun q hq => new_tup w1 hz rvs hq fun v F' H' w' st' r' => k F' H' w' st' v r'⟩
theorem de_lst (h : PA X es (tDA R W O fs)) : PE X (.List es pos) (tD R W O (dAll rowD fs)) := pe_imp (pe_lst h) fun σ H Q h => by
  obtain ⟨F, ρ, s, w, pu, p⟩ := h
  refine ⟨F, ρ, s, w, pu, p.bnd.imp (fun ds s1 F1 H1 w1 st1 p1 vs rvs => ?_) fun _ _ _ _ _ _ z => z⟩
  obtain ⟨d, ed, k⟩ := p1.lift
  obtain ⟨hz, rfl⟩ := rowD_some ed
  exact ⟨by rw [rvs.length]; exact hz, fun q hq => new_row w1 hz rvs hq fun v F' H' w' st' r' => k F' H' w' st' v r'⟩
/-- a built-in's call -/
def CallSat (R : Reg) (r : List V → Hp → VK → Prop) (op : List D → Option D) : Prop := ∀ (xs : List V) (ds : List D) (d' : D) (F H : Hp) (s : R.S) (Q : VK), Wd R F H s → Reps R.K R.nm F ds xs → op ds = some d' →
  (∀ v F' H', Wd R F' H' s → Stp R F H F' H' → Rep R.K R.nm F' d' v → Q v H') → r xs H Q
theorem sat_cb {r : List V → Hp → VK → Prop} {op : List D → Option D} (hs : CallSat R r op) (σ : L2.St) (H : Hp) (Q : VK) (h : tD R W O (dAll op fs) σ H Q) : tCB r (tDA R W O fs) σ H Q := by
  obtain ⟨F, ρ, s, w, pu, p⟩ := h
  refine ⟨F, ρ, s, w, pu, p.bnd.imp (fun ds s1 F1 H1 w1 st1 p1 vs rvs => ?_) fun _ _ _ _ _ _ z => z⟩
  obtain ⟨d, ed, k⟩ := p1.lift
  exact hs vs ds d F1 H1 s1 Q w1 rvs ed fun v F' H' w' st' r' => k F' H' w' st' v r'
theorem de_callB {id : String} {x : Str} {p : Pos} {r : List V → Hp → VK → Prop} {op : List D → Option D} (hc : CallR X (.builtin id) r) (hs : CallSat R r op) (hg : Gl X x) (hm : X.mg x = none) (hv : bootBuiltins x = some (.builtin id)) (ha : PA X (e :: es) (tDA R W O fs)) (hn : x ≠ "__name__" := by decide) (hdb : (x == ("__debug__" : Str)) = false := by decide)
    (he : starEach (e :: es) X.env = (false, eval e X.env) :: starEach es X.env := by rfl) (hpl : (backTo pos (starEach es X.env)).any (·.1) = false := by rfl) : PE X (.Call (.Name x p) (e :: es) [] pos) (tD R W O (dAll op fs)) :=
  pe_imp (pe_callB hc hg hm hv ha hn hdb he hpl) (sat_cb hs)
theorem de_callTy {T : String} {x : Str} {p : Pos} {r : List V → Hp → VK → Prop} {op : List D → Option D} (hc : CallR X (.type T) r) (hs : CallSat R r op) (hg : Gl X x) (hm : X.mg x = none) (hv : bootBuiltins x = some (.type T)) (ha : PA X (e :: es) (tDA R W O fs)) (hn : x ≠ "__name__" := by decide) (hdb : (x == ("__debug__" : Str)) = false := by decide)
    (he : starEach (e :: es) X.env = (false, eval e X.env) :: starEach es X.env := by rfl) (hpl : (backTo pos (starEach es X.env)).any (·.1) = false := by rfl) : PE X (.Call (.Name x p) (e :: es) [] pos) (tD R W O (dAll op fs)) :=
  pe_imp (pe_callTy hc hg hm hv ha hn hdb he hpl) (sat_cb hs)
/-! ### an own def's call -/
/-- what a def that computes g promises -/
def spD (R : Reg) (n : Nat) (g : List D → M R.S D) : Sp := fun vs H Q E => vs.length = n ∧ ∃ F s ds, Wd R F H s ∧ Reps R.K R.nm F ds vs ∧
  Post R F H (g ds s) (fun d _ F' H' => ∀ v, Rep R.K R.nm F' d v → Q v H') (fun x _ F' H' => ∀ cls dd, RepX R.K R.nm F' x cls dd → E cls dd H')
/-- .. whatever changes around it -/
def spP (K : PySem.W.Frag) (n : Nat) (g : List D → M Unit D) : Sp := fun vs H Q E => ∃ nm, spD (R0 K nm) n g vs H Q E
/-- .. over the law's draws -/
def spT (K : PySem.W.Frag) (n : Nat) (g : List D → M Nat D) : Sp := fun vs H Q E => ∃ T, spD (RT K T) n g vs H Q E
theorem wd_0 {F H : Hp} {s : R.S} (w : Wd R F H s) : Wd (R0 R.K R.nm) F H () := ⟨w.sub, fun _ m => m.elim, trivial⟩
theorem wd_of_0 {F H F' H' : Hp} {s : R.S} (w : Wd R F H s) (w' : Wd (R0 R.K R.nm) F' H' ()) (st : Stp (R0 R.K R.nm) F H F' H') : Wd R F' H' s where
  sub := w'.sub
  mu := fun a m => by
    cases q : F' a with
    | none => rfl
    | some o =>
      rcases st.nw a (by rw [q]; exact fun z => nomatch z) with z | z
      · exact absurd (w.mu a m) z
      · exact absurd z (R.dom s H a w.si m)
  si := R.loc s H H' w.si fun a m => by
    cases q : H a with
    | none => exact absurd q (R.dom s H a w.si m)
    | some o => exact st.own (fun z => z) (w.mu a m) q
theorem stp_of_0 {F H F' H' : Hp} (st : Stp (R0 R.K R.nm) F H F' H') : Stp R F H F' H' := ⟨st.fs, fun a o _ h => st.hs a o (fun z => z) h, st.nw, st.th⟩
/-- a pure computation among others -/
def up {S α : Type} (m : M Unit α) : M S α := fun s => match m () with
  | .ok a _ => .ok a s
  | .exc x _ => .exc x s
  | .bot => .bot
theorem post_up {α : Type} {F H : Hp} {s : R.S} {m : M Unit α} {k : α → Hp → Hp → Prop} {x : Xn → Hp → Hp → Prop} (w : Wd R F H s) (h : Post R F H (up m s) (fun a _ F' H' => k a F' H') (fun e _ F' H' => x e F' H')) : Post (R0 R.K R.nm) F H (m ()) (fun a _ F' H' => k a F' H') (fun e _ F' H' => x e F' H') := by
  unfold up at h
  cases e : m () with
  | ok a u => rw [e] at h; exact fun F' H' w' st => h F' H' (wd_of_0 w w' st) (stp_of_0 st)
  | exc a u => rw [e] at h; exact fun F' H' w' st => h F' H' (wd_of_0 w w' st) (stp_of_0 st)
  | bot => rw [e] at h; exact h
/-- what the top says of a def -/
def Has (P : Program) (w : World) (K : PySem.W.Frag) (mg : Str → Option Value) (base : Heap) (k : Nat) (x : Str) (sp : Sp) : Prop :=
  ∃ f fd ps, FnOk P w K mg base (L2.CX P w) k f fd ps sp ∧ mg x = some (.ref f) ∧ PySem.W.keepIn K (.ref f) = true ∧ Binds K fd ps []
/-- what a body leans on -/
structure Cxt (X : Cx) (R : Reg) (W : WX) (n : Nat) : Prop where
  hK : R.K = X.K
  tk : Takes X W
  hr : Room n X.A
  nd : X.N.Nodup
  calm : X.calm = true
theorem sat_callP {n : Nat} {g : List D → M Unit D} (σ : L2.St) (H : Hp) (Q : VK) (h : tD R W O (dCall n (fun ds => up (g ds)) fs) σ H Q) : tCallS (spP R.K n g) (WE W) (tDA R W O fs) σ H Q := by
  obtain ⟨F, ρ, s, w, pu, p⟩ := h
  refine ⟨F, ρ, s, w, pu, p.bnd.imp (fun ds s1 F1 H1 w1 st1 p1 vs rvs => ?_) fun _ _ _ _ _ _ z => z⟩
  split at p1
  · rename_i hn
    exact ⟨R.nm, by rw [rvs.length]; exact hn, F1, (), ds, wd_0 w1, rvs, post_up (k := fun d F' H' => ∀ v, Rep R.K R.nm F' d v → Q v H') (x := fun x F' H' => ∀ cls dd, RepX R.K R.nm F' x cls dd → W cls dd σ H') w1 p1⟩
  · exact False.elim p1
theorem de_callP {k n : Nat} {g : List D → M Unit D} {x : Str} {p : Pos} (c : Cxt X R W k) (h : Has X.prog X.w X.K X.mg X.base k x (spP X.K n g)) (hg : Gl X x) (ha : PA X (e :: es) (tDA R W O fs)) (hdb : (x == ("__debug__" : Str)) = false := by decide)
    (he : starEach (e :: es) X.env = (false, eval e X.env) :: starEach es X.env := by rfl) (hpl : (backTo pos (starEach es X.env)).any (·.1) = false := by rfl) : PE X (.Call (.Name x p) (e :: es) [] pos) (tD R W O (dCall n (fun ds => up (g ds)) fs)) := by
  obtain ⟨f, fd, ps, F, hm, hk, hb⟩ := h
  rw [← c.hK] at F
  exact pe_imp (pe_callS (sp := spP R.K n g) (by rw [← c.hK]; exact F) c.hr hg hm hk hb (fun σ => passAt c.tk σ) ha hdb he hpl) sat_callP
end
section
variable {X : Cx} {K : PySem.W.Frag} {T : Addr} {W : WX} {O : List Nat} {e : Expr} {es : List Expr} {fs : Sl → M Nat (List D)} {pos : Pos}
theorem sat_callT {n : Nat} {g : List D → M Nat D} (σ : L2.St) (H : Hp) (Q : VK) (h : tD (RT K T) W O (dCall n g fs) σ H Q) : tCallS (spT K n g) (WE W) (tDA (RT K T) W O fs) σ H Q := by
  obtain ⟨F, ρ, s, w, pu, p⟩ := h
  refine ⟨F, ρ, s, w, pu, p.bnd.imp (fun ds s1 F1 H1 w1 st1 p1 vs rvs => ?_) fun _ _ _ _ _ _ z => z⟩
  by_cases hn : ds.length = n
  · rw [if_pos hn] at p1
    exact ⟨T, by rw [rvs.length]; exact hn, F1, s1, ds, w1, rvs, p1⟩
  · rw [if_neg hn] at p1
    exact False.elim p1
theorem de_callT {k n : Nat} {g : List D → M Nat D} {x : Str} {p : Pos} (c : Cxt X (RT K T) W k) (h : Has X.prog X.w X.K X.mg X.base k x (spT X.K n g)) (hg : Gl X x) (ha : PA X (e :: es) (tDA (RT K T) W O fs)) (hdb : (x == ("__debug__" : Str)) = false := by decide)
    (he : starEach (e :: es) X.env = (false, eval e X.env) :: starEach es X.env := by rfl) (hpl : (backTo pos (starEach es X.env)).any (·.1) = false := by rfl) : PE X (.Call (.Name x p) (e :: es) [] pos) (tD (RT K T) W O (dCall n g fs)) := by
  obtain ⟨f, fd, ps, F, hm, hk, hb⟩ := h
  have hK : K = X.K := c.hK
  subst hK
  exact pe_imp (pe_callS F c.hr hg hm hk hb (fun σ => passAt c.tk σ) ha hdb he hpl) sat_callT
end
end Nw
set_option Elab.async false
set_option linter.all false
set_option maxRecDepth 100000
set_option maxHeartbeats 4000000
/-! Part C: what is walked, comprehensions, statements. -/
namespace Nw
open PySem PySem.Spec L2
section
variable {S : Type}
def nox {α : Type} (m : M S α) : M S α := fun s => match m s with
  | .ok a s' => .ok a s'
  | _ => .bot
/-- the turns of a comprehension -/
def lcA (tg : D → Sl → Option Sl) (t : Sl → M S Bool) (f : Sl → M S D) (r : Sl) : List D → List D → M S D
  | acc, [] => ret (.row acc)
  | acc, x :: xs => bnd (lift (tg x r)) fun r' => bnd (nox (t r')) fun b => if b = true then bnd (nox (f r')) fun y => lcA tg t f r (acc ++ [y]) xs else lcA tg t f r acc xs
def dLc (it : Sl → M S (List D)) (tg : D → Sl → Option Sl) (t : Sl → M S Bool) (f : Sl → M S D) : Sl → M S D := fun r => bnd (it r) fun xs => lcA tg t f r [] xs
def dYes : Sl → M S Bool := fun _ => ret true
end
def tgN (i : Nat) : D → Sl → Option Sl := fun d r => some (r.set i (some d))
theorem post_nox {α : Type} {R : Reg} {F H : Hp} {m : M R.S α} {s : R.S} {k : α → R.S → Hp → Hp → Prop} {x x' : Xn → R.S → Hp → Hp → Prop} (h : Post R F H (nox m s) k x) : Post R F H (m s) k x' := by
  unfold nox at h
  cases e : m s with
  | ok a s' => rw [e] at h; exact h
  | exc a s' => rw [e] at h; exact False.elim h
  | bot => rw [e] at h; exact h
/-- the wish behind a first part stays at its place -/
theorem Post.bnd0 {α β : Type} {R : Reg} {F H : Hp} {x : Xn → R.S → Hp → Hp → Prop} {m : M R.S α} {n : α → M R.S β} {s : R.S} {k : β → R.S → Hp → Hp → Prop} (h : Post R F H (Nw.bnd m n s) k x) : Post R F H (m s) (fun a s1 _ _ => Post R F H (n a s1) k x) x := by
  unfold Nw.bnd at h
  cases e : m s with
  | ok a s1 => rw [e] at h; exact fun F' H' w q => h
  | exc a s1 => rw [e] at h; exact h
  | bot => rw [e] at h; exact h
theorem Post.lift0 {α β : Type} {R : Reg} {F H : Hp} {x : Xn → R.S → Hp → Hp → Prop} {m : Option α} {n : α → M R.S β} {s : R.S} {k : β → R.S → Hp → Hp → Prop} (h : Post R F H (Nw.bnd (Nw.lift m) n s) k x) : ∃ a, m = some a ∧ Post R F H (n a s) k x := by
  cases m with
  | none => exact False.elim h
  | some a => exact ⟨a, rfl, h⟩
/-! ### a thing of one's own -/
section
variable {R : Reg} {F H F0 H0 : Hp} {s : R.S} {p : Addr}
theorem Wd.ownW (w : Wd R F H s) (hF : F p = none) (hm : ¬ R.Mu p) (o : HO) : Wd R F (upd H p o) s where
  sub := fun a u q => by
    have ne : a ≠ p := fun e => by rw [e, hF] at q; cases q
    rw [upd_ne ne]; exact w.sub a u q
  mu := w.mu
  si := R.loc s H _ w.si fun a m => upd_ne fun e => hm (by rw [← e]; exact m)
theorem Stp.ownW (st : Stp R F0 H0 F H) (h0 : H0 p = none) (o : HO) : Stp R F0 H0 F (upd H p o) where
  fs := st.fs
  hs := fun a u m q => by rw [upd_ne (ne_of_none q h0)]; exact st.hs a u m q
  nw := st.nw
  th := fun a h => by
    by_cases e : a = p
    · rw [e]; exact h0
    · rw [upd_ne e] at h; exact st.th a h
theorem Stp.freeF (st : Stp R F0 H0 F H) (hp : F0 p = none) (hh : H0 p ≠ none) : F p = none := by
  cases q : F p with
  | none => rfl
  | some o =>
    rcases st.nw p (by rw [q]; exact fun z => nomatch z) with z | z
    · exact absurd hp z
    · exact absurd z hh
theorem Wd.notMu (w : Wd R F H s) (hp : H p = none) : ¬ R.Mu p := fun m => R.dom s H p w.si m hp
/-- it is given out: from now on it stays -/
theorem Wd.frz (w : Wd R F H s) {o : HO} (hH : H p = some o) (hm : ¬ R.Mu p) : Wd R (upd F p o) H s where
  sub := fun a u q => by
    by_cases e : a = p
    · rw [e, upd_same] at q; cases q; rw [e]; exact .inl hH
    · rw [upd_ne e] at q; exact w.sub a u q
  mu := fun a m => by rw [upd_ne fun e => hm (by rw [← e]; exact m)]; exact w.mu a m
  si := w.si
theorem Stp.frz (st : Stp R F0 H0 F H) (h0 : H0 p = none) (hF : F p = none) (o : HO) : Stp R F0 H0 (upd F p o) H where
  fs := fun a u q => by
    have q' := st.fs a u q
    rw [upd_ne (ne_of_none q' hF)]; exact q'
  hs := fun a u m q => by
    rcases st.hs a u m q with h | ⟨h1, h2⟩
    · exact .inl h
    · exact .inr ⟨by rw [upd_ne (ne_of_none h1 hF)]; exact h1, h2⟩
  nw := fun a h => by
    by_cases e : a = p
    · rw [e]; exact .inr h0
    · rw [upd_ne e] at h; exact st.nw a h
  th := st.th
end
/-! ### what is walked -/
/-- what a walk leans on: plain data and locks stay -/
structure Kp (F H F2 H2 : Hp) : Prop where
  fs : Same F F2
  sub : Sub F2 H2
  lk : ∀ a ob kvs, F a = some (.dK kvs) → H a = some (.frz ob (.dK kvs)) → H2 a = some (.frz ob (.dK kvs))
theorem Stp.kp {R : Reg} {F H F2 H2 : Hp} {s : R.S} (st : Stp R F H F2 H2) (sb : Sub F2 H2) (w : Wd R F H s) : Kp F H F2 H2 := ⟨st.fs, sb, fun a ob kvs h1 h2 => st.nd (fun m => by rw [w.mu a m] at h1; cases h1) (fun _ z => nomatch z) h2⟩
structure Walks (R : Reg) (J : It) (F H : Hp) (ds : List D) : Prop where
  hz : ds.length ≤ sizeLine
  go : ∀ i F2 H2, Kp F H F2 H2 → i < ds.length → J.go i H2
  yld : ∀ i F2 H2 x H3, Kp F H F2 H2 → i < ds.length → J.yld i H2 x H3 → H3 = H2 ∧ ∃ d, ds[i]? = some d ∧ Rep R.K R.nm F2 d x
  stop : ∀ F2 H2, Kp F H F2 H2 → J.stop ds.length H2
section
variable (R : Reg) (W : WX) (O : List Nat)
def tDI (f : Sl → M R.S (List D)) : TI := fun σ H Q => ∃ F r s, Wd R F H s ∧ Pu R O F σ r ∧ Post R F H (f r s) (fun ds _ F' H' => ∀ J, Walks R J F' H' ds → Q J H') (fun x _ F' H' => ∀ cls dd, RepX R.K R.nm F' x cls dd → W cls dd σ H')
end
/-- the signs of a text -/
def signs (x : Str) : List D := x.cps.toList.map fun c => .str ⟨#[c]⟩
/-- what a for walks in a thing -/
def itemsD : D → Option (List D)
  | .row xs => some xs
  | .tup xs => some xs
  | .kro xs => some xs
  | .str x => some (signs x)
  | _ => none
def dItems {S : Type} (f : Sl → M S D) : Sl → M S (List D) := fun r => bnd (f r) fun x => lift (itemsD x)
def rngD : List D → Option (List D)
  | [.int j] => if 0 ≤ j ∧ j ≤ sizeLine then some ((List.range j.toNat).map fun (i : Nat) => .int (i : Int)) else none
  | _ => none
def dRange {S : Type} (f : Sl → M S (List D)) : Sl → M S (List D) := fun r => bnd (f r) fun x => lift (rngD x)
section
variable {X : Cx} {R : Reg} {W : WX} {O : List Nat} {tg e : Expr} {es : List Expr} {pos : Pos} {f : Sl → M R.S D} {fs : Sl → M R.S (List D)}
theorem walks_list {F H : Hp} {a : Addr} {ds : List D} {vs : List V} (K : PySem.W.Frag) (hq : SqL K F a vs) (hz : ds.length ≤ sizeLine) (r : Reps R.K R.nm F ds vs) : Walks R (Itl K a) F H ds where
  hz := hz
  go := fun i F2 H2 st h => by
    obtain ⟨v, h1, h2⟩ := r.get (List.getElem?_eq_getElem h)
    exact ⟨vs, v, st.sub.sqL (sqL_mono st.fs hq), h1⟩
  yld := fun i F2 H2 x H3 st h y => by
    obtain ⟨v, h1, h2⟩ := r.get (List.getElem?_eq_getElem h)
    obtain ⟨e, y⟩ := y
    have q := y vs (st.sub.sqL (sqL_mono st.fs hq))
    rw [h1] at q
    cases q
    exact ⟨e, _, List.getElem?_eq_getElem h, h2.mono st.fs⟩
  stop := fun F2 H2 st => ⟨vs, st.sub.sqL (sqL_mono st.fs hq), by rw [r.length]; exact Nat.le_refl _⟩
theorem walks_tup {F H : Hp} {a : Addr} {ds : List D} {vs : List V} (K : PySem.W.Frag) (hq : F a = some (.tup vs)) (hz : ds.length ≤ sizeLine) (r : Reps R.K R.nm F ds vs) : Walks R (Itt K a) F H ds where
  hz := hz
  go := fun i F2 H2 st h => by
    obtain ⟨v, h1, h2⟩ := r.get (List.getElem?_eq_getElem h)
    exact ⟨vs, v, SqT.of (st.sub.tup (st.fs _ _ hq)), h1⟩
  yld := fun i F2 H2 x H3 st h y => by
    obtain ⟨v, h1, h2⟩ := r.get (List.getElem?_eq_getElem h)
    obtain ⟨e, y⟩ := y
    have q := y vs (SqT.of (st.sub.tup (st.fs _ _ hq)))
    rw [h1] at q
    cases q
    exact ⟨e, _, List.getElem?_eq_getElem h, h2.mono st.fs⟩
  stop := fun F2 H2 st => ⟨vs, SqT.of (st.sub.tup (st.fs _ _ hq)), by rw [r.length]; exact Nat.le_refl _⟩
theorem signs_length (x : Str) : (signs x).length = x.cps.size := by
  unfold signs
  rw [List.length_map, Array.length_toList]
theorem str_length (x : Str) : x.length = x.cps.size := rfl
theorem walks_str {F H : Hp} {x : Str} (hz : x.length ≤ sizeLine) : Walks R (Its x) F H (signs x) where
  hz := by rw [signs_length]; exact hz
  go := fun i F2 H2 st h => by rw [signs_length] at h; exact h
  yld := fun i F2 H2 v H3 st h y => by
    obtain ⟨e, c, hc, hv⟩ := y
    refine ⟨e, .str ⟨#[c]⟩, ?_, hv, by show 1 ≤ sizeLine; rw [sizeLine_eq]; decide⟩
    unfold signs
    rw [List.getElem?_map, Array.getElem?_toList, hc]
    rfl
  stop := fun F2 H2 st => by rw [signs_length]; exact Nat.le_refl _
theorem walks_range {F H : Hp} {n : Nat} (hz : n ≤ sizeLine) : Walks R (Itr 0 n) F H ((List.range n).map fun (i : Nat) => .int (i : Int)) where
  hz := by rw [List.length_map, List.length_range]; exact hz
  go := fun i F2 H2 st h => by rw [List.length_map, List.length_range] at h; exact h
  yld := fun i F2 H2 v H3 st h y => by
    rw [List.length_map, List.length_range] at h
    obtain ⟨e, hv⟩ := y
    refine ⟨e, .int i, ?_, ?_⟩
    · rw [List.getElem?_map, List.getElem?_range h]; rfl
    · rw [hv]; show V.int (0 + (i : Int)) = V.int i; rw [Int.zero_add]
  stop := fun F2 H2 st => by rw [List.length_map, List.length_range]; exact Nat.le_refl _
/-- a list, a tuple, a text -/
theorem di_any (hK : R.K = X.K) (he : PE X e (tD R W O f)) : PI X tg e (tDI R W O (dItems f)) :=
  pi_imp (pi_or2 (pi_list he) (pi_or2 (pi_tup he) (pi_str he))) fun σ H Q h => by
    obtain ⟨F, ρ, s, w, pu, p⟩ := h
    have hb := p.bnd
    cases ef : f ρ s with
    | bot => rw [ef] at hb; exact False.elim hb
    | exc x s1 =>
      rw [ef] at hb
      exact .inl ⟨F, ρ, s, w, pu, by rw [ef]; exact hb⟩
    | ok d s1 =>
      rw [ef] at hb
      cases d with
      | row xs =>
        refine .inl ⟨F, ρ, s, w, pu, ?_⟩
        rw [ef]
        intro F1 H1 w1 st1 v rv
        obtain ⟨ys, ey, k⟩ := (hb F1 H1 w1 st1).lift
        cases ey
        obtain ⟨a, vs, rfl, h1, h2, h3⟩ := rv
        exact ⟨a, rfl, ⟨vs, SqL.of (w1.sub.lst h1)⟩, k F1 H1 w1 Stp.refl _ (walks_list X.K (SqL.of h1) h2 h3)⟩
      | tup xs =>
        refine .inr (.inl ⟨F, ρ, s, w, pu, ?_⟩)
        rw [ef]
        intro F1 H1 w1 st1 v rv
        obtain ⟨ys, ey, k⟩ := (hb F1 H1 w1 st1).lift
        cases ey
        obtain ⟨a, vs, rfl, h1, h2, h3⟩ := rv
        exact ⟨a, rfl, ⟨vs, SqT.of (w1.sub.tup h1)⟩, k F1 H1 w1 Stp.refl _ (walks_tup X.K h1 h2 h3)⟩
      | kro xs =>
        refine .inl ⟨F, ρ, s, w, pu, ?_⟩
        rw [ef]
        intro F1 H1 w1 st1 v rv
        obtain ⟨ys, ey, k⟩ := (hb F1 H1 w1 st1).lift
        cases ey
        obtain ⟨a, vs, rfl, h1, h2, h3⟩ := rv
        rw [hK] at h1
        exact ⟨a, rfl, ⟨vs, w1.sub.sqL h1⟩, k F1 H1 w1 Stp.refl _ (walks_list X.K h1 h2 h3)⟩
      | str x =>
        refine .inr (.inr ⟨F, ρ, s, w, pu, ?_⟩)
        rw [ef]
        intro F1 H1 w1 st1 v rv
        obtain ⟨ys, ey, k⟩ := (hb F1 H1 w1 st1).lift
        cases ey
        exact ⟨x, rv.1, k F1 H1 w1 Stp.refl _ (walks_str rv.2)⟩
      | _ => exact .inl ⟨F, ρ, s, w, pu, by rw [ef]; exact fun F1 H1 w1 st1 v rv => False.elim (hb F1 H1 w1 st1)⟩
/-- range(n) -/
theorem di_range {p : Pos} (hg : Gl X "range") (hm : X.mg "range" = none) (ha : PA X [e] (tDA R W O fs)) (hs : starEach [e] X.env = [(false, eval e X.env)] := by rfl) : PI X tg (.Call (.Name "range" p) [e] [] pos) (tDI R W O (dRange fs)) :=
  pi_imp (pi_range1 hg hm ha hs) fun σ H Q h => by
    obtain ⟨F, ρ, s, w, pu, p⟩ := h
    refine ⟨F, ρ, s, w, pu, p.bnd.imp (fun ds s1 F1 H1 w1 st1 p1 vs rvs => ?_) fun _ _ _ _ _ _ z => z⟩
    obtain ⟨ys, ey, k⟩ := p1.lift
    unfold rngD at ey
    split at ey
    · rename_i j
      split at ey
      · rename_i hj
        cases ey
        obtain ⟨v, ws, rfl, rv, e2⟩ := rvs
        cases rv
        rw [show ws = [] from e2]
        refine ⟨j, rfl, by omega, ?_, k F1 H1 w1 Stp.refl _ (walks_range ?_)⟩
        · rw [sizeLine_eq] at hj; omega
        · omega
      · cases ey
    · cases ey
/-! ### targets -/
structure SetAt (R : Reg) (F : Hp) (vs : List Nat) (σ σ' : L2.St) (r r' : Sl) : Prop where
  len : σ'.length = σ.length
  lenr : r'.length = r.length
  off : ∀ j, j ∉ vs → σ'[j]? = σ[j]? ∧ r'[j]? = r[j]?
  on : ∀ j d, j ∈ vs → r'[j]? = some (some d) → ∃ v, σ'[j]? = some (some v) ∧ Rep R.K R.nm F d v
def TgSat (R : Reg) (g : TG) (vs : List Nat) (tg : D → Sl → Option Sl) : Prop := ∀ (v : V) (d : D) (σ : L2.St) (r r' : Sl) (F H : Hp) (Q : L2.St → Hp → Prop), Sub F H → Rep R.K R.nm F d v → r.length = σ.length → tg d r = some r' → (∀ σ', SetAt R F vs σ σ' r r' → Q σ' H) → g v σ H Q
theorem setAt_one {F : Hp} {i : Nat} {v : V} {d : D} {σ : L2.St} {r : Sl} (hl : r.length = σ.length) (rv : Rep R.K R.nm F d v) : SetAt R F [i] σ (σ.set i (some v)) r (r.set i (some d)) where
  len := List.length_set
  lenr := List.length_set
  off := fun j hj => by
    have ne : i ≠ j := fun e => hj (by rw [e]; exact List.mem_singleton.mpr rfl)
    exact ⟨List.getElem?_set_ne ne, List.getElem?_set_ne ne⟩
  on := fun j d' hj e => by
    have ej : j = i := List.mem_singleton.mp hj
    subst ej
    by_cases hi : j < r.length
    · rw [List.getElem?_set_self hi] at e
      cases e
      exact ⟨v, List.getElem?_set_self (by omega), rv⟩
    · rw [List.getElem?_eq_none (by rw [List.length_set]; omega)] at e
      cases e
theorem tg_name {i : Nat} : TgSat R (gName i) [i] (tgN i) := fun v d σ r r' F H Q sb rv hl e k => by
  cases e
  exact k _ (setAt_one hl rv)
theorem wipe_eq {σ σ' : L2.St} {vs : List Nat} (hl : σ'.length = σ.length) (h : ∀ j, j ∉ vs → σ'[j]? = (wipe σ vs)[j]?) : wipe σ' vs = wipe σ vs := by
  refine List.ext_getElem? fun j => ?_
  by_cases hj : j ∈ vs
  · have hw : ∀ (τ : L2.St), (wipe τ vs)[j]? = if j < τ.length then some none else none := fun τ => by
      by_cases hjl : j < τ.length
      · rw [if_pos hjl]
        cases e : (wipe τ vs)[j]? with
        | none =>
          have := List.getElem?_eq_none_iff.mp e
          rw [wipe_length] at this
          omega
        | some o =>
          cases o with
          | none => rfl
          | some x => exact absurd hj (wipe_some e).2
      · rw [if_neg hjl]
        exact List.getElem?_eq_none (by rw [wipe_length]; omega)
    rw [hw, hw, hl]
  · rw [wipe_out hj, h j hj]
/-! ### comprehensions -/
abbrev W0 : WX := fun _ _ _ _ => False
theorem sat_lc {it : Sl → M R.S (List D)} {g : TG} {vs : List Nat} {tgt : D → Sl → Option Sl} {t : Sl → M R.S Bool} {f : Sl → M R.S D} (hg : TgSat R g vs tgt) (σ : L2.St) (H : Hp) (Q : VK) (h : tD R W O (dLc it tgt t f) σ H Q) :
    tLc (tDI R W O it) g (tDT R W0 O t) (tD R W0 O f) vs σ H Q := by
  obtain ⟨F, ρ, s, w, pu, p⟩ := h
  refine ⟨F, ρ, s, w, pu, p.bnd.imp (fun ds s1 F1 H1 w1 st1 p1 J wk Dn hD => ?_) fun _ _ _ _ _ _ z => z⟩
  have pu1 := pu.mono st1.fs
  have nMu : ¬ R.Mu Dn := w1.notMu hD
  have fD : F1 Dn = none := w1.free hD
  refine ⟨fun i m Hc => m = ds.length - i ∧ i ≤ ds.length ∧ ∃ Fc sc acc ws, Wd R Fc Hc sc ∧ Stp R F1 H1 Fc Hc ∧ Hc Dn = some (.lst ws) ∧ Fc Dn = none ∧ Reps R.K R.nm Fc acc ws ∧ acc.length ≤ i ∧
    Post R F1 H1 (lcA tgt t f ρ acc (ds.drop i) sc) (fun d _ F' H' => ∀ v, Rep R.K R.nm F' d v → Q v H') (fun x _ F' H' => ∀ cls dd, RepX R.K R.nm F' x cls dd → W cls dd σ H'),
    ⟨_, rfl, Nat.zero_le _, F1, s1, [], [], w1.newH _ hD, Stp.newH _ hD, upd_same, fD, rfl, Nat.le_refl _, p1⟩, ?_⟩
  rintro i m Hc ⟨rfl, hi, Fc, sc, acc, ws, wc, stc, hDc, fDc, rc, hacc, pc⟩
  by_cases hlt : i < ds.length
  · refine .inr ⟨wk.go i Fc Hc (stc.kp wc.sub w1) hlt, fun Hn => (ds.length - (i + 1)) = ds.length - (i + 1) ∧ i + 1 ≤ ds.length ∧ ∃ Fc sc acc ws, Wd R Fc Hn sc ∧ Stp R F1 H1 Fc Hn ∧ Hn Dn = some (.lst ws) ∧ Fc Dn = none ∧ Reps R.K R.nm Fc acc ws ∧ acc.length ≤ i + 1 ∧
      Post R F1 H1 (lcA tgt t f ρ acc (ds.drop (i + 1)) sc) (fun d _ F' H' => ∀ v, Rep R.K R.nm F' d v → Q v H') (fun x _ F' H' => ∀ cls dd, RepX R.K R.nm F' x cls dd → W cls dd σ H'),
      fun H' q => ⟨_, by omega, q⟩, fun x H' y => ?_⟩
    obtain ⟨rfl, d, hd, rd⟩ := wk.yld i Fc Hc x H' (stc.kp wc.sub w1) hlt y
    have ed : ds.drop i = d :: ds.drop (i + 1) := by
      rw [List.drop_eq_getElem_cons hlt]
      rw [List.getElem?_eq_getElem hlt] at hd
      cases hd
      rfl
    rw [ed] at pc
    obtain ⟨r', er, pc⟩ := pc.lift0
    refine hg x d (wipe σ vs) ρ r' Fc H' _ wc.sub rd (by rw [wipe_length]; exact pu.len) er fun σ2 sa => ⟨wipe_eq (by rw [sa.len, wipe_length]) fun j hj => (sa.off j hj).1, ?_⟩
    have pu2 : Pu R O Fc σ2 r' := ⟨by rw [sa.lenr, sa.len, wipe_length]; exact pu.len, fun j d' hj e => by
      by_cases hv : j ∈ vs
      · exact sa.on j d' hv e
      · obtain ⟨e1, e2⟩ := sa.off j hv
        rw [e2] at e
        obtain ⟨v, h1, h2⟩ := (pu1.mono stc.fs).at_ j d' hj e
        exact ⟨v, by rw [e1, wipe_out hv]; exact h1, h2⟩⟩
    refine ⟨Fc, r', sc, wc, pu2, ((post_nox pc.bnd0).from stc).imp (fun b s3 F3 H3 w3 st3 p3 => ?_) fun _ _ _ _ _ _ z => z⟩
    have hD3 : H3 Dn = some (.lst ws) := st3.own nMu fDc hDc
    have fD3 : F3 Dn = none := st3.freeF fDc (by rw [hDc]; exact fun z => nomatch z)
    cases b with
    | false =>
      rw [if_neg Bool.false_ne_true] at p3
      refine iteF ?_
      exact ⟨rfl, hlt, F3, s3, acc, ws, w3, stc.trans st3, hD3, fD3, rc.mono st3.fs, by omega, p3⟩
    | true =>
      rw [if_pos rfl] at p3
      refine iteT ?_
      refine ⟨F3, r', s3, w3, pu2.mono st3.fs, ((post_nox p3.bnd0).from (stc.trans st3)).imp (fun y' s4 F4 H4 w4 st4 p4 u ru => ?_) fun _ _ _ _ _ _ z => z⟩
      have hD4 : H4 Dn = some (.lst ws) := st4.own nMu fD3 hD3
      have fD4 : F4 Dn = none := st4.freeF fD3 (by rw [hD3]; exact fun z => nomatch z)
      have hz := wk.hz
      refine ⟨ws, hD4, by rw [rc.length]; omega, rfl, hlt, F4, s4, acc ++ [y'], ws ++ [u], w4.ownW fD4 nMu _, ((stc.trans st3).trans st4).ownW hD _, upd_same, fD4, ((rc.mono st3.fs).mono st4.fs).append ⟨u, [], rfl, ru, rfl⟩, by rw [List.length_append, List.length_singleton]; omega, p4⟩
  · have ei : i = ds.length := by omega
    subst ei
    refine .inl ⟨wk.stop Fc Hc (stc.kp wc.sub w1), ?_⟩
    rw [List.drop_length] at pc
    have hz := wk.hz
    exact pc (upd Fc Dn (.lst ws)) Hc (wc.frz hDc nMu) (stc.frz hD fDc _) (.ref Dn) ⟨Dn, ws, rfl, upd_same, by omega, rc.mono fun b o q => by rw [upd_ne (ne_of_none q fDc)]; exact q⟩
end
end Nw
set_option Elab.async false
set_option linter.all false
set_option maxRecDepth 100000
set_option maxHeartbeats 4000000
/-! Part S: statements. -/
namespace Nw
open PySem PySem.Spec L2
section
variable {S : Type}
def liftX {α : Type} (m : M S α) (r : Sl) (k : α → Mo S) : Mo S := fun s => match m s with
  | .ok a s' => k a s'
  | .exc x s' => some (.thr x r, s')
  | .bot => none
def sNil : Sl → Mo S := fun r s => some (.next r, s)
def seqK (g : Sl → Mo S) : Option (Flw × S) → Option (Flw × S)
  | some (.next r, s) => g r s
  | some (.rt d, s) => some (.rt d, s)
  | some (.brk r, s) => some (.brk r, s)
  | some (.cnt r, s) => some (.cnt r, s)
  | some (.thr x r, s) => some (.thr x r, s)
  | none => none
def sSeq (f g : Sl → Mo S) : Sl → Mo S := fun r s => seqK g (f r s)
def sRet (f : Sl → M S D) : Sl → Mo S := fun r => liftX (f r) r fun d s => some (.rt d, s)
def sRetN : Sl → Mo S := fun r s => some (.rt .non, s)
def sDrop (f : Sl → M S D) : Sl → Mo S := fun r => liftX (f r) r fun _ s => some (.next r, s)
def sAsg (tg : D → Sl → Option Sl) (f : Sl → M S D) : Sl → Mo S := fun r => liftX (f r) r fun d s => (tg d r).map fun r' => (.next r', s)
def sIf (c : Sl → M S Bool) (f g : Sl → Mo S) : Sl → Mo S := fun r => liftX (c r) r fun b => if b = true then f r else g r
def sCnt : Sl → Mo S := fun r s => some (.cnt r, s)
def sBrk : Sl → Mo S := fun r s => some (.brk r, s)
def loopK (k : Sl → Mo S) : Option (Flw × S) → Option (Flw × S)
  | some (.next r, s) => k r s
  | some (.cnt r, s) => k r s
  | some (.brk r, s) => some (.next r, s)
  | some (.rt d, s) => some (.rt d, s)
  | some (.thr x r, s) => some (.thr x r, s)
  | none => none
def optK {α : Type} (o : Option α) (k : α → Mo S) : Mo S := fun s => match o with
  | some a => k a s
  | none => none
def forL (tg : D → Sl → Option Sl) (body : Sl → Mo S) : List D → Sl → Mo S
  | [], r => fun s => some (.next r, s)
  | x :: xs, r => optK (tg x r) fun r' s => loopK (forL tg body xs) (body r' s)
def sFor (it : Sl → M S (List D)) (tg : D → Sl → Option Sl) (body : Sl → Mo S) : Sl → Mo S := fun r => liftX (it r) r fun xs => forL tg body xs r
def whileL (c : Sl → M S Bool) (body : Sl → Mo S) : Nat → Sl → Mo S
  | 0, _ => fun _ => none
  | n + 1, r => liftX (c r) r fun b => if b = true then (fun s => loopK (whileL c body n) (body r s)) else fun s => some (.next r, s)
end
/-! ### own things -/
def OwnAt (R : Reg) (H0 F H : Hp) (a : Addr) (d : D) : Prop := H0 a = none ∧ F a = none ∧ ¬ R.Mu a ∧ match d with
  | .row ds => ∃ vs, H a = some (.lst vs) ∧ ds.length ≤ sizeLine ∧ Reps R.K R.nm F ds vs
  | .tab kvs => ∃ ws, H a = some (.dK ws) ∧ kvs.length ≤ sizeLine ∧ RepsK R.K R.nm F kvs ws
  | _ => False
structure Slots (R : Reg) (H0 : Hp) (O : List Nat) (F H : Hp) (σ : L2.St) (r : Sl) : Prop where
  pu : Pu R O F σ r
  ow : ∀ i d, i ∈ O → r[i]? = some (some d) → ∃ a, σ[i]? = some (some (.ref a)) ∧ OwnAt R H0 F H a d
  sep : ∀ i j a d e, i ∈ O → j ∈ O → r[i]? = some (some d) → r[j]? = some (some e) → σ[i]? = some (some (.ref a)) → σ[j]? = some (some (.ref a)) → i = j
section
variable {R : Reg} {H0 F H F' H' F0 : Hp} {O O' : List Nat} {σ σ' : L2.St} {r r' : Sl} {s : R.S}
theorem OwnAt.there {a : Addr} {d : D} (h : OwnAt R H0 F H a d) : ∃ o, H a = some o := by
  obtain ⟨_, _, _, h⟩ := h
  cases d with
  | row ds => obtain ⟨vs, e, _⟩ := h; exact ⟨_, e⟩
  | tab ds => obtain ⟨vs, e, _⟩ := h; exact ⟨_, e⟩
  | _ => exact h.elim
theorem OwnAt.step {a : Addr} {d : D} (h : OwnAt R H0 F H a d) (st : Stp R F H F' H') : OwnAt R H0 F' H' a d := by
  obtain ⟨o, ho⟩ := h.there
  obtain ⟨h0, hF, hm, h⟩ := h
  refine ⟨h0, st.freeF hF (by rw [ho]; exact fun z => nomatch z), hm, ?_⟩
  cases d with
  | row ds => obtain ⟨vs, e, hz, hr⟩ := h; exact ⟨vs, st.own hm hF e, hz, hr.mono st.fs⟩
  | tab ds => obtain ⟨vs, e, hz, hr⟩ := h; exact ⟨vs, st.own hm hF e, hz, hr.mono st.fs⟩
  | _ => exact h.elim
/-- .. where another own thing has changed -/
theorem OwnAt.other {a p : Addr} {d : D} {o : HO} (h : OwnAt R H0 F H a d) (ne : a ≠ p) : OwnAt R H0 F (upd H p o) a d := by
  obtain ⟨h0, hF, hm, h⟩ := h
  refine ⟨h0, hF, hm, ?_⟩
  cases d with
  | row ds => obtain ⟨vs, e, hz, hr⟩ := h; exact ⟨vs, by rw [upd_ne ne]; exact e, hz, hr⟩
  | tab ds => obtain ⟨vs, e, hz, hr⟩ := h; exact ⟨vs, by rw [upd_ne ne]; exact e, hz, hr⟩
  | _ => exact h.elim
theorem Slots.step (h : Slots R H0 O F H σ r) (st : Stp R F H F' H') : Slots R H0 O F' H' σ r :=
  ⟨h.pu.mono st.fs, fun i d hi e => let ⟨a, h1, h2⟩ := h.ow i d hi e; ⟨a, h1, h2.step st⟩, h.sep⟩
theorem Slots.setAt {vs : List Nat} (h : Slots R H0 O F H σ r) (sa : SetAt R F vs σ σ' r r') (h1 : ∀ j ∈ O', j ∈ O ∧ j ∉ vs) (h2 : ∀ j ∈ O, j ∉ vs → j ∈ O') : Slots R H0 O' F H σ' r' where
  pu := ⟨by rw [sa.lenr, sa.len]; exact h.pu.len, fun j d hj e => by
    by_cases hv : j ∈ vs
    · exact sa.on j d hv e
    · obtain ⟨e1, e2⟩ := sa.off j hv
      rw [e2] at e
      rw [e1]
      exact h.pu.at_ j d (fun z => hj (h2 j z hv)) e⟩
  ow := fun j d hj e => by
    obtain ⟨k1, k2⟩ := h1 j hj
    obtain ⟨e1, e2⟩ := sa.off j k2
    rw [e2] at e
    rw [e1]
    exact h.ow j d k1 e
  sep := fun i j a d e hi hj e1 e2 e3 e4 => by
    obtain ⟨k1, k2⟩ := h1 i hi
    obtain ⟨k3, k4⟩ := h1 j hj
    obtain ⟨o1, o2⟩ := sa.off i k2
    obtain ⟨o3, o4⟩ := sa.off j k4
    rw [o2] at e1
    rw [o4] at e2
    rw [o1] at e3
    rw [o3] at e4
    exact h.sep i j a d e k1 k3 e1 e2 e3 e4
/-- all own things are given out -/
theorem Slots.all (h : Slots R H0 O F H σ r) (w : Wd R F H s) (st : Stp R F0 H0 F H) : ∃ F', Wd R F' H s ∧ Stp R F0 H0 F' H ∧ Slots R H0 [] F' H σ r ∧ Same F F' ∧ ∀ a, F' a ≠ none → F a ≠ none ∨ ∃ i d, i ∈ O ∧ r[i]? = some (some d) ∧ σ[i]? = some (some (.ref a)) := by
  classical
  let own : Addr → Prop := fun a => ∃ i d, i ∈ O ∧ r[i]? = some (some d) ∧ σ[i]? = some (some (.ref a))
  have ownE : ∀ a, own a → ∃ d, OwnAt R H0 F H a d := fun a ⟨i, d, hi, h1, h2⟩ => by
    obtain ⟨b, h3, h4⟩ := h.ow i d hi h1
    rw [h2] at h3
    cases h3
    exact ⟨d, h4⟩
  let G : Hp := fun a => if own a then H a else F a
  have sm : Same F G := fun a o e => by
    show (if own a then H a else F a) = some o
    by_cases c : own a
    · obtain ⟨d, hd⟩ := ownE a c
      rw [hd.2.1] at e
      cases e
    · rw [if_neg c]; exact e
  refine ⟨G, ⟨fun a o e => ?_, fun a m => ?_, w.si⟩, ⟨st.fs.trans sm, fun a o m q => (st.hs a o m q).imp id fun ⟨h1, h2⟩ => ⟨sm _ _ h1, h2⟩, fun a e => ?_, st.th⟩, ⟨⟨h.pu.len, fun i d _ e => ?_⟩, fun i d hi => absurd hi (by simp), fun i j a d e hi => absurd hi (by simp)⟩, sm, fun a e => ?_⟩
  · have e : (if own a then H a else F a) = some o := e
    by_cases c : own a
    · rw [if_pos c] at e; exact .inl e
    · rw [if_neg c] at e; exact w.sub a o e
  · show (if own a then H a else F a) = none
    by_cases c : own a
    · obtain ⟨d, hd⟩ := ownE a c
      exact absurd m hd.2.2.1
    · rw [if_neg c]; exact w.mu a m
  · have e : (if own a then H a else F a) ≠ none := e
    by_cases c : own a
    · obtain ⟨d, hd⟩ := ownE a c
      exact .inr hd.1
    · rw [if_neg c] at e; exact st.nw a e
  · by_cases hi : i ∈ O
    · obtain ⟨a, h1, h0, hF, hm, h2⟩ := h.ow i d hi e
      refine ⟨_, h1, ?_⟩
      have c : own a := ⟨i, d, hi, e, h1⟩
      have ga : G a = H a := if_pos c
      cases d with
      | row ds => obtain ⟨vs, e1, hz, hr⟩ := h2; exact ⟨a, vs, rfl, by rw [ga]; exact e1, hz, hr.mono sm⟩
      | tab ds => obtain ⟨vs, e1, hz, hr⟩ := h2; exact ⟨a, vs, rfl, by rw [ga]; exact e1, hz, hr.mono sm⟩
      | _ => exact h2.elim
    · obtain ⟨v, h1, h2⟩ := h.pu.at_ i d hi e
      exact ⟨v, h1, h2.mono sm⟩
  · have e : (if own a then H a else F a) ≠ none := e
    by_cases c : own a
    · exact .inr c
    · rw [if_neg c] at e; exact .inl e
end
/-! ### what is wanted behind a statement -/
/-- a value that is new, at its top -/
def Fre (R : Reg) (H0 F H : Hp) (d : D) (v : V) : Prop := match d with
  | .row ds => ∃ a, v = .ref a ∧ OwnAt R H0 F H a (.row ds)
  | .tab ds => ∃ a, v = .ref a ∧ OwnAt R H0 F H a (.tab ds)
  | d => Rep R.K R.nm F d v
def RetOk (fr : Bool) (R : Reg) (H0 F H : Hp) (d : D) (v : V) : Prop := if fr = true then Fre R H0 F H d v else Rep R.K R.nm F d v
theorem Fre.base {R : Reg} {H0 H1 F H : Hp} {d : D} {v : V} (rb : ∀ a, H1 a = none → H0 a = none) (h : Fre R H1 F H d v) : Fre R H0 F H d v := by
  cases d with
  | row ds => obtain ⟨a, e, h1, h2⟩ := h; exact ⟨a, e, rb a h1, h2⟩
  | tab ds => obtain ⟨a, e, h1, h2⟩ := h; exact ⟨a, e, rb a h1, h2⟩
  | _ => exact h
theorem RetOk.base {fr : Bool} {R : Reg} {H0 H1 F H : Hp} {d : D} {v : V} (rb : ∀ a, H1 a = none → H0 a = none) (h : RetOk fr R H1 F H d v) : RetOk fr R H0 F H d v := by
  cases fr with
  | true => exact Fre.base rb h
  | false => exact h
/-- it is given out -/
theorem Fre.give {R : Reg} {F0 H0 F H : Hp} {s : R.S} {d : D} {v : V} (h : Fre R H0 F H d v) (w : Wd R F H s) (st : Stp R F0 H0 F H) : ∃ F', Wd R F' H s ∧ Stp R F0 H0 F' H ∧ Rep R.K R.nm F' d v := by
  have own : ∀ a o, OwnAt R H0 F H a d → H a = some o → Wd R (upd F a o) H s ∧ Stp R F0 H0 (upd F a o) H ∧ Same F (upd F a o) := fun a o h e => by
    refine ⟨w.frz e h.2.2.1, st.frz h.1 h.2.1 _, fun b u q => ?_⟩
    rw [upd_ne (ne_of_none q h.2.1)]; exact q
  cases d with
  | row ds =>
    obtain ⟨a, rfl, h⟩ := h
    obtain ⟨vs, e, hz, hr⟩ := h.2.2.2
    obtain ⟨h1, h2, h3⟩ := own a _ h e
    exact ⟨_, h1, h2, a, vs, rfl, upd_same, hz, hr.mono h3⟩
  | tab ds =>
    obtain ⟨a, rfl, h⟩ := h
    obtain ⟨vs, e, hz, hr⟩ := h.2.2.2
    obtain ⟨h1, h2, h3⟩ := own a _ h e
    exact ⟨_, h1, h2, a, vs, rfl, upd_same, hz, hr.mono h3⟩
  | _ => exact ⟨F, w, st, h⟩
def PostS (R : Reg) (fr : Bool) (F0 H0 : Hp) (o : Option (Flw × R.S)) (E : Ends) (W : WX) (B O' : List Nat) : Prop := match o with
  | some (.next r, s) => ∀ σ F H, Wd R F H s → Stp R F0 H0 F H → Slots R H0 O' F H σ r → E.nx σ H
  | some (.rt d, s) => ∀ v F H, Wd R F H s → Stp R F0 H0 F H → RetOk fr R H0 F H d v → E.rt v H
  | some (.brk r, s) => ∀ σ F H, Wd R F H s → Stp R F0 H0 F H → Slots R H0 B F H σ r → E.bk σ H
  | some (.cnt r, s) => ∀ σ F H, Wd R F H s → Stp R F0 H0 F H → Slots R H0 B F H σ r → E.ct σ H
  | some (.thr x r, s) => ∀ σ F H cls dd, Wd R F H s → Stp R F0 H0 F H → Slots R H0 [] F H σ r → RepX R.K R.nm F x cls dd → W cls dd σ H
  | none => False
def tDS (R : Reg) (W : WX) (fr : Bool) (B O O' : List Nat) (f : Sl → Mo R.S) : TS := fun E σ H => ∃ F0 H0 F r s, Wd R F H s ∧ Stp R F0 H0 F H ∧ Slots R H0 O F H σ r ∧ PostS R fr F0 H0 (f r s) E W B O'
section
variable {R : Reg} {W : WX} {fr : Bool} {B O O' O1 : List Nat} {F0 H0 F H : Hp} {σ : L2.St} {r : Sl} {s : R.S} {E : Ends}
/-- a part that computes, within a statement -/
theorem postS_x {α : Type} {m : M R.S α} {k : α → Mo R.S} (w : Wd R F H s) (st : Stp R F0 H0 F H) (sl : Slots R H0 O F H σ r) (h : PostS R fr F0 H0 (liftX m r k s) E W B O') :
    Post R F H (m s) (fun a s1 F1 H1 => Wd R F1 H1 s1 ∧ Stp R F0 H0 F1 H1 ∧ Slots R H0 O F1 H1 σ r ∧ PostS R fr F0 H0 (k a s1) E W B O') (fun x _ F' H' => ∀ cls dd, RepX R.K R.nm F' x cls dd → W cls dd σ H') := by
  unfold liftX at h
  cases e : m s with
  | ok a s1 => rw [e] at h; exact fun F1 H1 w1 st1 => ⟨w1, st.trans st1, sl.step st1, h⟩
  | exc x s1 =>
    rw [e] at h
    intro F1 H1 w1 st1 cls dd rx
    obtain ⟨G, wG, stG, slG, sm, _⟩ := (sl.step st1).all w1 (st.trans st1)
    exact h σ G H1 cls dd wG stG slG (rx.mono sm)
  | bot => rw [e] at h; exact h.elim
theorem PostS.ends {o : Option (Flw × R.S)} {E' : Ends} (h : PostS R fr F0 H0 o E W B O') (hr : E'.rt = E.rt) (hn : ∀ σ H, E.nx σ H → E'.nx σ H) (hb : ∀ σ H, E.bk σ H → E'.bk σ H) (hc : ∀ σ H, E.ct σ H → E'.ct σ H) : PostS R fr F0 H0 o E' W B O' := by
  match o, h with
  | some (.next r, s), h => exact fun σ F H w st sl => hn _ _ (h σ F H w st sl)
  | some (.rt d, s), h => exact fun v F H w st rv => by rw [hr]; exact h v F H w st rv
  | some (.brk r, s), h => exact fun σ F H w st sl => hb _ _ (h σ F H w st sl)
  | some (.cnt r, s), h => exact fun σ F H w st sl => hc _ _ (h σ F H w st sl)
  | some (.thr x r, s), h => exact h
end
section
variable {X : Cx} {R : Reg} {W : WX} {fr : Bool} {B O O' O1 : List Nat} {st : Stmt} {rest body orelse : List Stmt} {f g : Sl → Mo R.S} {pos : Pos} {e tg iter : Expr} {fe : Sl → M R.S D} {c : Sl → M R.S Bool}
theorem dss_nil : PSs X [] (tDS R W fr B O O sNil) := pss_imp pss_nil fun E σ H h => by
  obtain ⟨F0, H0, F, r, s, w, st, sl, p⟩ := h
  exact p σ F H w st sl
theorem dss_cons (h1 : PS X st (tDS R W fr B O O1 f)) (h2 : PSs X rest (tDS R W fr B O1 O' g)) : PSs X (st :: rest) (tDS R W fr B O O' (sSeq f g)) := pss_imp (pss_cons h1 h2) fun E σ H h => by
  obtain ⟨F0, H0, F, r, s, w, st, sl, p⟩ := h
  refine ⟨F0, H0, F, r, s, w, st, sl, ?_⟩
  unfold sSeq at p
  cases e : f r s with
  | none => rw [e] at p; exact p
  | some q =>
    obtain ⟨fl, s'⟩ := q
    rw [e] at p
    cases fl with
    | next r' => exact fun σ' F' H' w' st' sl' => ⟨F0, H0, F', r', s', w', st', sl', p⟩
    | rt d => exact p
    | brk r' => exact p
    | cnt r' => exact p
    | thr x r' => exact p
theorem dss_one (h1 : PS X st (tDS R W fr B O O' f)) : PSs X [st] (tDS R W fr B O O' f) := pss_one h1
theorem ds_pass : PS X (.Pass pos) (tDS R W fr B O O sNil) := ps_imp ps_pass fun E σ H h => by
  obtain ⟨F0, H0, F, r, s, w, st, sl, p⟩ := h
  exact p σ F H w st sl
theorem ds_cnt : PS X (.Continue pos) (tDS R W fr O O O' sCnt) := ps_imp ps_continue fun E σ H h => by
  obtain ⟨F0, H0, F, r, s, w, st, sl, p⟩ := h
  exact p σ F H w st sl
theorem ds_ret (he : PE X e (tD R W O fe)) : PS X (.Return (some e) pos) (tDS R W false B O O' (sRet fe)) := ps_imp (ps_ret he) fun E σ H h => by
  obtain ⟨F0, H0, F, r, s, w, st, sl, p⟩ := h
  exact ⟨F, r, s, w, sl.pu, (postS_x w st sl p).imp (fun d s1 F1 H1 w1 st1 q v rv => q.2.2.2 v F1 H1 q.1 q.2.1 rv) fun _ _ _ _ _ _ z => z⟩
theorem ds_retN : PS X (.Return none pos) (tDS R W fr B O O' sRetN) := ps_imp ps_retN fun E σ H h => by
  obtain ⟨F0, H0, F, r, s, w, st, sl, p⟩ := h
  exact p .non F H w st (by cases fr <;> exact rfl)
theorem ds_expr (he : PE X e (tD R W O fe)) (hs : swapsWith e none pos.line X.env = pure false := by rfl) : PS X (.Expr e pos) (tDS R W fr B O O (sDrop fe)) := ps_imp (ps_expr he hs) fun E σ H h => by
  obtain ⟨F0, H0, F, r, s, w, st, sl, p⟩ := h
  exact ⟨F, r, s, w, sl.pu, (postS_x w st sl p).imp (fun d s1 F1 H1 w1 st1 q v rv => q.2.2.2 σ F1 H1 q.1 q.2.1 q.2.2.1) fun _ _ _ _ _ _ z => z⟩
theorem ds_doc {x j pos pos'} : PS X (.Expr (.Constant (.str x) j pos) pos') (tDS R W fr B O O sNil) := ps_imp ps_doc fun E σ H h => by
  obtain ⟨F0, H0, F, r, s, w, st, sl, p⟩ := h
  exact p σ F H w st sl
theorem ds_if {t : Expr} {a b : List Stmt} (hc : PT X t (tDT R W O c)) (ha : PSs X a (tDS R W fr B O O' f)) (hb : PSs X b (tDS R W fr B O O' g)) : PS X (.If t a b pos) (tDS R W fr B O O' (sIf c f g)) := ps_imp (ps_if hc ha hb) fun E σ H h => by
  obtain ⟨F0, H0, F, r, s, w, st, sl, p⟩ := h
  refine ⟨F, r, s, w, sl.pu, (postS_x w st sl p).imp (fun k s1 F1 H1 w1 st1 q => ?_) fun _ _ _ _ _ _ z => z⟩
  obtain ⟨w2, st2, sl2, p2⟩ := q
  cases k with
  | true => rw [if_pos rfl] at p2 ⊢; exact ⟨F0, H0, F1, r, s1, w2, st2, sl2, p2⟩
  | false => rw [if_neg Bool.false_ne_true] at p2 ⊢; exact ⟨F0, H0, F1, r, s1, w2, st2, sl2, p2⟩
/-- target = e -/
theorem sat_asg {gt : TG} {vs : List Nat} {tgt : D → Sl → Option Sl} (hg : TgSat R gt vs tgt) (h1 : ∀ j ∈ O', j ∈ O ∧ j ∉ vs) (h2 : ∀ j ∈ O, j ∉ vs → j ∈ O') (E : Ends) (σ : L2.St) (H : Hp) (h : tDS R W fr B O O' (sAsg tgt fe) E σ H) : tAsg (tD R W O fe) gt E σ H := by
  obtain ⟨F0, H0, F, r, s, w, st, sl, p⟩ := h
  refine ⟨F, r, s, w, sl.pu, (postS_x w st sl p).imp (fun d s1 F1 H1 w1 st1 q v rv => ?_) fun _ _ _ _ _ _ z => z⟩
  obtain ⟨w2, st2, sl2, p2⟩ := q
  cases et : tgt d r with
  | none => rw [et] at p2; exact p2.elim
  | some r' =>
    rw [et] at p2
    exact hg v d σ r r' F1 H1 _ w2.sub rv sl2.pu.len et fun σ' sa => p2 σ' F1 H1 w2 st2 (sl2.setAt sa h1 h2)
theorem ds_set {i : Nat} {x : Str} {pos' : Pos} (hN : X.N.Nodup) (hi : X.N[i]? = some x) (hx : Loc X.env.scope x) (he : PE X e (tD R W O fe)) (h1 : ∀ j ∈ O', j ∈ O ∧ j ∉ [i]) (h2 : ∀ j ∈ O, j ∉ [i] → j ∈ O') (hs : swapsWith e (some (.Name x pos')) pos.line X.env = pure false := by rfl) (hf : X.fn x = true ∨ X.env.scope.names.lookup x = some .local := by first | exact .inl rfl | exact .inr rfl | assumption) :
    PS X (.Assign [.Name x pos'] e pos) (tDS R W fr B O O' (sAsg (tgN i) fe)) := ps_imp (ps_set hN hi hx he hs hf) (sat_asg tg_name h1 h2)
/-- another base, from here on -/
structure Rb (R : Reg) (F0 H0 F1 H1 : Hp) : Prop where
  st : ∀ F2 H2, Stp R F1 H1 F2 H2 → Stp R F0 H0 F2 H2
  nn : ∀ a, H1 a = none → H0 a = none
theorem Slots.base {F0 H0 F H H1 F2 H2 : Hp} {σ : L2.St} {r : Sl} (rb : ∀ a, H1 a = none → H0 a = none) (h : Slots R H1 O F H σ r) : Slots R H0 O F H σ r :=
  ⟨h.pu, fun i d hi e => let ⟨a, h1, h2, h3⟩ := h.ow i d hi e; ⟨a, h1, rb a h2, h3⟩, h.sep⟩
theorem Slots.rebase {F0 H0 F H : Hp} {σ : L2.St} {r : Sl} {s : R.S} (sl : Slots R H0 O F H σ r) (w : Wd R F H s) (st : Stp R F0 H0 F H) : ∃ H1, Stp R F H1 F H ∧ Slots R H1 O F H σ r ∧ Rb R F0 H0 F H1 ∧ ∀ a o, F a = some o → H1 a = H a := by
  classical
  let own : Addr → Prop := fun a => ∃ i d, i ∈ O ∧ r[i]? = some (some d) ∧ σ[i]? = some (some (.ref a))
  have ownE : ∀ a, own a → ∃ d, OwnAt R H0 F H a d := fun a ⟨i, d, hi, h1, h2⟩ => by
    obtain ⟨b, h3, h4⟩ := sl.ow i d hi h1
    rw [h2] at h3
    cases h3
    exact ⟨d, h4⟩
  let G : Hp := fun a => if own a then none else H a
  have g1 : ∀ a, own a → G a = none := fun a c => if_pos c
  have g2 : ∀ a, ¬ own a → G a = H a := fun a c => if_neg c
  have nn : ∀ a, G a = none → H0 a = none := fun a e => by
    by_cases c : own a
    · obtain ⟨d, hd⟩ := ownE a c; exact hd.1
    · rw [g2 a c] at e; exact st.th a e
  refine ⟨G, ⟨fun _ _ e => e, fun a o _ e => ?_, fun a e => .inl e, fun a e => ?_⟩, ⟨sl.pu, fun i d hi e => ?_, sl.sep⟩, ⟨fun F2 H2 s2 => ⟨st.fs.trans s2.fs, fun a o m e => ?_, fun a e => ?_, fun a e => nn a (s2.th a e)⟩, nn⟩, fun a o e => ?_⟩
  · by_cases c : own a
    · rw [g1 a c] at e; cases e
    · rw [g2 a c] at e; exact .inl e
  · by_cases c : own a
    · exact g1 a c
    · rw [g2 a c]; exact e
  · obtain ⟨a, h1, h2, h3⟩ := sl.ow i d hi e
    exact ⟨a, h1, g1 a ⟨i, d, hi, e, h1⟩, h3⟩
  · have q := st.hs a o m e
    by_cases c : own a
    · obtain ⟨d, hd⟩ := ownE a c; rw [hd.1] at e; cases e
    · rcases q with q | ⟨q1, kvs, ob, q2, q3⟩
      · exact s2.hs a o m (by rw [g2 a c]; exact q)
      · exact .inr ⟨s2.fs _ _ q1, kvs, ob, q2, s2.nd m (fun _ z => nomatch z) (by rw [g2 a c]; exact q3)⟩
  · rcases s2.nw a e with q | q
    · exact st.nw a q
    · exact .inr (nn a q)
  · by_cases c : own a
    · obtain ⟨d, hd⟩ := ownE a c; rw [hd.2.1] at e; cases e
    · exact g2 a c
theorem Stp.kpr {F H H1 F2 H2 : Hp} {s : R.S} (st : Stp R F H1 F2 H2) (sb : Sub F2 H2) (w : Wd R F H s) (h : ∀ a o, F a = some o → H1 a = H a) : Kp F H F2 H2 := ⟨st.fs, sb, fun a ob kvs h1 h2 => st.nd (fun m => by rw [w.mu a m] at h1; cases h1) (fun _ z => nomatch z) (by rw [h a _ h1]; exact h2)⟩
theorem PostS.rebase {F0 H0 F1 H1 : Hp} {o : Option (Flw × R.S)} {E : Ends} (h : PostS R fr F0 H0 o E W B O') (rb : Rb R F0 H0 F1 H1) : PostS R fr F1 H1 o E W B O' := by
  match o, h with
  | some (.next r, s), h => exact fun σ F H w st sl => h σ F H w (rb.st _ _ st) (sl.base (F0 := F0) (F2 := F0) (H2 := H0) rb.nn)
  | some (.rt d, s), h => exact fun v F H w st rv => h v F H w (rb.st _ _ st) (rv.base rb.nn)
  | some (.brk r, s), h => exact fun σ F H w st sl => h σ F H w (rb.st _ _ st) (sl.base (F0 := F0) (F2 := F0) (H2 := H0) rb.nn)
  | some (.cnt r, s), h => exact fun σ F H w st sl => h σ F H w (rb.st _ _ st) (sl.base (F0 := F0) (F2 := F0) (H2 := H0) rb.nn)
  | some (.thr x r, s), h => exact fun σ F H cls dd w st sl rx => h σ F H cls dd w (rb.st _ _ st) (sl.base (F0 := F0) (F2 := F0) (H2 := H0) rb.nn) rx
/-- one turn of a loop -/
theorem forL_turn {F0 H0 : Hp} {tgt : D → Sl → Option Sl} {x : D} {xs : List D} {r : Sl} {s : R.S} {E : Ends} {N : L2.St → Hp → Prop} (p : PostS R fr F0 H0 (forL tgt f (x :: xs) r s) E W B O)
    (hN : ∀ r2 s2 σ F H, Wd R F H s2 → Stp R F0 H0 F H → Slots R H0 O F H σ r2 → PostS R fr F0 H0 (forL tgt f xs r2 s2) E W B O → N σ H) : ∃ r', tgt x r = some r' ∧ PostS R fr F0 H0 (f r' s) { E with nx := N, ct := N, bk := E.nx } W O O := by
  have p : PostS R fr F0 H0 (optK (tgt x r) (fun r' s => loopK (forL tgt f xs) (f r' s)) s) E W B O := p
  cases et : tgt x r with
  | none => rw [et] at p; exact p.elim
  | some r' =>
    rw [et] at p
    refine ⟨r', rfl, ?_⟩
    have p : PostS R fr F0 H0 (loopK (forL tgt f xs) (f r' s)) E W B O := p
    cases ef : f r' s with
    | none => rw [ef] at p; exact p
    | some q =>
      obtain ⟨fl, s'⟩ := q
      rw [ef] at p
      cases fl with
      | next r2 => exact fun σ F H w st sl => hN r2 s' σ F H w st sl p
      | cnt r2 => exact fun σ F H w st sl => hN r2 s' σ F H w st sl p
      | brk r2 => exact p
      | rt d => exact p
      | thr x r2 => exact p
theorem sat_for {it : Sl → M R.S (List D)} {gt : TG} {vs : List Nat} {tgt : D → Sl → Option Sl} (hgs : TgSat R gt vs tgt) (hv : ∀ j ∈ O, j ∉ vs) (E : Ends) (σ : L2.St) (H : Hp) (h : tDS R W fr B O O (sFor it tgt f) E σ H) : tFor (tDI R W O it) gt (tDS R W fr O O O f) E σ H := by
  obtain ⟨F0, H0, F, r, s, w, st, sl, p⟩ := h
  refine ⟨F, r, s, w, sl.pu, (postS_x w st sl p).imp (fun ds s1 F1 H1 w1 st1 q J wk => ?_) fun _ _ _ _ _ _ z => z⟩
  obtain ⟨w2, st2, sl2, p2⟩ := q
  obtain ⟨Hb, stb, slb, rb, hb⟩ := sl2.rebase w2 st2
  have p3 := p2.rebase rb
  refine ⟨fun i m σc Hc => m = ds.length - i ∧ i ≤ ds.length ∧ ∃ Fc rc sc, Wd R Fc Hc sc ∧ Stp R F1 Hb Fc Hc ∧ Slots R Hb O Fc Hc σc rc ∧ PostS R fr F1 Hb (forL tgt f (ds.drop i) rc sc) E W B O,
    ⟨_, rfl, Nat.zero_le _, F1, r, s1, w2, stb, slb, p3⟩, ?_⟩
  rintro i m σc Hc ⟨rfl, hi, Fc, rc, sc, wc, stc, slc, pc⟩
  have kp : Kp F1 H1 Fc Hc := stc.kpr wc.sub w2 hb
  by_cases hlt : i < ds.length
  · refine .inr ⟨wk.go i Fc Hc kp hlt, fun σn Hn => (ds.length - (i + 1)) = ds.length - (i + 1) ∧ i + 1 ≤ ds.length ∧ ∃ Fc rc sc, Wd R Fc Hn sc ∧ Stp R F1 Hb Fc Hn ∧ Slots R Hb O Fc Hn σn rc ∧ PostS R fr F1 Hb (forL tgt f (ds.drop (i + 1)) rc sc) E W B O,
      fun σ' H' q => ⟨_, by omega, q⟩, fun x H' y => ?_⟩
    obtain ⟨rfl, d, hd, rd⟩ := wk.yld i Fc Hc x H' kp hlt y
    have ed : ds.drop i = d :: ds.drop (i + 1) := by
      rw [List.drop_eq_getElem_cons hlt]
      rw [List.getElem?_eq_getElem hlt] at hd
      cases hd
      rfl
    rw [ed] at pc
    obtain ⟨r', er, pb⟩ := forL_turn (N := fun σn Hn => (ds.length - (i + 1)) = ds.length - (i + 1) ∧ i + 1 ≤ ds.length ∧ ∃ Fc rc sc, Wd R Fc Hn sc ∧ Stp R F1 Hb Fc Hn ∧ Slots R Hb O Fc Hn σn rc ∧ PostS R fr F1 Hb (forL tgt f (ds.drop (i + 1)) rc sc) E W B O) pc fun r2 s2 σ2 F2 H2 w2 st2 sl2 q2 => ⟨rfl, hlt, F2, r2, s2, w2, st2, sl2, q2⟩
    exact hgs x d σc rc r' Fc H' _ wc.sub rd slc.pu.len er fun σ2 sa => ⟨F1, Hb, Fc, r', sc, wc, stc, slc.setAt sa (fun j hj => ⟨hj, hv j hj⟩) fun j hj _ => hj, pb⟩
  · have ei : i = ds.length := by omega
    subst ei
    rw [List.drop_length] at pc
    exact .inl ⟨wk.stop Fc Hc kp, pc σc Fc Hc wc stc slc⟩
/-- for -/
theorem ds_for {it : Sl → M R.S (List D)} {gt : TG} {vs : List Nat} {tgt : D → Sl → Option Sl} (hp : PassesOwn (model X.prog X.w) X.A X.env X.xe) (hc : X.calm = true) (hi : PI X tg iter (tDI R W O it)) (hg : PG X tg gt) (hgs : TgSat R gt vs tgt) (hb : PSs X body (tDS R W fr O O O f)) (hv : ∀ j ∈ O, j ∉ vs)
    (hs : ∀ x, foldedSetIterable iter X.env x = pure x := by intro _; rfl) : PS X (.For tg iter body [] pos) (tDS R W fr B O O (sFor it tgt f)) := ps_imp (ps_for hp hc hi hg hb hs) (sat_for hgs hv)
/-- while, so many turns at most -/
theorem sat_while (n : Nat) (E : Ends) (σ : L2.St) (H : Hp) (h : tDS R W fr B O O (fun r => whileL c f n r) E σ H) : tWhile (tDT R W O c) (tDS R W fr O O O f) E σ H := by
  obtain ⟨F0, H0, F, r, s, w, st, sl, p⟩ := h
  refine ⟨fun m σc Hc => ∃ Fc rc sc, Wd R Fc Hc sc ∧ Stp R F0 H0 Fc Hc ∧ Slots R H0 O Fc Hc σc rc ∧ PostS R fr F0 H0 (whileL c f m rc sc) E W B O, ⟨n, F, r, s, w, st, sl, p⟩, ?_⟩
  rintro m σc Hc ⟨Fc, rc, sc, wc, stc, slc, pc⟩
  cases m with
  | zero => exact pc.elim
  | succ m =>
    have pc : PostS R fr F0 H0 (liftX (c rc) rc (fun b => if b = true then (fun s => loopK (whileL c f m) (f rc s)) else fun s => some (.next rc, s)) sc) E W B O := pc
    refine ⟨Fc, rc, sc, wc, slc.pu, (postS_x wc stc slc pc).imp (fun b s1 F1 H1 w1 st1 q => ?_) fun _ _ _ _ _ _ z => z⟩
    obtain ⟨w2, st2, sl2, p2⟩ := q
    cases b with
    | false =>
      refine iteF ?_
      exact p2 σc F1 H1 w2 st2 sl2
    | true =>
      refine iteT ?_
      refine ⟨fun σ' H' => ∃ Fc rc sc, Wd R Fc H' sc ∧ Stp R F0 H0 Fc H' ∧ Slots R H0 O Fc H' σ' rc ∧ PostS R fr F0 H0 (whileL c f m rc sc) E W B O, fun σ' H' q => ⟨m, by omega, q⟩, F0, H0, F1, rc, s1, w2, st2, sl2, ?_⟩
      have p2 : PostS R fr F0 H0 (loopK (whileL c f m) (f rc s1)) E W B O := p2
      cases ef : f rc s1 with
      | none => rw [ef] at p2; exact p2
      | some q =>
        obtain ⟨fl, s'⟩ := q
        rw [ef] at p2
        cases fl with
        | next r2 => exact fun σ' F' H' w' st' sl' => ⟨F', r2, s', w', st', sl', p2⟩
        | cnt r2 => exact fun σ' F' H' w' st' sl' => ⟨F', r2, s', w', st', sl', p2⟩
        | brk r2 => exact p2
        | rt d => exact p2
        | thr x r2 => exact p2
theorem ds_while (n : Nat) (hp : PassesOwn (model X.prog X.w) X.A X.env X.xe) (hc : PT X e (tDT R W O c)) (hb : PSs X body (tDS R W fr O O O f)) : PS X (.While e body [] pos) (tDS R W fr B O O (fun r => whileL c f n r)) := ps_imp (ps_while hp hc hb) (sat_while n)
/-- a def's own things are given out ahead of the rest -/
theorem dss_frz {stm : List Stmt} (h : PSs X stm (tDS R W fr B O1 O' f)) (h1 : ∀ j ∈ O1, j ∈ O) : PSs X stm (tDS R W fr B O O' f) := pss_imp h fun E σ H h => by
  classical
  obtain ⟨F0, H0, F, r, s, w, st, sl, p⟩ := h
  -- those of O that are not in O1
  let own : Addr → Prop := fun a => ∃ i d, i ∈ O ∧ i ∉ O1 ∧ r[i]? = some (some d) ∧ σ[i]? = some (some (.ref a))
  have ownE : ∀ a, own a → ∃ d, OwnAt R H0 F H a d := fun a ⟨i, d, hi, _, k1, k2⟩ => by
    obtain ⟨b, k3, k4⟩ := sl.ow i d hi k1
    rw [k2] at k3
    cases k3
    exact ⟨d, k4⟩
  let G : Hp := fun a => if own a then H a else F a
  have g1 : ∀ a, own a → G a = H a := fun a c => if_pos c
  have g2 : ∀ a, ¬ own a → G a = F a := fun a c => if_neg c
  have sm : Same F G := fun a o e => by
    by_cases c : own a
    · obtain ⟨d, hd⟩ := ownE a c
      rw [hd.2.1] at e
      cases e
    · rw [g2 a c]; exact e
  refine ⟨F0, H0, G, r, s, ⟨fun a o e => ?_, fun a m => ?_, w.si⟩, ⟨st.fs.trans sm, fun a o m q => (st.hs a o m q).imp id fun ⟨h1, h2⟩ => ⟨sm _ _ h1, h2⟩, fun a e => ?_, st.th⟩, ⟨⟨sl.pu.len, fun i d hi e => ?_⟩, fun i d hi e => ?_, fun i j a d e hi hj => sl.sep i j a d e (h1 i hi) (h1 j hj)⟩, p⟩
  · by_cases c : own a
    · rw [g1 a c] at e; exact .inl e
    · rw [g2 a c] at e; exact w.sub a o e
  · by_cases c : own a
    · obtain ⟨d, hd⟩ := ownE a c
      exact absurd m hd.2.2.1
    · rw [g2 a c]; exact w.mu a m
  · by_cases c : own a
    · obtain ⟨d, hd⟩ := ownE a c
      exact .inr hd.1
    · rw [g2 a c] at e; exact st.nw a e
  · by_cases hO : i ∈ O
    · obtain ⟨a, k1, k0, hF, hm, k2⟩ := sl.ow i d hO e
      refine ⟨_, k1, ?_⟩
      have ga : G a = H a := g1 a ⟨i, d, hO, hi, e, k1⟩
      cases d with
      | row ds => obtain ⟨vs, e1, hz, hr⟩ := k2; exact ⟨a, vs, rfl, by rw [ga]; exact e1, hz, hr.mono sm⟩
      | tab ds => obtain ⟨vs, e1, hz, hr⟩ := k2; exact ⟨a, vs, rfl, by rw [ga]; exact e1, hz, hr.mono sm⟩
      | _ => exact k2.elim
    · obtain ⟨v, k1, k2⟩ := sl.pu.at_ i d hO e
      exact ⟨v, k1, k2.mono sm⟩
  · obtain ⟨a, k1, k0, hF, hm, k2⟩ := sl.ow i d (h1 i hi) e
    have c : ¬ own a := fun ⟨j, d', hj, hj1, e1, e2⟩ => hj1 (by rw [← sl.sep i j a d d' (h1 i hi) hj e e1 k1 e2]; exact hi)
    refine ⟨a, k1, k0, by rw [g2 a c]; exact hF, hm, ?_⟩
    cases d with
    | row ds => obtain ⟨vs, e1, hz, hr⟩ := k2; exact ⟨vs, e1, hz, hr.mono sm⟩
    | tab ds => obtain ⟨vs, e1, hz, hr⟩ := k2; exact ⟨vs, e1, hz, hr.mono sm⟩
    | _ => exact k2.elim
end
end Nw
set_option Elab.async false
set_option linter.all false
set_option maxRecDepth 100000
set_option maxHeartbeats 4000000
/-! Part E: == and !=, in. -/
namespace Nw
open PySem PySem.Spec L2
def simD : D → Bool
  | .non => true | .bl _ => true | .int _ => true | .str _ => true | .row _ => true | .tup _ => true | _ => false
def eqLN (f : D → D → Option Bool) : List D → List D → Option Bool
  | x :: xs, y :: ys => (f x y).bind fun a => (eqLN f xs ys).map fun b => a && b
  | _, _ => some true
def eqN : Nat → D → D → Option Bool
  | 0 => fun _ _ => none
  | n + 1 => fun d e => match d, e with
    | .non, .non => some true
    | .bl a, .bl b => some (a == b)
    | .int a, .int b => some (a == b)
    | .str a, .str b => some (a == b)
    | .bl a, .int b => some ((if a then 1 else 0) == b)
    | .int a, .bl b => some (a == (if b then 1 else 0))
    | .row xs, .row ys => if xs.length = ys.length then eqLN (eqN n) xs ys else some false
    | .tup xs, .tup ys => (eqLN (eqN n) xs ys).map fun a => a && (xs.length == ys.length)
    | d, e => if simD d && simD e then some false else none
section
variable {K : PySem.W.Frag} {nm : Nat → Option Addr} {F : Hp}
theorem eqLN_same {f : D → D → Option Bool} (hf : ∀ d e v k, Rep K nm F d v → Rep K nm F e v → f d e = some k → k = true) : ∀ {xs ys : List D} {vs : List V} {k : Bool}, Reps K nm F xs vs → Reps K nm F ys vs → eqLN f xs ys = some k → k = true
  | [], ys, vs, k, r, q, e => by
    rw [show vs = [] from r] at q
    cases ys with
    | nil => cases e; rfl
    | cons y ys => obtain ⟨v, ws, e', _⟩ := q; cases e'
  | x :: xs, ys, vs, k, r, q, e => by
    obtain ⟨v, ws, rfl, r1, r2⟩ := r
    cases ys with
    | nil => cases (show (v :: ws : List V) = [] from q)
    | cons y ys =>
      obtain ⟨v', ws', e', q1, q2⟩ := q
      cases e'
      unfold eqLN at e
      cases e1 : f x y with
      | none => rw [e1] at e; cases e
      | some a =>
        rw [e1] at e
        cases e2 : eqLN f xs ys with
        | none => rw [e2] at e; cases e
        | some b =>
          rw [e2] at e
          cases e
          rw [hf x y v a r1 q1 e1, eqLN_same hf r2 q2 e2]
          rfl
theorem eqN_same : ∀ (n : Nat) (d e : D) (v : V) (k : Bool), Rep K nm F d v → Rep K nm F e v → eqN n d e = some k → k = true
  | 0, _, _, _, _, _, _, h => by cases h
  | n + 1, d, e, v, k, r, q, h => by
    cases d <;> cases e <;> first
      | (cases (show (none : Option Bool) = some k from h))
      | (cases (show some true = some k from h); rfl)
      | (rename_i a b; cases (show some (a == b) = some k from h); first
          | (cases (show v = V.bl a from r); cases (show V.bl a = V.bl b from q); exact beq_self_eq_true _)
          | (cases (show v = V.int a from r); cases (show V.int a = V.int b from q); exact beq_self_eq_true _)
          | (cases r.1; cases q.1; exact beq_self_eq_true _))
      | (rename_i xs ys
         have h : (if xs.length = ys.length then eqLN (eqN n) xs ys else some false) = some k := h
         obtain ⟨a, vs, rfl, e1, _, r1⟩ := r
         obtain ⟨b, ws, e0, e2, _, r2⟩ := q
         cases e0
         rw [e1] at e2
         cases e2
         rw [if_pos (r1.length.symm.trans r2.length)] at h
         exact eqLN_same (eqN_same n) r1 r2 h)
      | (rename_i xs ys
         have h : ((eqLN (eqN n) xs ys).map fun a => a && (xs.length == ys.length)) = some k := h
         obtain ⟨a, vs, rfl, e1, _, r1⟩ := r
         obtain ⟨b, ws, e0, e2, _, r2⟩ := q
         cases e0
         rw [e1] at e2
         cases e2
         cases el : eqLN (eqN n) xs ys with
         | none => rw [el] at h; cases h
         | some z =>
           rw [el] at h
           cases h
           rw [eqLN_same (eqN_same n) r1 r2 el, r1.length.symm.trans r2.length]
           simp)
      | (exfalso; first
          | (cases (show v = V.non from r); first | (cases (show V.non = V.bl _ from q)) | (cases (show V.non = V.int _ from q)) | (cases q.1) | (obtain ⟨_, _, e0, _⟩ := q; cases e0))
          | (rename_i a b; cases (show v = V.bl a from r); first | (cases (show V.bl a = V.int _ from q)) | (cases q.1) | (obtain ⟨_, _, e0, _⟩ := q; cases e0))
          | (rename_i a; cases (show v = V.bl a from r); first | (cases (show V.bl a = V.non from q)))
          | (rename_i a b; cases (show v = V.int a from r); first | (cases (show V.int a = V.bl _ from q)) | (cases q.1) | (obtain ⟨_, _, e0, _⟩ := q; cases e0))
          | (rename_i a; cases (show v = V.int a from r); first | (cases (show V.int a = V.non from q)))
          | (cases r.1; first | (cases (show V.str _ = V.non from q)) | (cases (show V.str _ = V.bl _ from q)) | (cases (show V.str _ = V.int _ from q)) | (obtain ⟨_, _, e0, _⟩ := q; cases e0))
          | (obtain ⟨_, _, rfl, e1, _⟩ := r; first | (cases (show V.ref _ = V.non from q)) | (cases (show V.ref _ = V.bl _ from q)) | (cases (show V.ref _ = V.int _ from q)) | (cases q.1) | (obtain ⟨_, _, e0, e2, _⟩ := q; cases e0; rw [e1] at e2; cases e2)))
end
section
variable {X : Cx} {nm : Nat → Option Addr} {F H : Hp} {pins : List (Addr × Obj)} {σ : L2.St} {s : Shared}
/-- the items of two rows, one by one -/
theorem eqLN_at {f : D → D → Option Bool} {A : Around} (hf : ∀ d e v u v' u' k, Rep X.K nm F d v → Rep X.K nm F e u → RelV v v' → RelV u u' → f d e = some k → SeqAt.EqAt A s v' u' k) :
    ∀ {xs ys : List D} {vs ws : List V} {us ts : List Value} {k : Bool}, Reps X.K nm F xs vs → Reps X.K nm F ys ws → Vals vs us → Vals ws ts → eqLN f xs ys = some k →
      ∃ e : Nat → Bool, (∀ j (h1 : j < us.length) (h2 : j < ts.length), SeqAt.EqAt A s us[j] ts[j] (e j)) ∧ (List.range (min us.length ts.length)).all e = k
  | [], ys, vs, ws, us, ts, k, r, q, ru, rt, h => by
    rw [show vs = [] from r] at ru
    cases ru
    cases h
    exact ⟨fun _ => true, fun j h1 => absurd h1 (Nat.not_lt_zero j), by simp⟩
  | x :: xs, [], vs, ws, us, ts, k, r, q, ru, rt, h => by
    rw [show ws = [] from q] at rt
    cases rt
    cases h
    exact ⟨fun _ => true, fun j _ h1 => absurd h1 (Nat.not_lt_zero j), by simp⟩
  | x :: xs, y :: ys, vs, ws, us, ts, k, r, q, ru, rt, h => by
    obtain ⟨v, vs', rfl, r1, r2⟩ := r
    obtain ⟨w, ws', rfl, q1, q2⟩ := q
    cases ru with
    | cons a1 a2 =>
      cases rt with
      | cons b1 b2 =>
        unfold eqLN at h
        cases e1 : f x y with
        | none => rw [e1] at h; cases h
        | some a =>
          rw [e1] at h
          cases e2 : eqLN f xs ys with
          | none => rw [e2] at h; cases h
          | some b =>
            rw [e2] at h
            cases h
            obtain ⟨e, he, hk⟩ := eqLN_at hf r2 q2 a2 b2 e2
            refine ⟨fun j => match j with | 0 => a | j + 1 => e j, fun j h1 h2 => ?_, ?_⟩
            · cases j with
              | zero => exact hf x y v w _ _ a r1 q1 a1 b1 e1
              | succ j => exact he j (Nat.lt_of_succ_lt_succ h1) (Nat.lt_of_succ_lt_succ h2)
            · rw [List.length_cons, List.length_cons, Nat.add_min_add_right, List.range_succ_eq_map, List.all_cons, List.all_map]
              show (a && (List.range _).all e) = (a && b)
              rw [hk]
theorem all_size {xs ys : List D} {vs ws : List V} {us ts : List Value} (r : Reps X.K nm F xs vs) (q : Reps X.K nm F ys ws) (ru : Vals vs us) (rt : Vals ws ts) : us.length = xs.length ∧ ts.length = ys.length :=
  ⟨by rw [← ru.length, r.length], by rw [← rt.length, q.length]⟩
theorem rep_row (I : Inv X pins σ H s) (sb : Sub F H) {xs : List D} {v : V} {v' : Value} (r : Rep X.K nm F (.row xs) v) (rv : RelV v v') : ∃ a vs us, v = .ref a ∧ v' = .ref a ∧ F a = some (.lst vs) ∧ Reps X.K nm F xs vs ∧ Vals vs us ∧ s.heap.IsList a us.toArray := by
  obtain ⟨a, vs, rfl, h1, _, h3⟩ := r
  cases rv
  obtain ⟨us, r1, p1, _⟩ := I.list (SqL.of (sb.lst h1))
  exact ⟨a, vs, us, rfl, rfl, h1, h3, r1, p1.isList⟩
theorem rep_tup (I : Inv X pins σ H s) (sb : Sub F H) {xs : List D} {v : V} {v' : Value} (r : Rep X.K nm F (.tup xs) v) (rv : RelV v v') : ∃ a vs us, v = .ref a ∧ v' = .ref a ∧ F a = some (.tup vs) ∧ Reps X.K nm F xs vs ∧ Vals vs us ∧ s.heap.IsTuple a us.toArray := by
  obtain ⟨a, vs, rfl, h1, _, h3⟩ := r
  cases rv
  obtain ⟨us, r1, p1, _⟩ := I.tuple (SqT.of (sb.tup h1))
  exact ⟨a, vs, us, rfl, rfl, h1, h3, r1, p1⟩
/-- the comparison of two rows, two tuples -/
theorem rcAt_row (I : Inv X pins σ H s) (sb : Sub F H) {n : Nat} {A : Around} (hu : A.units < cLine) (ih : ∀ d e v u v' u' k, Rep X.K nm F d v → Rep X.K nm F e u → RelV v v' → RelV u u' → eqN n d e = some k → SeqAt.EqAt A.in1 s v' u' k)
    {xs ys : List D} {v u : V} {v' u' : Value} {k : Bool} (r : Rep X.K nm F (.row xs) v) (q : Rep X.K nm F (.row ys) u) (rv : RelV v v') (ru : RelV u u') (h : (if xs.length = ys.length then eqLN (eqN n) xs ys else some false) = some k) : SeqAt.RcAt A s v' u' k ∧ SeqAt.RcNeAt A s v' u' (!k) := by
  obtain ⟨a, vs, us, rfl, rfl, h1, h2, h3, h4⟩ := rep_row I sb r rv
  obtain ⟨b, ws, ts, rfl, rfl, k1, k2, k3, k4⟩ := rep_row I sb q ru
  obtain ⟨l1, l2⟩ := all_size h2 k2 h3 k3
  by_cases hl : xs.length = ys.length
  · rw [if_pos hl] at h
    obtain ⟨e, he, hk⟩ := eqLN_at ih h2 k2 h3 k3 h
    have hsz : us.toArray.size = ts.toArray.size := by rw [List.size_toArray, List.size_toArray]; omega
    have hmin : min us.length ts.length = us.toArray.size := by rw [List.size_toArray]; omega
    rw [hmin] at hk
    have he' : ∀ j (h1 : j < us.toArray.size) (h2 : j < ts.toArray.size), SeqAt.EqAt A.in1 s us.toArray[j] ts.toArray[j] (e j) := fun j h1 h2 => by simpa using he j (by simpa using h1) (by simpa using h2)
    rw [← hk]
    exact ⟨SeqAt.RcAt.lists h4 k4 hsz hu he', SeqAt.RcNeAt.lists h4 k4 hsz hu he'⟩
  · rw [if_neg hl] at h
    cases h
    have hsz : (us.toArray.size != ts.toArray.size) = true := by rw [List.size_toArray, List.size_toArray]; simp; omega
    exact ⟨SeqAt.RcAt.lists_lengths h4 k4 hsz hu, SeqAt.RcNeAt.lists_lengths h4 k4 hsz hu⟩
theorem rcAt_tup (I : Inv X pins σ H s) (sb : Sub F H) {n : Nat} {A : Around} (hu : A.units < cLine) (ih : ∀ d e v u v' u' k, Rep X.K nm F d v → Rep X.K nm F e u → RelV v v' → RelV u u' → eqN n d e = some k → SeqAt.EqAt A.in1 s v' u' k)
    {xs ys : List D} {v u : V} {v' u' : Value} {k : Bool} (r : Rep X.K nm F (.tup xs) v) (q : Rep X.K nm F (.tup ys) u) (rv : RelV v v') (ru : RelV u u') (h : ((eqLN (eqN n) xs ys).map fun a => a && (xs.length == ys.length)) = some k) : SeqAt.RcAt A s v' u' k ∧ SeqAt.RcNeAt A s v' u' (!k) := by
  obtain ⟨a, vs, us, rfl, rfl, h1, h2, h3, h4⟩ := rep_tup I sb r rv
  obtain ⟨b, ws, ts, rfl, rfl, k1, k2, k3, k4⟩ := rep_tup I sb q ru
  obtain ⟨l1, l2⟩ := all_size h2 k2 h3 k3
  cases el : eqLN (eqN n) xs ys with
  | none => rw [el] at h; cases h
  | some z =>
    rw [el] at h
    cases h
    obtain ⟨e, he, hk⟩ := eqLN_at ih h2 k2 h3 k3 el
    have he' : ∀ j (h1 : j < us.toArray.size) (h2 : j < ts.toArray.size), SeqAt.EqAt A.in1 s us.toArray[j] ts.toArray[j] (e j) := fun j h1 h2 => by simpa using he j (by simpa using h1) (by simpa using h2)
    have e1 := SeqAt.RcAt.tuples h4 k4 hu he'
    have e2 := SeqAt.RcNeAt.tuples h4 k4 hu he'
    rw [List.size_toArray, List.size_toArray] at e1 e2
    rw [hk] at e1 e2
    rw [← l1, ← l2]
    exact ⟨e1, e2⟩
theorem rc_step (I : Inv X pins σ H s) (sb : Sub F H) {n : Nat} {A : Around} (hu : A.units < cLine) (ih : ∀ d e v u v' u' k, Rep X.K nm F d v → Rep X.K nm F e u → RelV v v' → RelV u u' → eqN n d e = some k → SeqAt.EqAt A.in1 s v' u' k)
    {d1 d2 : D} {v1 v2 : V} {v1' v2' : Value} {k : Bool} (r1 : Rep X.K nm F d1 v1) (r2 : Rep X.K nm F d2 v2) (q1 : RelV v1 v1') (q2 : RelV v2 v2') (h : eqN (n + 1) d1 d2 = some k) : SeqAt.RcAt A s v1' v2' k ∧ SeqAt.RcNeAt A s v1' v2' (!k) := by
  cases d1 with
  | non =>
    cases d2 with
    | non =>
      cases (show v1 = V.non from r1)
      cases (show v1' = Value.none from q1)
      cases (show v2 = V.non from r2)
      cases (show v2' = Value.none from q2)
      cases h
      exact ⟨SeqAt.RcAt.none_none, SeqAt.RcNeAt.none_none⟩
    | bl x2 =>
      cases (show v1 = V.non from r1)
      cases (show v1' = Value.none from q1)
      cases (show v2 = V.bl _ from r2)
      cases (show v2' = Value.bool _ from q2)
      cases h
      exact ⟨SeqAt.RcAt.none_bool _, SeqAt.RcNeAt.none_bool _⟩
    | int x2 =>
      cases (show v1 = V.non from r1)
      cases (show v1' = Value.none from q1)
      cases (show v2 = V.int _ from r2)
      obtain ⟨t2, ht2⟩ := (show ∃ t, v2' = Value.int _ t from q2)
      cases ht2
      cases h
      exact ⟨SeqAt.RcAt.none_int _ _, SeqAt.RcNeAt.none_int _ _⟩
    | str x2 =>
      cases (show v1 = V.non from r1)
      cases (show v1' = Value.none from q1)
      obtain ⟨hv2, _⟩ := r2
      cases hv2
      obtain ⟨t2, ht2⟩ := (show ∃ t, v2' = Value.str _ t from q2)
      cases ht2
      cases h
      exact ⟨SeqAt.RcAt.none_str _ _, SeqAt.RcNeAt.none_str _ _⟩
    | row x2 =>
      cases (show v1 = V.non from r1)
      cases (show v1' = Value.none from q1)
      obtain ⟨a2, vs2, us2, hq2, hr2, _, _, _, hl2⟩ := rep_row I sb r2 q2
      cases hq2
      cases hr2
      cases h
      exact ⟨SeqAt.RcAt.none_list hl2 hu, SeqAt.RcNeAt.none_list hl2 hu⟩
    | tup x2 =>
      cases (show v1 = V.non from r1)
      cases (show v1' = Value.none from q1)
      obtain ⟨a2, vs2, us2, hq2, hr2, _, _, _, hl2⟩ := rep_tup I sb r2 q2
      cases hq2
      cases hr2
      cases h
      exact ⟨SeqAt.RcAt.none_tuple hl2 hu, SeqAt.RcNeAt.none_tuple hl2 hu⟩
    | _ => cases h
  | bl x1 =>
    cases d2 with
    | non =>
      cases (show v1 = V.bl _ from r1)
      cases (show v1' = Value.bool _ from q1)
      cases (show v2 = V.non from r2)
      cases (show v2' = Value.none from q2)
      cases h
      exact ⟨SeqAt.RcAt.bool_none _, SeqAt.RcNeAt.bool_none _⟩
    | bl x2 =>
      cases (show v1 = V.bl _ from r1)
      cases (show v1' = Value.bool _ from q1)
      cases (show v2 = V.bl _ from r2)
      cases (show v2' = Value.bool _ from q2)
      cases h
      exact ⟨SeqAt.RcAt.bool_bool _ _, SeqAt.RcNeAt.bool_bool _ _⟩
    | int x2 =>
      cases (show v1 = V.bl _ from r1)
      cases (show v1' = Value.bool _ from q1)
      cases (show v2 = V.int _ from r2)
      obtain ⟨t2, ht2⟩ := (show ∃ t, v2' = Value.int _ t from q2)
      cases ht2
      cases h
      exact ⟨SeqAt.RcAt.bool_int _ _ _, SeqAt.RcNeAt.bool_int _ _ _⟩
    | str x2 =>
      cases (show v1 = V.bl _ from r1)
      cases (show v1' = Value.bool _ from q1)
      obtain ⟨hv2, _⟩ := r2
      cases hv2
      obtain ⟨t2, ht2⟩ := (show ∃ t, v2' = Value.str _ t from q2)
      cases ht2
      cases h
      exact ⟨SeqAt.RcAt.bool_str _ _ _, SeqAt.RcNeAt.bool_str _ _ _⟩
    | row x2 =>
      cases (show v1 = V.bl _ from r1)
      cases (show v1' = Value.bool _ from q1)
      obtain ⟨a2, vs2, us2, hq2, hr2, _, _, _, hl2⟩ := rep_row I sb r2 q2
      cases hq2
      cases hr2
      cases h
      exact ⟨SeqAt.RcAt.bool_list _ hl2 hu, SeqAt.RcNeAt.bool_list _ hl2 hu⟩
    | tup x2 =>
      cases (show v1 = V.bl _ from r1)
      cases (show v1' = Value.bool _ from q1)
      obtain ⟨a2, vs2, us2, hq2, hr2, _, _, _, hl2⟩ := rep_tup I sb r2 q2
      cases hq2
      cases hr2
      cases h
      exact ⟨SeqAt.RcAt.bool_tuple _ hl2 hu, SeqAt.RcNeAt.bool_tuple _ hl2 hu⟩
    | _ => cases h
  | int x1 =>
    cases d2 with
    | non =>
      cases (show v1 = V.int _ from r1)
      obtain ⟨t1, ht1⟩ := (show ∃ t, v1' = Value.int _ t from q1)
      cases ht1
      cases (show v2 = V.non from r2)
      cases (show v2' = Value.none from q2)
      cases h
      exact ⟨SeqAt.RcAt.int_none _ _, SeqAt.RcNeAt.int_none _ _⟩
    | bl x2 =>
      cases (show v1 = V.int _ from r1)
      obtain ⟨t1, ht1⟩ := (show ∃ t, v1' = Value.int _ t from q1)
      cases ht1
      cases (show v2 = V.bl _ from r2)
      cases (show v2' = Value.bool _ from q2)
      cases h
      exact ⟨SeqAt.RcAt.int_bool _ _ _, SeqAt.RcNeAt.int_bool _ _ _⟩
    | int x2 =>
      cases (show v1 = V.int _ from r1)
      obtain ⟨t1, ht1⟩ := (show ∃ t, v1' = Value.int _ t from q1)
      cases ht1
      cases (show v2 = V.int _ from r2)
      obtain ⟨t2, ht2⟩ := (show ∃ t, v2' = Value.int _ t from q2)
      cases ht2
      cases h
      exact ⟨SeqAt.RcAt.int_int _ _ _ _, SeqAt.RcNeAt.int_int _ _ _ _⟩
    | str x2 =>
      cases (show v1 = V.int _ from r1)
      obtain ⟨t1, ht1⟩ := (show ∃ t, v1' = Value.int _ t from q1)
      cases ht1
      obtain ⟨hv2, _⟩ := r2
      cases hv2
      obtain ⟨t2, ht2⟩ := (show ∃ t, v2' = Value.str _ t from q2)
      cases ht2
      cases h
      exact ⟨SeqAt.RcAt.int_str _ _ _ _, SeqAt.RcNeAt.int_str _ _ _ _⟩
    | row x2 =>
      cases (show v1 = V.int _ from r1)
      obtain ⟨t1, ht1⟩ := (show ∃ t, v1' = Value.int _ t from q1)
      cases ht1
      obtain ⟨a2, vs2, us2, hq2, hr2, _, _, _, hl2⟩ := rep_row I sb r2 q2
      cases hq2
      cases hr2
      cases h
      exact ⟨SeqAt.RcAt.int_list _ _ hl2 hu, SeqAt.RcNeAt.int_list _ _ hl2 hu⟩
    | tup x2 =>
      cases (show v1 = V.int _ from r1)
      obtain ⟨t1, ht1⟩ := (show ∃ t, v1' = Value.int _ t from q1)
      cases ht1
      obtain ⟨a2, vs2, us2, hq2, hr2, _, _, _, hl2⟩ := rep_tup I sb r2 q2
      cases hq2
      cases hr2
      cases h
      exact ⟨SeqAt.RcAt.int_tuple _ _ hl2 hu, SeqAt.RcNeAt.int_tuple _ _ hl2 hu⟩
    | _ => cases h
  | str x1 =>
    cases d2 with
    | non =>
      obtain ⟨hv1, _⟩ := r1
      cases hv1
      obtain ⟨t1, ht1⟩ := (show ∃ t, v1' = Value.str _ t from q1)
      cases ht1
      cases (show v2 = V.non from r2)
      cases (show v2' = Value.none from q2)
      cases h
      exact ⟨SeqAt.RcAt.str_none _ _, SeqAt.RcNeAt.str_none _ _⟩
    | bl x2 =>
      obtain ⟨hv1, _⟩ := r1
      cases hv1
      obtain ⟨t1, ht1⟩ := (show ∃ t, v1' = Value.str _ t from q1)
      cases ht1
      cases (show v2 = V.bl _ from r2)
      cases (show v2' = Value.bool _ from q2)
      cases h
      exact ⟨SeqAt.RcAt.str_bool _ _ _, SeqAt.RcNeAt.str_bool _ _ _⟩
    | int x2 =>
      obtain ⟨hv1, _⟩ := r1
      cases hv1
      obtain ⟨t1, ht1⟩ := (show ∃ t, v1' = Value.str _ t from q1)
      cases ht1
      cases (show v2 = V.int _ from r2)
      obtain ⟨t2, ht2⟩ := (show ∃ t, v2' = Value.int _ t from q2)
      cases ht2
      cases h
      exact ⟨SeqAt.RcAt.str_int _ _ _ _, SeqAt.RcNeAt.str_int _ _ _ _⟩
    | str x2 =>
      obtain ⟨hv1, _⟩ := r1
      cases hv1
      obtain ⟨t1, ht1⟩ := (show ∃ t, v1' = Value.str _ t from q1)
      cases ht1
      obtain ⟨hv2, _⟩ := r2
      cases hv2
      obtain ⟨t2, ht2⟩ := (show ∃ t, v2' = Value.str _ t from q2)
      cases ht2
      cases h
      exact ⟨SeqAt.RcAt.str_str _ _ _ _, SeqAt.RcNeAt.str_str _ _ _ _⟩
    | row x2 =>
      obtain ⟨hv1, _⟩ := r1
      cases hv1
      obtain ⟨t1, ht1⟩ := (show ∃ t, v1' = Value.str _ t from q1)
      cases ht1
      obtain ⟨a2, vs2, us2, hq2, hr2, _, _, _, hl2⟩ := rep_row I sb r2 q2
      cases hq2
      cases hr2
      cases h
      exact ⟨SeqAt.RcAt.str_list _ _ hl2 hu, SeqAt.RcNeAt.str_list _ _ hl2 hu⟩
    | tup x2 =>
      obtain ⟨hv1, _⟩ := r1
      cases hv1
      obtain ⟨t1, ht1⟩ := (show ∃ t, v1' = Value.str _ t from q1)
      cases ht1
      obtain ⟨a2, vs2, us2, hq2, hr2, _, _, _, hl2⟩ := rep_tup I sb r2 q2
      cases hq2
      cases hr2
      cases h
      exact ⟨SeqAt.RcAt.str_tuple _ _ hl2 hu, SeqAt.RcNeAt.str_tuple _ _ hl2 hu⟩
    | _ => cases h
  | row x1 =>
    cases d2 with
    | non =>
      obtain ⟨a1, vs1, us1, hq1, hr1, _, _, _, hl1⟩ := rep_row I sb r1 q1
      cases hq1
      cases hr1
      cases (show v2 = V.non from r2)
      cases (show v2' = Value.none from q2)
      cases h
      exact ⟨SeqAt.RcAt.list_none hl1 hu, SeqAt.RcNeAt.list_none hl1 hu⟩
    | bl x2 =>
      obtain ⟨a1, vs1, us1, hq1, hr1, _, _, _, hl1⟩ := rep_row I sb r1 q1
      cases hq1
      cases hr1
      cases (show v2 = V.bl _ from r2)
      cases (show v2' = Value.bool _ from q2)
      cases h
      exact ⟨SeqAt.RcAt.list_bool _ hl1 hu, SeqAt.RcNeAt.list_bool _ hl1 hu⟩
    | int x2 =>
      obtain ⟨a1, vs1, us1, hq1, hr1, _, _, _, hl1⟩ := rep_row I sb r1 q1
      cases hq1
      cases hr1
      cases (show v2 = V.int _ from r2)
      obtain ⟨t2, ht2⟩ := (show ∃ t, v2' = Value.int _ t from q2)
      cases ht2
      cases h
      exact ⟨SeqAt.RcAt.list_int _ _ hl1 hu, SeqAt.RcNeAt.list_int _ _ hl1 hu⟩
    | str x2 =>
      obtain ⟨a1, vs1, us1, hq1, hr1, _, _, _, hl1⟩ := rep_row I sb r1 q1
      cases hq1
      cases hr1
      obtain ⟨hv2, _⟩ := r2
      cases hv2
      obtain ⟨t2, ht2⟩ := (show ∃ t, v2' = Value.str _ t from q2)
      cases ht2
      cases h
      exact ⟨SeqAt.RcAt.list_str _ _ hl1 hu, SeqAt.RcNeAt.list_str _ _ hl1 hu⟩
    | row x2 =>
      exact rcAt_row I sb hu ih r1 r2 q1 q2 h
    | tup x2 =>
      obtain ⟨a1, vs1, us1, hq1, hr1, _, _, _, hl1⟩ := rep_row I sb r1 q1
      cases hq1
      cases hr1
      obtain ⟨a2, vs2, us2, hq2, hr2, _, _, _, hl2⟩ := rep_tup I sb r2 q2
      cases hq2
      cases hr2
      cases h
      exact ⟨SeqAt.RcAt.list_tuple hl1 hl2 hu, SeqAt.RcNeAt.list_tuple hl1 hl2 hu⟩
    | _ => cases h
  | tup x1 =>
    cases d2 with
    | non =>
      obtain ⟨a1, vs1, us1, hq1, hr1, _, _, _, hl1⟩ := rep_tup I sb r1 q1
      cases hq1
      cases hr1
      cases (show v2 = V.non from r2)
      cases (show v2' = Value.none from q2)
      cases h
      exact ⟨SeqAt.RcAt.tuple_none hl1 hu, SeqAt.RcNeAt.tuple_none hl1 hu⟩
    | bl x2 =>
      obtain ⟨a1, vs1, us1, hq1, hr1, _, _, _, hl1⟩ := rep_tup I sb r1 q1
      cases hq1
      cases hr1
      cases (show v2 = V.bl _ from r2)
      cases (show v2' = Value.bool _ from q2)
      cases h
      exact ⟨SeqAt.RcAt.tuple_bool _ hl1 hu, SeqAt.RcNeAt.tuple_bool _ hl1 hu⟩
    | int x2 =>
      obtain ⟨a1, vs1, us1, hq1, hr1, _, _, _, hl1⟩ := rep_tup I sb r1 q1
      cases hq1
      cases hr1
      cases (show v2 = V.int _ from r2)
      obtain ⟨t2, ht2⟩ := (show ∃ t, v2' = Value.int _ t from q2)
      cases ht2
      cases h
      exact ⟨SeqAt.RcAt.tuple_int _ _ hl1 hu, SeqAt.RcNeAt.tuple_int _ _ hl1 hu⟩
    | str x2 =>
      obtain ⟨a1, vs1, us1, hq1, hr1, _, _, _, hl1⟩ := rep_tup I sb r1 q1
      cases hq1
      cases hr1
      obtain ⟨hv2, _⟩ := r2
      cases hv2
      obtain ⟨t2, ht2⟩ := (show ∃ t, v2' = Value.str _ t from q2)
      cases ht2
      cases h
      exact ⟨SeqAt.RcAt.tuple_str _ _ hl1 hu, SeqAt.RcNeAt.tuple_str _ _ hl1 hu⟩
    | row x2 =>
      obtain ⟨a1, vs1, us1, hq1, hr1, _, _, _, hl1⟩ := rep_tup I sb r1 q1
      cases hq1
      cases hr1
      obtain ⟨a2, vs2, us2, hq2, hr2, _, _, _, hl2⟩ := rep_row I sb r2 q2
      cases hq2
      cases hr2
      cases h
      exact ⟨SeqAt.RcAt.tuple_list hl1 hl2 hu, SeqAt.RcNeAt.tuple_list hl1 hl2 hu⟩
    | tup x2 =>
      exact rcAt_tup I sb hu ih r1 r2 q1 q2 h
    | _ => cases h
  | _ => cases d2 <;> cases h
theorem eq_step (I : Inv X pins σ H s) (sb : Sub F H) {n : Nat} {A : Around} (hu : A.units < cLine) (ih : ∀ d e v u v' u' k, Rep X.K nm F d v → Rep X.K nm F e u → RelV v v' → RelV u u' → eqN n d e = some k → SeqAt.EqAt A.in1 s v' u' k)
    {d1 d2 : D} {v1 v2 : V} {v1' v2' : Value} {k : Bool} (r1 : Rep X.K nm F d1 v1) (r2 : Rep X.K nm F d2 v2) (q1 : RelV v1 v1') (q2 : RelV v2 v2') (h : eqN (n + 1) d1 d2 = some k) : SeqAt.EqAt A s v1' v2' k := by
  cases d1 with
  | non =>
    cases d2 with
    | non =>
      cases (show v1 = V.non from r1)
      cases (show v1' = Value.none from q1)
      cases (show v2 = V.non from r2)
      cases (show v2' = Value.none from q2)
      cases h
      exact SeqAt.EqAt.same _
    | bl x2 =>
      cases (show v1 = V.non from r1)
      cases (show v1' = Value.none from q1)
      cases (show v2 = V.bl _ from r2)
      cases (show v2' = Value.bool _ from q2)
      cases h
      exact SeqAt.EqAt.none_bool _
    | int x2 =>
      cases (show v1 = V.non from r1)
      cases (show v1' = Value.none from q1)
      cases (show v2 = V.int _ from r2)
      obtain ⟨t2, ht2⟩ := (show ∃ t, v2' = Value.int _ t from q2)
      cases ht2
      cases h
      exact SeqAt.EqAt.none_int _ _
    | str x2 =>
      cases (show v1 = V.non from r1)
      cases (show v1' = Value.none from q1)
      obtain ⟨hv2, _⟩ := r2
      cases hv2
      obtain ⟨t2, ht2⟩ := (show ∃ t, v2' = Value.str _ t from q2)
      cases ht2
      cases h
      exact SeqAt.EqAt.none_str _ _
    | row x2 =>
      cases (show v1 = V.non from r1)
      cases (show v1' = Value.none from q1)
      obtain ⟨a2, vs2, us2, hq2, hr2, _, _, _, hl2⟩ := rep_row I sb r2 q2
      cases hq2
      cases hr2
      cases h
      exact SeqAt.EqAt.none_list hl2 hu
    | tup x2 =>
      cases (show v1 = V.non from r1)
      cases (show v1' = Value.none from q1)
      obtain ⟨a2, vs2, us2, hq2, hr2, _, _, _, hl2⟩ := rep_tup I sb r2 q2
      cases hq2
      cases hr2
      cases h
      exact SeqAt.EqAt.none_tuple hl2 hu
    | _ => cases h
  | bl x1 =>
    cases d2 with
    | non =>
      cases (show v1 = V.bl _ from r1)
      cases (show v1' = Value.bool _ from q1)
      cases (show v2 = V.non from r2)
      cases (show v2' = Value.none from q2)
      cases h
      exact SeqAt.EqAt.bool_none _
    | bl x2 =>
      cases (show v1 = V.bl _ from r1)
      cases (show v1' = Value.bool _ from q1)
      cases (show v2 = V.bl _ from r2)
      cases (show v2' = Value.bool _ from q2)
      cases h
      exact SeqAt.EqAt.bool_bool _ _
    | int x2 =>
      cases (show v1 = V.bl _ from r1)
      cases (show v1' = Value.bool _ from q1)
      cases (show v2 = V.int _ from r2)
      obtain ⟨t2, ht2⟩ := (show ∃ t, v2' = Value.int _ t from q2)
      cases ht2
      cases h
      exact SeqAt.EqAt.bool_int _ _ _
    | str x2 =>
      cases (show v1 = V.bl _ from r1)
      cases (show v1' = Value.bool _ from q1)
      obtain ⟨hv2, _⟩ := r2
      cases hv2
      obtain ⟨t2, ht2⟩ := (show ∃ t, v2' = Value.str _ t from q2)
      cases ht2
      cases h
      exact SeqAt.EqAt.bool_str _ _ _
    | row x2 =>
      cases (show v1 = V.bl _ from r1)
      cases (show v1' = Value.bool _ from q1)
      obtain ⟨a2, vs2, us2, hq2, hr2, _, _, _, hl2⟩ := rep_row I sb r2 q2
      cases hq2
      cases hr2
      cases h
      exact SeqAt.EqAt.bool_list _ hl2 hu
    | tup x2 =>
      cases (show v1 = V.bl _ from r1)
      cases (show v1' = Value.bool _ from q1)
      obtain ⟨a2, vs2, us2, hq2, hr2, _, _, _, hl2⟩ := rep_tup I sb r2 q2
      cases hq2
      cases hr2
      cases h
      exact SeqAt.EqAt.bool_tuple _ hl2 hu
    | _ => cases h
  | int x1 =>
    cases d2 with
    | non =>
      cases (show v1 = V.int _ from r1)
      obtain ⟨t1, ht1⟩ := (show ∃ t, v1' = Value.int _ t from q1)
      cases ht1
      cases (show v2 = V.non from r2)
      cases (show v2' = Value.none from q2)
      cases h
      exact SeqAt.EqAt.int_none _ _
    | bl x2 =>
      cases (show v1 = V.int _ from r1)
      obtain ⟨t1, ht1⟩ := (show ∃ t, v1' = Value.int _ t from q1)
      cases ht1
      cases (show v2 = V.bl _ from r2)
      cases (show v2' = Value.bool _ from q2)
      cases h
      exact SeqAt.EqAt.int_bool _ _ _
    | int x2 =>
      cases (show v1 = V.int _ from r1)
      obtain ⟨t1, ht1⟩ := (show ∃ t, v1' = Value.int _ t from q1)
      cases ht1
      cases (show v2 = V.int _ from r2)
      obtain ⟨t2, ht2⟩ := (show ∃ t, v2' = Value.int _ t from q2)
      cases ht2
      cases h
      exact SeqAt.EqAt.int_int _ _ _ _
    | str x2 =>
      cases (show v1 = V.int _ from r1)
      obtain ⟨t1, ht1⟩ := (show ∃ t, v1' = Value.int _ t from q1)
      cases ht1
      obtain ⟨hv2, _⟩ := r2
      cases hv2
      obtain ⟨t2, ht2⟩ := (show ∃ t, v2' = Value.str _ t from q2)
      cases ht2
      cases h
      exact SeqAt.EqAt.int_str _ _ _ _
    | row x2 =>
      cases (show v1 = V.int _ from r1)
      obtain ⟨t1, ht1⟩ := (show ∃ t, v1' = Value.int _ t from q1)
      cases ht1
      obtain ⟨a2, vs2, us2, hq2, hr2, _, _, _, hl2⟩ := rep_row I sb r2 q2
      cases hq2
      cases hr2
      cases h
      exact SeqAt.EqAt.int_list _ _ hl2 hu
    | tup x2 =>
      cases (show v1 = V.int _ from r1)
      obtain ⟨t1, ht1⟩ := (show ∃ t, v1' = Value.int _ t from q1)
      cases ht1
      obtain ⟨a2, vs2, us2, hq2, hr2, _, _, _, hl2⟩ := rep_tup I sb r2 q2
      cases hq2
      cases hr2
      cases h
      exact SeqAt.EqAt.int_tuple _ _ hl2 hu
    | _ => cases h
  | str x1 =>
    cases d2 with
    | non =>
      obtain ⟨hv1, _⟩ := r1
      cases hv1
      obtain ⟨t1, ht1⟩ := (show ∃ t, v1' = Value.str _ t from q1)
      cases ht1
      cases (show v2 = V.non from r2)
      cases (show v2' = Value.none from q2)
      cases h
      exact SeqAt.EqAt.str_none _ _
    | bl x2 =>
      obtain ⟨hv1, _⟩ := r1
      cases hv1
      obtain ⟨t1, ht1⟩ := (show ∃ t, v1' = Value.str _ t from q1)
      cases ht1
      cases (show v2 = V.bl _ from r2)
      cases (show v2' = Value.bool _ from q2)
      cases h
      exact SeqAt.EqAt.str_bool _ _ _
    | int x2 =>
      obtain ⟨hv1, _⟩ := r1
      cases hv1
      obtain ⟨t1, ht1⟩ := (show ∃ t, v1' = Value.str _ t from q1)
      cases ht1
      cases (show v2 = V.int _ from r2)
      obtain ⟨t2, ht2⟩ := (show ∃ t, v2' = Value.int _ t from q2)
      cases ht2
      cases h
      exact SeqAt.EqAt.str_int _ _ _ _
    | str x2 =>
      obtain ⟨hv1, _⟩ := r1
      cases hv1
      obtain ⟨t1, ht1⟩ := (show ∃ t, v1' = Value.str _ t from q1)
      cases ht1
      obtain ⟨hv2, _⟩ := r2
      cases hv2
      obtain ⟨t2, ht2⟩ := (show ∃ t, v2' = Value.str _ t from q2)
      cases ht2
      cases h
      exact SeqAt.EqAt.str_str _ _ _ _
    | row x2 =>
      obtain ⟨hv1, _⟩ := r1
      cases hv1
      obtain ⟨t1, ht1⟩ := (show ∃ t, v1' = Value.str _ t from q1)
      cases ht1
      obtain ⟨a2, vs2, us2, hq2, hr2, _, _, _, hl2⟩ := rep_row I sb r2 q2
      cases hq2
      cases hr2
      cases h
      exact SeqAt.EqAt.str_list _ _ hl2 hu
    | tup x2 =>
      obtain ⟨hv1, _⟩ := r1
      cases hv1
      obtain ⟨t1, ht1⟩ := (show ∃ t, v1' = Value.str _ t from q1)
      cases ht1
      obtain ⟨a2, vs2, us2, hq2, hr2, _, _, _, hl2⟩ := rep_tup I sb r2 q2
      cases hq2
      cases hr2
      cases h
      exact SeqAt.EqAt.str_tuple _ _ hl2 hu
    | _ => cases h
  | row x1 =>
    cases d2 with
    | non =>
      obtain ⟨a1, vs1, us1, hq1, hr1, _, _, _, hl1⟩ := rep_row I sb r1 q1
      cases hq1
      cases hr1
      cases (show v2 = V.non from r2)
      cases (show v2' = Value.none from q2)
      cases h
      exact SeqAt.EqAt.list_none hl1 hu
    | bl x2 =>
      obtain ⟨a1, vs1, us1, hq1, hr1, _, _, _, hl1⟩ := rep_row I sb r1 q1
      cases hq1
      cases hr1
      cases (show v2 = V.bl _ from r2)
      cases (show v2' = Value.bool _ from q2)
      cases h
      exact SeqAt.EqAt.list_bool _ hl1 hu
    | int x2 =>
      obtain ⟨a1, vs1, us1, hq1, hr1, _, _, _, hl1⟩ := rep_row I sb r1 q1
      cases hq1
      cases hr1
      cases (show v2 = V.int _ from r2)
      obtain ⟨t2, ht2⟩ := (show ∃ t, v2' = Value.int _ t from q2)
      cases ht2
      cases h
      exact SeqAt.EqAt.list_int _ _ hl1 hu
    | str x2 =>
      obtain ⟨a1, vs1, us1, hq1, hr1, _, _, _, hl1⟩ := rep_row I sb r1 q1
      cases hq1
      cases hr1
      obtain ⟨hv2, _⟩ := r2
      cases hv2
      obtain ⟨t2, ht2⟩ := (show ∃ t, v2' = Value.str _ t from q2)
      cases ht2
      cases h
      exact SeqAt.EqAt.list_str _ _ hl1 hu
    | row x2 =>
      have hh := (rc_step I sb hu ih r1 r2 q1 q2 h).1
      have hs := eqN_same (K := X.K) (nm := nm) (F := F) (n + 1) (.row x1) (.row x2)
      obtain ⟨a1, vs1, us1, hq1, hr1, _⟩ := rep_row I sb r1 q1
      obtain ⟨a2, vs2, us2, hq2, hr2, _⟩ := rep_row I sb r2 q2
      cases hq1
      cases hr1
      cases hq2
      cases hr2
      by_cases e : a1 = a2
      · subst e
        rw [hs _ k r1 r2 h]
        exact SeqAt.EqAt.same _
      · exact SeqAt.EqAt.of_refs e hh
    | tup x2 =>
      obtain ⟨a1, vs1, us1, hq1, hr1, _, _, _, hl1⟩ := rep_row I sb r1 q1
      cases hq1
      cases hr1
      obtain ⟨a2, vs2, us2, hq2, hr2, _, _, _, hl2⟩ := rep_tup I sb r2 q2
      cases hq2
      cases hr2
      cases h
      exact SeqAt.EqAt.list_tuple hl1 hl2 hu
    | _ => cases h
  | tup x1 =>
    cases d2 with
    | non =>
      obtain ⟨a1, vs1, us1, hq1, hr1, _, _, _, hl1⟩ := rep_tup I sb r1 q1
      cases hq1
      cases hr1
      cases (show v2 = V.non from r2)
      cases (show v2' = Value.none from q2)
      cases h
      exact SeqAt.EqAt.tuple_none hl1 hu
    | bl x2 =>
      obtain ⟨a1, vs1, us1, hq1, hr1, _, _, _, hl1⟩ := rep_tup I sb r1 q1
      cases hq1
      cases hr1
      cases (show v2 = V.bl _ from r2)
      cases (show v2' = Value.bool _ from q2)
      cases h
      exact SeqAt.EqAt.tuple_bool _ hl1 hu
    | int x2 =>
      obtain ⟨a1, vs1, us1, hq1, hr1, _, _, _, hl1⟩ := rep_tup I sb r1 q1
      cases hq1
      cases hr1
      cases (show v2 = V.int _ from r2)
      obtain ⟨t2, ht2⟩ := (show ∃ t, v2' = Value.int _ t from q2)
      cases ht2
      cases h
      exact SeqAt.EqAt.tuple_int _ _ hl1 hu
    | str x2 =>
      obtain ⟨a1, vs1, us1, hq1, hr1, _, _, _, hl1⟩ := rep_tup I sb r1 q1
      cases hq1
      cases hr1
      obtain ⟨hv2, _⟩ := r2
      cases hv2
      obtain ⟨t2, ht2⟩ := (show ∃ t, v2' = Value.str _ t from q2)
      cases ht2
      cases h
      exact SeqAt.EqAt.tuple_str _ _ hl1 hu
    | row x2 =>
      obtain ⟨a1, vs1, us1, hq1, hr1, _, _, _, hl1⟩ := rep_tup I sb r1 q1
      cases hq1
      cases hr1
      obtain ⟨a2, vs2, us2, hq2, hr2, _, _, _, hl2⟩ := rep_row I sb r2 q2
      cases hq2
      cases hr2
      cases h
      exact SeqAt.EqAt.tuple_list hl1 hl2 hu
    | tup x2 =>
      have hh := (rc_step I sb hu ih r1 r2 q1 q2 h).1
      have hs := eqN_same (K := X.K) (nm := nm) (F := F) (n + 1) (.tup x1) (.tup x2)
      obtain ⟨a1, vs1, us1, hq1, hr1, _⟩ := rep_tup I sb r1 q1
      obtain ⟨a2, vs2, us2, hq2, hr2, _⟩ := rep_tup I sb r2 q2
      cases hq1
      cases hr1
      cases hq2
      cases hr2
      by_cases e : a1 = a2
      · subst e
        rw [hs _ k r1 r2 h]
        exact SeqAt.EqAt.same _
      · exact SeqAt.EqAt.of_refs e hh
    | _ => cases h
  | _ => cases d2 <;> cases h
theorem eq_all (I : Inv X pins σ H s) (sb : Sub F H) : ∀ (n : Nat) (A : Around), A.units + n < cLine → ∀ d e v u v' u' k, Rep X.K nm F d v → Rep X.K nm F e u → RelV v v' → RelV u u' → eqN n d e = some k → SeqAt.EqAt A s v' u' k
  | 0, _, _, _, _, _, _, _, _, _, _, _, _, _, h => by cases h
  | n + 1, A, hu, _, _, _, _, _, _, _, r1, r2, q1, q2, h => eq_step I sb (by omega) (eq_all I sb n A.in1 (by show A.units + 1 + n < cLine; omega)) r1 r2 q1 q2 h
theorem rc_all (I : Inv X pins σ H s) (sb : Sub F H) (n : Nat) (A : Around) (hu : A.units + n < cLine) {d1 d2 : D} {v1 v2 : V} {v1' v2' : Value} {k : Bool} (r1 : Rep X.K nm F d1 v1) (r2 : Rep X.K nm F d2 v2) (q1 : RelV v1 v1') (q2 : RelV v2 v2') (h : eqN n d1 d2 = some k) : SeqAt.RcAt A s v1' v2' k ∧ SeqAt.RcNeAt A s v1' v2' (!k) := by
  cases n with
  | zero => cases h
  | succ n => exact rc_step I sb (by omega) (eq_all I sb n A.in1 (by show A.units + 1 + n < cLine; omega)) r1 r2 q1 q2 h
end
/-- d == e, d != e -/
def eqD (d e : D) : Option D := (eqN 60 d e).map .bl
def neD (d e : D) : Option D := (eqN 60 d e).map fun b => .bl (!b)
def rEqA (K : PySem.W.Frag) (nm : Nat → Option Addr) (neg : Bool) : R2 := fun x y H Q => ∃ F d e k, Sub F H ∧ Rep K nm F d x ∧ Rep K nm F e y ∧ eqN 60 d e = some k ∧ Q (.bl (if neg then !k else k)) H
section
variable {X : Cx} {R : Reg} {nm : Nat → Option Addr}
theorem op_eqA (hu : X.A.units + 64 < cLine) : OpR X (compareOp .Eq) (rEqA X.K nm false) := by
  intro pins s σ H x y v u Q I rx ry h
  obtain ⟨F, d, e, k, sb, r1, r2, h, q⟩ := h
  exact (rc_all I sb 60 X.A (by omega) r1 r2 rx ry h).1 X.prog X.w _ _ ⟨.bl k, H, I, rfl, q⟩
theorem op_neA (hu : X.A.units + 64 < cLine) : OpR X (compareOp .NotEq) (rEqA X.K nm true) := by
  intro pins s σ H x y v u Q I rx ry h
  obtain ⟨F, d, e, k, sb, r1, r2, h, q⟩ := h
  exact (rc_all I sb 60 X.A (by omega) r1 r2 rx ry h).2 X.prog X.w _ _ ⟨.bl (!k), H, I, rfl, q⟩
theorem sat_eq : OpSat R (rEqA R.K R.nm false) eqD := fun x y d e d' F H s Q w rx ry h k => by
  unfold eqD at h
  cases e1 : eqN 60 d e with
  | none => rw [e1] at h; cases h
  | some b => rw [e1] at h; cases h; exact ⟨F, d, e, b, w.sub, rx, ry, e1, k _ F H w Stp.refl rfl⟩
theorem sat_ne : OpSat R (rEqA R.K R.nm true) neD := fun x y d e d' F H s Q w rx ry h k => by
  unfold neD at h
  cases e1 : eqN 60 d e with
  | none => rw [e1] at h; cases h
  | some b => rw [e1] at h; cases h; exact ⟨F, d, e, b, w.sub, rx, ry, e1, k _ F H w Stp.refl rfl⟩
end
end Nw
set_option Elab.async false
set_option linter.all false
set_option maxRecDepth 100000
set_option maxHeartbeats 4000000
/-! Part O: operators, built-ins. -/
namespace Nw
open PySem PySem.Spec L2
section
variable {X : Cx} {R : Reg} {W : WX} {O : List Nat}
/-! ### + - * // % ** -/
def addD : D → D → Option D
  | .int i, .int j => some (.int (i + j))
  | .str x, .str y => if x.length + y.length ≤ sizeLine then some (.str (x ++ y)) else none
  | .row xs, .row ys => if xs.length + ys.length ≤ sizeLine then some (.row (xs ++ ys)) else none
  | .tup xs, .tup ys => if xs.length + ys.length ≤ sizeLine then some (.tup (xs ++ ys)) else none
  | _, _ => none
def rAddA (K : PySem.W.Frag) : R2 := fun x y H Q => (rI0 fun i j => .int (i + j)) x y H Q ∨ (∃ i j, x = .str i ∧ y = .str j ∧ i.length + j.length ≤ sizeLine ∧ Q (.str (i ++ j)) H) ∨ rCat x y H Q ∨ rCatA K x y H Q
theorem op_addA : OpR X (binaryOp .Add) (rAddA X.K) := op_add.or (op_add_str.or (op_cat.or op_catA))
theorem str_app_cps (x y : Str) : (x ++ y).cps.toList = x.cps.toList ++ y.cps.toList := by
  show (x.cps ++ y.cps).toList = _
  rw [Array.toList_append]
theorem str_app_len (x y : Str) : (x ++ y).length = x.length + y.length := by
  show (x.cps ++ y.cps).size = _
  rw [Array.size_append]
  rfl
theorem sat_add (K : PySem.W.Frag) : OpSat R (rAddA K) addD := fun x y d e d' F H s Q w rx ry h k => by
  unfold addD at h
  split at h
  · cases h
    exact .inl ⟨_, _, rx, ry, k _ F H w Stp.refl rfl⟩
  · split at h
    · rename_i hz
      cases h
      obtain ⟨rfl, _⟩ := rx
      obtain ⟨rfl, _⟩ := ry
      exact .inr (.inl ⟨_, _, rfl, rfl, hz, k _ F H w Stp.refl ⟨rfl, by rw [str_app_len]; exact hz⟩⟩)
    · cases h
  · split at h
    · rename_i hz
      cases h
      obtain ⟨a, vs, rfl, h1, _, h2⟩ := rx
      obtain ⟨b, ws, rfl, k1, _, k2⟩ := ry
      exact .inr (.inr (.inl ⟨a, b, vs, ws, rfl, rfl, w.sub.lst h1, w.sub.lst k1, by rw [h2.length, k2.length]; exact hz, fun p hp => new_row w (by rw [List.length_append]; exact hz) (h2.append k2) hp k⟩))
    · cases h
  · split at h
    · rename_i xs ys hz
      cases h
      have rx' := rx
      have ry' := ry
      obtain ⟨a, vs, rfl, h1, _, h2⟩ := rx
      obtain ⟨b, ws, rfl, k1, _, k2⟩ := ry
      refine .inr (.inr (.inr ⟨a, b, vs, ws, rfl, rfl, SqT.of (w.sub.tup h1), SqT.of (w.sub.tup k1), by rw [h2.length, k2.length]; exact hz, fun e => ?_, fun _ e => ?_, fun _ _ p hp => new_tup w (by rw [List.length_append]; exact hz) (h2.append k2) hp k⟩))
      · have : xs = [] := List.eq_nil_of_length_eq_zero (by rw [← h2.length, e]; rfl)
        subst this
        exact k _ F H w Stp.refl ry'
      · have : ys = [] := List.eq_nil_of_length_eq_zero (by rw [← k2.length, e]; rfl)
        subst this
        rw [List.append_nil] at k
        exact k _ F H w Stp.refl rx'
    · cases h
  · cases h
def subD : D → D → Option D
  | .int i, .int j => some (.int (i - j))
  | _, _ => none
theorem sat_sub : OpSat R (rI0 fun i j => .int (i - j)) subD := fun x y d e d' F H s Q w rx ry h k => by
  unfold subD at h
  split at h
  · cases h; exact ⟨_, _, rx, ry, k _ F H w Stp.refl rfl⟩
  · cases h
/-- n times a list, a tuple, a text -/
def mulD : D → D → Option D
  | .int i, .int j => if (-(2 ^ 64) < i ∧ i < 2 ^ 64) ∨ (-(2 ^ 64) < j ∧ j < 2 ^ 64) then some (.int (i * j)) else none
  | .str x, .int j => if 0 ≤ j ∧ j ≤ 1000 ∧ x.length ≤ 1000 then some (.str (Txt.mul x j)) else none
  | .row xs, .int j => if 0 ≤ j ∧ j ≤ 1000 ∧ xs.length ≤ 1000 then some (.row (List.replicate j.toNat xs).flatten) else none
  | .tup xs, .int j => if 2 ≤ j ∧ j ≤ 1000 ∧ xs.length ≤ 1000 ∧ xs ≠ [] then some (.tup (List.replicate j.toNat xs).flatten) else none
  | _, _ => none
def rMulA (K : PySem.W.Frag) : R2 := fun x y H Q => (rI CMul fun i j => .int (i * j)) x y H Q ∨ (∃ z j, x = .str z ∧ y = .int j ∧ MulOk z j ∧ Q (.str (Txt.mul z j)) H) ∨ rRep x y H Q ∨ rRepT K x y H Q
theorem op_mulS : OpR X (binaryOp .Mult) (fun x y H Q => ∃ z j, x = .str z ∧ y = .int j ∧ MulOk z j ∧ Q (.str (Txt.mul z j)) H) := by
  intro pins s σ H x y v u Q I rx ry h
  obtain ⟨z, j, rfl, rfl, hm, q⟩ := h
  obtain ⟨t, rfl⟩ := rx
  obtain ⟨t', rfl⟩ := ry
  exact PySem.SB.mul hm fun t' k => ⟨.str _, H, I.tok k, ⟨_, rfl⟩, q⟩
theorem op_mulA : OpR X (binaryOp .Mult) (rMulA X.K) := op_mul.or (op_mulS.or (op_rep.or op_repT))
theorem reps_rep {K : PySem.W.Frag} {nm : Nat → Option Addr} {F : Hp} {xs : List D} {vs : List V} (r : Reps K nm F xs vs) : ∀ k : Nat, Reps K nm F (List.replicate k xs).flatten (List.replicate k vs).flatten
  | 0 => rfl
  | k + 1 => by
    rw [List.replicate_succ, List.replicate_succ, List.flatten_cons, List.flatten_cons]
    exact r.append (reps_rep r k)
theorem len_rep {α : Type} (xs : List α) (k : Nat) : (List.replicate k xs).flatten.length = k * xs.length := by
  induction k with
  | zero => simp
  | succ k ih => rw [List.replicate_succ, List.flatten_cons, List.length_append, ih, Nat.succ_mul]; omega
theorem mul_1000 {a b : Nat} (h1 : a ≤ 1000) (h2 : b ≤ 1000) : a * b ≤ sizeLine := by
  have := Nat.mul_le_mul h1 h2
  rw [sizeLine_eq]
  omega
theorem sat_mul (K : PySem.W.Frag) : OpSat R (rMulA K) mulD := fun x y d e d' F H s Q w rx ry h k => by
  unfold mulD at h
  split at h
  · split at h
    · rename_i hc
      cases h
      exact .inl ⟨_, _, rx, ry, hc, k _ F H w Stp.refl rfl⟩
    · cases h
  · split at h
    · rename_i z j hc
      cases h
      obtain ⟨rfl, _⟩ := rx
      refine .inr (.inl ⟨_, _, rfl, ry, PyProof.Rows.mulOk_of 1000 1000 hc.2.2 (by omega) (by omega) (by omega) (by omega), k _ F H w Stp.refl ⟨rfl, ?_⟩⟩)
      have e := PyProof.Rows.len_mul z j
      rw [if_neg (by simp; omega)] at e
      have e2 : ((Txt.mul z j).length : Int) = ((z.length * j.toNat : Nat) : Int) := by
        rw [e, Int.natCast_mul, Int.toNat_of_nonneg hc.1]
      have e3 := mul_1000 hc.2.2 (show j.toNat ≤ 1000 by omega)
      omega
    · cases h
  · split at h
    · rename_i xs j hc
      cases h
      obtain ⟨a, vs, rfl, h1, _, h2⟩ := rx
      have e3 := mul_1000 hc.2.2 (show j.toNat ≤ 1000 by have := hc.2.1; omega)
      refine .inr (.inr (.inl ⟨a, _, vs, rfl, ry, w.sub.lst h1, by omega, by omega, ?_, fun p hp => new_row w ?_ (reps_rep h2 _) hp k⟩))
      · rw [h2.length]; exact e3
      · rw [len_rep, Nat.mul_comm]; exact e3
    · cases h
  · split at h
    · rename_i xs j hc
      cases h
      obtain ⟨a, vs, rfl, h1, _, h2⟩ := rx
      have e3 := mul_1000 hc.2.2.1 (show j.toNat ≤ 1000 by have := hc.2.1; omega)
      refine .inr (.inr (.inr ⟨a, _, vs, rfl, ry, SqT.of (w.sub.tup h1), fun e => hc.2.2.2 (List.eq_nil_of_length_eq_zero (by rw [← h2.length, e]; rfl)), hc.1, hc.2.1, by rw [h2.length]; exact hc.2.2.1, fun p hp => new_tup w ?_ (reps_rep h2 _) hp k⟩))
      rw [len_rep, Nat.mul_comm]; exact e3
    · cases h
  · cases h
def modD : D → D → Option D
  | .int i, .int j => if 0 < j then some (.int (i % j)) else none
  | _, _ => none
theorem sat_mod : OpSat R (rI (fun _ j => 0 < j) fun i j => .int (i % j)) modD := fun x y d e d' F H s Q w rx ry h k => by
  unfold modD at h
  split at h
  · split at h
    · rename_i hc; cases h; exact ⟨_, _, rx, ry, hc, k _ F H w Stp.refl rfl⟩
    · cases h
  · cases h
def fdivD : D → D → Option D
  | .int i, .int j => if 0 < j ∧ j < 1073741824 then some (.int (i / j)) else none
  | _, _ => none
theorem sat_fdiv : OpSat R (rI CDiv fun i j => .int (i / j)) fdivD := fun x y d e d' F H s Q w rx ry h k => by
  unfold fdivD at h
  split at h
  · split at h
    · rename_i hc; cases h; exact ⟨_, _, rx, ry, hc, k _ F H w Stp.refl rfl⟩
    · cases h
  · cases h
def powD : D → D → Option D
  | .int i, .int j => if 0 ≤ j ∧ j ≤ 1000000 ∧ i.natAbs < 2 ^ 64 then some (.int (i ^ j.toNat)) else none
  | _, _ => none
theorem sat_pow : OpSat R (rI CPow fun i j => .int (i ^ j.toNat)) powD := fun x y d e d' F H s Q w rx ry h k => by
  unfold powD at h
  split at h
  · split at h
    · rename_i hc; cases h; exact ⟨_, _, rx, ry, hc, k _ F H w Stp.refl rfl⟩
    · cases h
  · cases h
/-! ### comparisons of numbers -/
def cmpD (p : Int → Int → Bool) : D → D → Option D
  | .int i, .int j => some (.bl (p i j))
  | _, _ => none
theorem sat_cmp (p : Int → Int → Bool) : OpSat R (rI0 fun i j => .bl (p i j)) (cmpD p) := fun x y d e d' F H s Q w rx ry h k => by
  unfold cmpD at h
  split at h
  · cases h; exact ⟨_, _, rx, ry, k _ F H w Stp.refl rfl⟩
  · cases h
def ltD := cmpD fun i j => decide (i < j)
def leD := cmpD fun i j => decide (i ≤ j)
def gtD := cmpD fun i j => decide (j < i)
def geD := cmpD fun i j => decide (j ≤ i)
variable {a b e : Expr} {f g : Sl → M R.S D} {pos : Pos}
theorem de_add (hK : R.K = X.K) (ha : PE X a (tD R W O f)) (hb : PE X b (tD R W O g)) : PE X (.BinOp a .Add b pos) (tD R W O (dOp addD f g)) := de_op op_addA (sat_add X.K) ha hb
theorem de_sub (ha : PE X a (tD R W O f)) (hb : PE X b (tD R W O g)) : PE X (.BinOp a .Sub b pos) (tD R W O (dOp subD f g)) := de_op op_sub sat_sub ha hb
theorem de_mul (ha : PE X a (tD R W O f)) (hb : PE X b (tD R W O g)) : PE X (.BinOp a .Mult b pos) (tD R W O (dOp mulD f g)) := de_op op_mulA (sat_mul X.K) ha hb
theorem de_mod (ha : PE X a (tD R W O f)) (hb : PE X b (tD R W O g)) : PE X (.BinOp a .Mod b pos) (tD R W O (dOp modD f g)) := de_op op_mod sat_mod ha hb
theorem de_fdiv (ha : PE X a (tD R W O f)) (hb : PE X b (tD R W O g)) : PE X (.BinOp a .FloorDiv b pos) (tD R W O (dOp fdivD f g)) := de_op op_fdiv sat_fdiv ha hb
theorem de_pow (ha : PE X a (tD R W O f)) (hb : PE X b (tD R W O g)) : PE X (.BinOp a .Pow b pos) (tD R W O (dOp powD f g)) := de_op op_pow sat_pow ha hb
/-- a comparison, as a value and as a test -/
structure CmpOk (X : Cx) (R : Reg) (o : CmpOp) (op : D → D → Option D) : Prop where
  ok : ∃ r : R2, OpR X (compareOp o) r ∧ OpSat R r op
theorem ck_lt : CmpOk X R .Lt ltD := ⟨_, op_lt, sat_cmp _⟩
theorem ck_le : CmpOk X R .LtE leD := ⟨_, op_le, sat_cmp _⟩
theorem ck_gt : CmpOk X R .Gt gtD := ⟨_, op_gt, sat_cmp _⟩
theorem ck_ge : CmpOk X R .GtE geD := ⟨_, op_ge, sat_cmp _⟩
theorem ck_eq {n : Nat} (c : Cxt X R W n) : CmpOk X R .Eq eqD := ⟨_, by have := op_eqA (X := X) (nm := R.nm) c.hr.units; rw [← c.hK] at this; exact this, sat_eq⟩
theorem ck_ne {n : Nat} (c : Cxt X R W n) : CmpOk X R .NotEq neD := ⟨_, by have := op_neA (X := X) (nm := R.nm) c.hr.units; rw [← c.hK] at this; exact this, sat_ne⟩
theorem de_ck {o : CmpOp} {op : D → D → Option D} (h : CmpOk X R o op) (ha : PE X a (tD R W O f)) (hb : PE X b (tD R W O g)) (hm : behindInMarks o b = false) : PE X (.Compare a [o] [b] pos) (tD R W O (dOp op f g)) := let ⟨_, h1, h2⟩ := h.ok; de_cmp h1 h2 ha hb hm
theorem dt_ck {o : CmpOp} {op : D → D → Option D} (h : CmpOk X R o op) (ha : PE X a (tD R W O f)) (hb : PE X b (tD R W O g)) (hm : behindInMarks o b = false) : PT X (.Compare a [o] [b] pos) (tDT R W O (dTst (dOp op f g) isBl)) := let ⟨_, h1, h2⟩ := h.ok; dt_cmp h1 h2 ha hb hm
/-! ### is None, is True -/
def isNonD : D → Bool
  | .non => true
  | _ => false
def isND (neg : Bool) (d : D) : Option D := some (.bl (if neg then !isNonD d else isNonD d))
theorem nonV_of {K : PySem.W.Frag} {nm : Nat → Option Addr} {F : Hp} {d : D} {v : V} (r : Rep K nm F d v) : decide (v = .non) = isNonD d := by
  cases d with
  | non => rw [show v = V.non from r]; rfl
  | bl b => rw [show v = V.bl b from r]; rfl
  | int b => rw [show v = V.int b from r]; rfl
  | str b => rw [r.1]; rfl
  | row b => obtain ⟨a, vs, rfl, _⟩ := r; rfl
  | tup b => obtain ⟨a, vs, rfl, _⟩ := r; rfl
  | tab b => obtain ⟨a, vs, rfl, _⟩ := r; rfl
  | kro b => obtain ⟨a, vs, rfl, _⟩ := r; rfl
  | exc b c => obtain ⟨a, vs, rfl, _⟩ := r; rfl
  | obj b => obtain ⟨a, _, rfl⟩ := r; rfl
theorem sat_isN {tg : TE → TE} {neg : Bool} (htg : tg = if neg then tNotN else tIsN) (σ : L2.St) (H : Hp) (Q : VK) (h : tD R W O (dUn (isND neg) f) σ H Q) : tg (tD R W O f) σ H Q := by
  obtain ⟨F, ρ, s, w, pu, p⟩ := h
  subst htg
  cases neg with
  | false =>
    refine ⟨F, ρ, s, w, pu, p.bnd.imp (fun d s1 F1 H1 w1 st1 p1 v rv => ?_) fun _ _ _ _ _ _ z => z⟩
    show Q (.bl (decide (v = .non))) H1
    rw [nonV_of rv]
    exact p1 F1 H1 w1 Stp.refl _ rfl
  | true =>
    refine ⟨F, ρ, s, w, pu, p.bnd.imp (fun d s1 F1 H1 w1 st1 p1 v rv => ?_) fun _ _ _ _ _ _ z => z⟩
    show Q (.bl (!decide (v = .non))) H1
    rw [nonV_of rv]
    exact p1 F1 H1 w1 Stp.refl _ rfl
theorem de_isN {j pos'} (ha : PE X a (tD R W O f)) : PE X (.Compare a [.Is] [.Constant .none j pos'] pos) (tD R W O (dUn (isND false) f)) := pe_imp (pe_cmp (pc_isN ha) rfl) (sat_isN rfl)
theorem de_notN {j pos'} (ha : PE X a (tD R W O f)) : PE X (.Compare a [.IsNot] [.Constant .none j pos'] pos) (tD R W O (dUn (isND true) f)) := pe_imp (pe_cmp (pc_notN ha) rfl) (sat_isN rfl)
theorem sat_tB (σ : L2.St) (H : Hp) (Q : Bool → Hp → Prop) {h : Sl → M R.S D} {t : TE} (k : ∀ σ H Q, tD R W O h σ H Q → t σ H Q) (p : tDT R W O (dTst h isBl) σ H Q) : tB t σ H Q := by
  refine k σ H _ ?_
  obtain ⟨F, ρ, s, w, pu, p⟩ := p
  refine ⟨F, ρ, s, w, pu, p.bnd.imp (fun d s1 F1 H1 w1 st1 p1 v rv => ?_) fun _ _ _ _ _ _ z => z⟩
  obtain ⟨c, ec, k⟩ := p1.lift
  cases d <;> try cases ec
  exact ⟨_, rv, k F1 H1 w1 Stp.refl⟩
theorem dt_isN {j pos'} (ha : PE X a (tD R W O f)) : PT X (.Compare a [.Is] [.Constant .none j pos'] pos) (tDT R W O (dTst (dUn (isND false) f) isBl)) := pt_imp (pt_cmp (pc_isN ha) rfl) fun σ H Q h => sat_tB σ H Q (sat_isN rfl) h
theorem dt_notN {j pos'} (ha : PE X a (tD R W O f)) : PT X (.Compare a [.IsNot] [.Constant .none j pos'] pos) (tDT R W O (dTst (dUn (isND true) f) isBl)) := pt_imp (pt_cmp (pc_notN ha) rfl) fun σ H Q h => sat_tB σ H Q (sat_isN rfl) h
def isBD (neg : Bool) : D → D → Option D
  | .bl x, .bl y => some (.bl (if neg then !decide (x = y) else decide (x = y)))
  | _, _ => none
theorem ck_is : CmpOk X R .Is (isBD false) := ⟨_, op_is_bl, fun x y d e d' F H s Q w rx ry h k => by
  unfold isBD at h
  split at h
  · cases h; exact ⟨_, _, rx, ry, k _ F H w Stp.refl rfl⟩
  · cases h⟩
theorem ck_isnot : CmpOk X R .IsNot (isBD true) := ⟨_, op_isnot_bl, fun x y d e d' F H s Q w rx ry h k => by
  unfold isBD at h
  split at h
  · cases h; exact ⟨_, _, rx, ry, k _ F H w Stp.refl rfl⟩
  · cases h⟩
/-! ### a < b < c -/
def dChain {S : Type} (op op' : D → D → Option D) (f g h : Sl → M S D) : Sl → M S D := fun r => bnd (f r) fun x => bnd (g r) fun y => bnd (lift ((op x y).bind isBl)) fun b => if b = true then bnd (h r) fun z => lift (op' y z) else ret (.bl false)
theorem sat_chain {r r' : R2} {op op' : D → D → Option D} {h : Sl → M R.S D} (hs : OpSat R r op) (hs' : OpSat R r' op') (σ : L2.St) (H : Hp) (Q : VK) (p : tD R W O (dChain op op' f g h) σ H Q) : tChain r r' (tD R W O f) (tD R W O g) (tD R W O h) σ H Q := by
  obtain ⟨F, ρ, s, w, pu, p⟩ := p
  refine ⟨F, ρ, s, w, pu, p.bnd.imp (fun d s1 F1 H1 w1 st1 p1 v rv => ?_) fun _ _ _ _ _ _ z => z⟩
  refine ⟨F1, ρ, s1, w1, pu.mono st1.fs, p1.bnd.imp (fun e s2 F2 H2 w2 st2 p2 u ru => ?_) fun _ _ _ _ _ _ z => z⟩
  obtain ⟨b, eb, p3⟩ := p2.bnd.lift
  cases eo : op d e with
  | none => rw [eo] at eb; cases eb
  | some z =>
    rw [eo] at eb
    cases z <;> try cases eb
    refine hs v u d e _ F2 H2 s2 _ w2 (rv.mono st2.fs) ru eo fun v' F3 H3 w3 st3 r3 => ?_
    refine ⟨b, r3, ?_⟩
    have p4 := p3 F3 H3 w3 st3
    cases b with
    | false => rw [if_neg Bool.false_ne_true] at p4 ⊢; exact p4 F3 H3 w3 Stp.refl _ rfl
    | true =>
      rw [if_pos rfl] at p4 ⊢
      refine ⟨F3, ρ, s2, w3, (pu.mono (st1.fs.trans st2.fs)).mono st3.fs, p4.bnd.imp (fun e' s5 F5 H5 w5 st5 p5 u' ru' => ?_) fun _ _ _ _ _ _ z => z⟩
      obtain ⟨d5, e5, k⟩ := p5.lift
      exact hs' u u' e e' d5 F5 H5 s5 Q w5 ((ru.mono st3.fs).mono st5.fs) ru' e5 fun v' F' H' w' st' r' => k F' H' w' st' v' r'
theorem de_chain {c : Expr} {o o' : CmpOp} {op op' : D → D → Option D} {h : Sl → M R.S D} (k : CmpOk X R o op) (k' : CmpOk X R o' op') (ha : PE X a (tD R W O f)) (hb : PE X b (tD R W O g)) (hc : PE X c (tD R W O h)) (hm : lastMarks [o, o'] [b, c] = false := by with_unfolding_all rfl) :
    PE X (.Compare a [o, o'] [b, c] pos) (tD R W O (dChain op op' f g h)) := let ⟨_, h1, h2⟩ := k.ok; let ⟨_, h3, h4⟩ := k'.ok; pe_imp (pe_chain h1 h3 ha hb hc hm) (sat_chain h2 h4)
theorem dt_chain {c : Expr} {o o' : CmpOp} {op op' : D → D → Option D} {h : Sl → M R.S D} (k : CmpOk X R o op) (k' : CmpOk X R o' op') (ha : PE X a (tD R W O f)) (hb : PE X b (tD R W O g)) (hc : PE X c (tD R W O h)) (hm : lastMarks [o, o'] [b, c] = false := by with_unfolding_all rfl) :
    PT X (.Compare a [o, o'] [b, c] pos) (tDT R W O (dTst (dChain op op' f g h) isBl)) := by
  obtain ⟨_, h1, h2⟩ := k.ok
  obtain ⟨_, h3, h4⟩ := k'.ok
  refine pt_imp (pt_chain h1 h3 ha hb hc hm) fun σ H Q p => ?_
  refine sat_chain h2 h4 σ H _ ?_
  obtain ⟨F, ρ, s, w, pu, p⟩ := p
  refine ⟨F, ρ, s, w, pu, p.bnd.imp (fun d s1 F1 H1 w1 st1 p1 v rv => ?_) fun _ _ _ _ _ _ z => z⟩
  obtain ⟨c, ec, k⟩ := p1.lift
  cases d <;> try cases ec
  exact ⟨_, rv, k F1 H1 w1 Stp.refl⟩
end
end Nw
set_option Elab.async false
set_option linter.all false
set_option maxRecDepth 100000
set_option maxHeartbeats 4000000
/-! Part P: in, places, slices, the built-in functions. -/
namespace Nw
open PySem PySem.Spec L2
/-! ### equal to one that stands at the same place -/
section
variable {K : PySem.W.Frag} {nm : Nat → Option Addr} {F : Hp}
theorem eqLN_det {f : D → D → Option Bool} (hf : ∀ d d' e v k k', Rep K nm F d v → Rep K nm F d' v → f d e = some k → f d' e = some k' → k = k') : ∀ {xs xs' ys : List D} {vs : List V} {k k' : Bool}, Reps K nm F xs vs → Reps K nm F xs' vs → eqLN f xs ys = some k → eqLN f xs' ys = some k' → k = k'
  | [], xs', ys, vs, k, k', r, q, h, h' => by
    rw [show vs = [] from r] at q
    cases xs' with
    | nil => rw [h] at h'; exact Option.some.inj h'
    | cons y ys => obtain ⟨v, ws, e', _⟩ := q; cases e'
  | x :: xs, xs', ys, vs, k, k', r, q, h, h' => by
    obtain ⟨v, ws, rfl, r1, r2⟩ := r
    cases xs' with
    | nil => cases (show (v :: ws : List V) = [] from q)
    | cons x' xs' =>
      obtain ⟨v', ws', e', q1, q2⟩ := q
      cases e'
      cases ys with
      | nil => cases h; cases h'; rfl
      | cons y ys =>
        unfold eqLN at h h'
        cases e1 : f x y with
        | none => rw [e1] at h; cases h
        | some a =>
          cases e2 : f x' y with
          | none => rw [e2] at h'; cases h'
          | some a' =>
            rw [e1] at h
            rw [e2] at h'
            cases e3 : eqLN f xs ys with
            | none => rw [e3] at h; cases h
            | some b =>
              cases e4 : eqLN f xs' ys with
              | none => rw [e4] at h'; cases h'
              | some b' =>
                rw [e3] at h
                rw [e4] at h'
                cases h
                cases h'
                rw [hf x x' y v a a' r1 q1 e1 e2, eqLN_det hf r2 q2 e3 e4]
/-- what is simple and stands at one place is of one kind -/
theorem sim_kind {d d' : D} {v : V} (r : Rep K nm F d v) (q : Rep K nm F d' v) (h : simD d = true) (h' : simD d' = true) :
    d = d' ∨ (∃ xs xs' vs, d = .row xs ∧ d' = .row xs' ∧ Reps K nm F xs vs ∧ Reps K nm F xs' vs) ∨ (∃ xs xs' vs, d = .tup xs ∧ d' = .tup xs' ∧ Reps K nm F xs vs ∧ Reps K nm F xs' vs) := by
  cases d <;> try cases h
  all_goals (cases d' <;> try cases h')
  all_goals first
    | exact .inl rfl
    | (rename_i a b; cases (show v = V.bl a from r); cases (show V.bl a = V.bl b from q); exact .inl rfl)
    | (rename_i a b; cases (show v = V.int a from r); cases (show V.int a = V.int b from q); exact .inl rfl)
    | (cases r.1; cases q.1; exact .inl rfl)
    | (obtain ⟨a, vs, rfl, e1, _, r1⟩ := r
       obtain ⟨b, ws, e0, e2, _, r2⟩ := q
       cases e0
       rw [e1] at e2
       cases e2
       first
         | exact .inr (.inl ⟨_, _, _, rfl, rfl, r1, r2⟩)
         | exact .inr (.inr ⟨_, _, _, rfl, rfl, r1, r2⟩))
    | (exfalso; first
        | (cases (show v = V.non from r); first | (cases (show V.non = V.bl _ from q)) | (cases (show V.non = V.int _ from q)) | (cases q.1) | (obtain ⟨_, _, e0, _⟩ := q; cases e0))
        | (rename_i a b; cases (show v = V.bl a from r); first | (cases (show V.bl a = V.int _ from q)) | (cases q.1) | (obtain ⟨_, _, e0, _⟩ := q; cases e0))
        | (rename_i a; cases (show v = V.bl a from r); first | (cases (show V.bl a = V.non from q)))
        | (rename_i a b; cases (show v = V.int a from r); first | (cases (show V.int a = V.bl _ from q)) | (cases q.1) | (obtain ⟨_, _, e0, _⟩ := q; cases e0))
        | (rename_i a; cases (show v = V.int a from r); first | (cases (show V.int a = V.non from q)))
        | (cases r.1; first | (cases (show V.str _ = V.non from q)) | (cases (show V.str _ = V.bl _ from q)) | (cases (show V.str _ = V.int _ from q)) | (obtain ⟨_, _, e0, _⟩ := q; cases e0))
        | (obtain ⟨_, _, rfl, e1, _⟩ := r; first | (cases (show V.ref _ = V.non from q)) | (cases (show V.ref _ = V.bl _ from q)) | (cases (show V.ref _ = V.int _ from q)) | (cases q.1) | (obtain ⟨_, _, e0, e2, _⟩ := q; cases e0; rw [e1] at e2; cases e2)))
theorem eqN_sim : ∀ {n : Nat} {d e : D} {k : Bool}, eqN n d e = some k → simD d = true ∧ simD e = true
  | 0, _, _, _, h => by cases h
  | n + 1, d, e, k, h => by
    cases d <;> cases e <;> first | exact ⟨rfl, rfl⟩ | (cases (show (none : Option Bool) = some k from h))
theorem eqN_det : ∀ (n : Nat) (d d' e : D) (v : V) (k k' : Bool), Rep K nm F d v → Rep K nm F d' v → eqN n d e = some k → eqN n d' e = some k' → k = k'
  | 0, _, _, _, _, _, _, _, _, h, _ => by cases h
  | n + 1, d, d', e, v, k, k', r, q, h, h' => by
    rcases sim_kind r q (eqN_sim h).1 (eqN_sim h').1 with rfl | ⟨xs, xs', vs, rfl, rfl, r1, r2⟩ | ⟨xs, xs', vs, rfl, rfl, r1, r2⟩
    · rw [h] at h'; exact Option.some.inj h'
    · cases e with
      | row ys =>
        have h : (if xs.length = ys.length then eqLN (eqN n) xs ys else some false) = some k := h
        have h' : (if xs'.length = ys.length then eqLN (eqN n) xs' ys else some false) = some k' := h'
        have hl : xs.length = xs'.length := by rw [← r1.length, r2.length]
        rw [← hl] at h'
        by_cases c : xs.length = ys.length
        · rw [if_pos c] at h h'
          exact eqLN_det (eqN_det n) r1 r2 h h'
        · rw [if_neg c] at h h'
          cases h
          cases h'
          rfl
      | _ => first | (cases h; cases h'; rfl) | (cases (show (none : Option Bool) = some k from h))
    · cases e with
      | tup ys =>
        have h : ((eqLN (eqN n) xs ys).map fun a => a && (xs.length == ys.length)) = some k := h
        have h' : ((eqLN (eqN n) xs' ys).map fun a => a && (xs'.length == ys.length)) = some k' := h'
        have hl : xs.length = xs'.length := by rw [← r1.length, r2.length]
        cases e1 : eqLN (eqN n) xs ys with
        | none => rw [e1] at h; cases h
        | some a =>
          cases e2 : eqLN (eqN n) xs' ys with
          | none => rw [e2] at h'; cases h'
          | some a' =>
            rw [e1] at h
            rw [e2] at h'
            cases h
            cases h'
            rw [eqLN_det (eqN_det n) r1 r2 e1 e2, hl]
      | _ => first | (cases h; cases h'; rfl) | (cases (show (none : Option Bool) = some k from h))
end
/-- whether d is among them -/
def eqAny (n : Nat) (d : D) : List D → Option Bool
  | [] => some false
  | y :: ys => (eqN n y d).bind fun a => (eqAny n d ys).map fun b => a || b
theorem eqAny_each {n : Nat} {d : D} : ∀ {ys : List D} {k : Bool}, eqAny n d ys = some k → ∀ y ∈ ys, ∃ b, eqN n y d = some b
  | [], k, h, y, hy => by cases hy
  | y :: ys, k, h, z, hz => by
    unfold eqAny at h
    cases e1 : eqN n y d with
    | none => rw [e1] at h; cases h
    | some a =>
      rw [e1] at h
      cases e2 : eqAny n d ys with
      | none => rw [e2] at h; cases h
      | some b =>
        rcases List.mem_cons.mp hz with rfl | hz
        · exact ⟨a, e1⟩
        · exact eqAny_each e2 z hz
section
variable {X : Cx} {nm : Nat → Option Addr} {F H : Hp} {pins : List (Addr × Obj)} {σ : L2.St} {s : Shared}
/-- the answers by the items' values -/
theorem any_of (I : Inv X pins σ H s) (sb : Sub F H) {A : Around} (hu : A.units + 60 < cLine) {d : D} {v : V} {v' : Value} (r : Rep X.K nm F d v) (q : RelV v v') : ∀ {ds : List D} {vs : List V} {us : List Value} {k : Bool}, Reps X.K nm F ds vs → Vals vs us → eqAny 60 d ds = some k →
    ∃ e : Value → Bool, (∀ y ∈ us, SeqAt.EqAt A s y v' (e y)) ∧ us.any e = k := fun {ds vs us k} rs qs h => by
  classical
  -- e: what eqN says of some datum at that place
  let e : Value → Bool := fun u => decide (∃ d' w, Rep X.K nm F d' w ∧ RelV w u ∧ eqN 60 d' d = some true)
  have he : ∀ d' w u b, Rep X.K nm F d' w → RelV w u → eqN 60 d' d = some b → e u = b := fun d' w u b h1 h2 h3 => by
    cases b with
    | true => exact decide_eq_true ⟨d', w, h1, h2, h3⟩
    | false =>
      refine decide_eq_false fun ⟨d2, w2, k1, k2, k3⟩ => ?_
      have ew : w2 = w := k2.inj h2
      subst ew
      cases eqN_det 60 d2 d' d w2 true false k1 h1 k3 h3
  refine ⟨e, ?_, ?_⟩
  · intro y hy
    obtain ⟨j, hj, ej⟩ := List.mem_iff_getElem.mp hy
    have hv : ∃ w, vs[j]? = some w ∧ RelV w y := by
      have hl := qs.length
      have hjv : j < vs.length := by omega
      obtain ⟨u, h1, h2⟩ := qs.get (List.getElem?_eq_getElem hjv)
      rw [List.getElem?_eq_getElem hj] at h1
      cases h1
      rw [ej] at h2
      exact ⟨_, List.getElem?_eq_getElem hjv, h2⟩
    obtain ⟨w, h1, h2⟩ := hv
    obtain ⟨d', h3, h4⟩ := rs.get' h1
    obtain ⟨b, hb⟩ := eqAny_each h d' (List.mem_of_getElem? h3)
    rw [he d' w y b h4 h2 hb]
    exact eq_all I sb 60 A hu d' d w v y v' b h4 r h2 q hb
  · induction ds generalizing vs us k with
    | nil =>
      rw [show vs = [] from rs] at qs
      cases qs
      cases h
      rfl
    | cons d0 ds ih =>
      obtain ⟨w, ws, rfl, r1, r2⟩ := rs
      cases qs with
      | cons q1 q2 =>
        unfold eqAny at h
        cases e1 : eqN 60 d0 d with
        | none => rw [e1] at h; cases h
        | some a =>
          rw [e1] at h
          cases e2 : eqAny 60 d ds with
          | none => rw [e2] at h; cases h
          | some b =>
            rw [e2] at h
            cases h
            rw [List.any_cons, he d0 w _ a r1 q1 e1, ih r2 q2 e2]
end
/-! ### in -/
def keyD : D → Option Key
  | .int i => some (.inl i)
  | .str x => some (.inr x)
  | _ => none
def valD (kvs : List (Key × D)) (k : Key) : Option D := (kvs.find? fun kv => decide (kv.1 = k)).map (·.2)
theorem keyD_rep {K : PySem.W.Frag} {nm : Nat → Option Addr} {F : Hp} {d : D} {v : V} {k : Key} (r : Rep K nm F d v) (h : keyD d = some k) : v = kV k := by
  cases d <;> try cases h
  · exact r
  · exact r.1
theorem repsK_val {K : PySem.W.Frag} {nm : Nat → Option Addr} {F : Hp} (k : Key) : ∀ {kvs : List (Key × D)} {ws : List (Key × V)}, RepsK K nm F kvs ws → (valD kvs k = none ∧ valV ws k = none) ∨ ∃ d v, valD kvs k = some d ∧ valV ws k = some v ∧ Rep K nm F d v
  | [], ws, r => by rw [show ws = [] from r]; exact .inl ⟨rfl, rfl⟩
  | (j, d) :: kvs, ws, r => by
    obtain ⟨v, ws', rfl, _, r1, r2⟩ := r
    by_cases e : j = k
    · refine .inr ⟨d, v, ?_, ?_, r1⟩
      · unfold valD; rw [List.find?_cons_of_pos (by simp [e])]; rfl
      · exact valV_pos e
    · have h1 : valD ((j, d) :: kvs) k = valD kvs k := by unfold valD; rw [List.find?_cons_of_neg (by simp [e])]
      have h2 : valV ((j, v) :: ws') k = valV ws' k := valV_neg e
      rw [h1, h2]
      exact repsK_val k r2
def inD (neg : Bool) : D → D → Option D
  | .str x, .str y => some (.bl (if neg then !(!(Builtin.Str.occurrences y x 0 y.length 1).isEmpty) else !(Builtin.Str.occurrences y x 0 y.length 1).isEmpty))
  | d, .row ys => (eqAny 60 d ys).map fun b => .bl (if neg then !b else b)
  | d, .tup ys => (eqAny 60 d ys).map fun b => .bl (if neg then !b else b)
  | d, .kro ys => (eqAny 60 d ys).map fun b => .bl (if neg then !b else b)
  | d, .tab kvs => (keyD d).map fun k => .bl (if neg then !(valD kvs k).isSome else (valD kvs k).isSome)
  | _, _ => none
def rInS (K : PySem.W.Frag) (nm : Nat → Option Addr) (neg : Bool) : R2 := fun x y H Q => ∃ F d p ds vs k, Sub F H ∧ Rep K nm F d x ∧ y = .ref p ∧ (SqL K H p vs ∨ SqT K H p vs) ∧ Reps K nm F ds vs ∧ eqAny 60 d ds = some k ∧ Q (.bl (if neg then !k else k)) H
def rInK (neg : Bool) : R2 := fun x y H Q => ∃ a o, y = .ref a ∧ DGet H a x o ∧ Q (.bl (if neg then !o.isSome else o.isSome)) H
section
variable {X : Cx} {R : Reg} {nm : Nat → Option Addr}
theorem op_inS (hu : X.A.units + 64 < cLine) (neg : Bool) : OpR X (compareOp (if neg then .NotIn else .In)) (rInS X.K nm neg) := by
  intro pins s σ H x y v u Q I rx ry h
  obtain ⟨F, d, p, ds, vs, k, sb, rd, rfl, hs, rs, hk, q⟩ := h
  cases ry
  rcases hs with hs | hs
  · obtain ⟨its, rv, pl, _⟩ := I.list hs
    obtain ⟨e, he, ek⟩ := any_of I sb (A := X.A.in1) (by show X.A.units + 1 + 60 < cLine; omega) rd rx rs rv hk
    cases neg with
    | false => exact SeqAt.in_listAt e pl.isList (fun y hy => he y (by simpa using hy)) ⟨.bl k, H, I, by rw [List.any_toArray, ek]; rfl, q⟩
    | true => exact SeqAt.notIn_listAt e pl.isList (fun y hy => he y (by simpa using hy)) ⟨.bl (!k), H, I, by rw [List.any_toArray, ek]; rfl, q⟩
  · obtain ⟨its, rv, pl, _⟩ := I.tuple hs
    obtain ⟨e, he, ek⟩ := any_of I sb (A := X.A.in1) (by show X.A.units + 1 + 60 < cLine; omega) rd rx rs rv hk
    cases neg with
    | false => exact SeqAt.in_tupleAt e pl (fun y hy => he y (by simpa using hy)) ⟨.bl k, H, I, by rw [List.any_toArray, ek]; rfl, q⟩
    | true => exact SeqAt.notIn_tupleAt e pl (fun y hy => he y (by simpa using hy)) ⟨.bl (!k), H, I, by rw [List.any_toArray, ek]; rfl, q⟩
theorem op_inK (hu : X.A.units + 1 < cLine) (neg : Bool) : OpR X (compareOp (if neg then .NotIn else .In)) (rInK neg) := by
  intro pins s σ H x y v u Q I rx ry h
  obtain ⟨a, o, rfl, g, q⟩ := h
  cases ry
  cases neg with
  | false => exact d_in hu I g rx fun s' I' => ⟨.bl _, H, I', rfl, q⟩
  | true => exact d_notIn hu I g rx fun s' I' => ⟨.bl _, H, I', rfl, q⟩
def rInT (neg : Bool) : R2 := fun x y H Q => ∃ i j, x = .str i ∧ y = .str j ∧ Q (.bl (if neg then !(!(Builtin.Str.occurrences j i 0 j.length 1).isEmpty) else !(Builtin.Str.occurrences j i 0 j.length 1).isEmpty)) H
theorem op_inT (neg : Bool) : OpR X (compareOp (if neg then .NotIn else .In)) (rInT neg) := by
  cases neg with
  | false => exact op_in_str
  | true => exact op_notin_str
theorem sat_in (neg : Bool) : OpSat R (fun x y H Q => rInT neg x y H Q ∨ rInS R.K R.nm neg x y H Q ∨ rInK neg x y H Q) (inD neg) := fun x y d e d' F H s Q w rx ry h k => by
  unfold inD at h
  split at h
  · cases h
    exact .inl ⟨_, _, rx.1, ry.1, k _ F H w Stp.refl rfl⟩
  · rename_i ys
    cases e1 : eqAny 60 d ys with
    | none => rw [e1] at h; cases h
    | some b =>
      rw [e1] at h
      cases h
      obtain ⟨a, vs, rfl, h1, _, h2⟩ := ry
      exact .inr (.inl ⟨F, d, a, ys, vs, b, w.sub, rx, rfl, .inl (SqL.of (w.sub.lst h1)), h2, e1, k _ F H w Stp.refl rfl⟩)
  · rename_i ys
    cases e1 : eqAny 60 d ys with
    | none => rw [e1] at h; cases h
    | some b =>
      rw [e1] at h
      cases h
      obtain ⟨a, vs, rfl, h1, _, h2⟩ := ry
      exact .inr (.inl ⟨F, d, a, ys, vs, b, w.sub, rx, rfl, .inr (SqT.of (w.sub.tup h1)), h2, e1, k _ F H w Stp.refl rfl⟩)
  · rename_i ys
    cases e1 : eqAny 60 d ys with
    | none => rw [e1] at h; cases h
    | some b =>
      rw [e1] at h
      cases h
      obtain ⟨a, vs, rfl, h1, _, h2⟩ := ry
      exact .inr (.inl ⟨F, d, a, ys, vs, b, w.sub, rx, rfl, .inl (w.sub.sqL h1), h2, e1, k _ F H w Stp.refl rfl⟩)
  · rename_i kvs
    cases e1 : keyD d with
    | none => rw [e1] at h; cases h
    | some key =>
      rw [e1] at h
      cases h
      obtain ⟨a, ws, rfl, h1, _, h2⟩ := ry
      refine .inr (.inr ⟨a, valV ws key, rfl, .inl ⟨ws, key, w.sub.dK h1, keyD_rep rx e1, rfl⟩, k _ F H w Stp.refl ?_⟩)
      show Rep R.K R.nm F (D.bl (if neg = true then !(valD kvs key).isSome else (valD kvs key).isSome)) (V.bl (if neg = true then !(valV ws key).isSome else (valV ws key).isSome))
      rcases repsK_val key h2 with ⟨z1, z2⟩ | ⟨d1, v1, z1, z2, _⟩ <;> rw [z1, z2] <;> rfl
  · cases h
theorem ck_in {W : WX} {n : Nat} (c : Cxt X R W n) : CmpOk X R .In (inD false) := ⟨_, by
  have h1 := op_inT (X := X) false
  have h2 := op_inS (X := X) (nm := R.nm) c.hr.units false
  have h3 := op_inK (X := X) (hu_of c.hr) false
  rw [← c.hK] at h2
  exact h1.or (h2.or h3), sat_in false⟩
theorem ck_notin {W : WX} {n : Nat} (c : Cxt X R W n) : CmpOk X R .NotIn (inD true) := ⟨_, by
  have h1 := op_inT (X := X) true
  have h2 := op_inS (X := X) (nm := R.nm) c.hr.units true
  have h3 := op_inK (X := X) (hu_of c.hr) true
  rw [← c.hK] at h2
  exact h1.or (h2.or h3), sat_in true⟩
/-! ### places -/
variable {W : WX} {O : List Nat} {a b e : Expr} {f g : Sl → M R.S D} {pos : Pos} {es : List Expr} {fs : Sl → M R.S (List D)}
def ixD : D → D → Option D
  | .row xs, .int i => atI xs i
  | .tup xs, .int i => atI xs i
  | .kro xs, .int i => atI xs i
  | .str z, .int i => (atI z.cps.toList i).map fun c => .str ⟨#[c]⟩
  | .tab kvs, k => (keyD k).bind fun k => valD kvs k
  | _, _ => none
theorem atI_rep {K : PySem.W.Frag} {nm : Nat → Option Addr} {F : Hp} {xs : List D} {vs : List V} {i : Int} {d : D} (r : Reps K nm F xs vs) (h : atI xs i = some d) : ∃ v, atI vs i = some v ∧ Rep K nm F d v := by
  unfold atI at h ⊢
  rw [r.length]
  cases e : ixN xs.length i with
  | none => rw [e] at h; cases h
  | some j =>
    rw [e] at h
    exact r.get h
def rIxA (K : PySem.W.Frag) : R2 := fun x y H Q => rIx K x y H Q
def tIxA (K : PySem.W.Frag) (ta tb : TE) : TE := fun σ H Q => tOp (rIx K) ta tb σ H Q ∨ tDGet ta tb σ H Q
theorem one_str_len (c : Nat) : (⟨#[c]⟩ : Str).length ≤ sizeLine := by show 1 ≤ sizeLine; rw [sizeLine_eq]; decide
theorem de_ix {n : Nat} (c : Cxt X R W n) (ha : PE X a (tD R W O f)) (hb : PE X b (tD R W O g)) (hs : PlainIx b := by exact fun _ _ => rfl) : PE X (.Subscript a b pos) (tD R W O (dOp ixD f g)) :=
  pe_imp (pe_or2 (pe_ix ix_seq ha hb hs) (pe_dget (hu_of c.hr) ha hb hs)) fun σ H Q h => by
    obtain ⟨F, ρ, s, w, pu, p⟩ := h
    have hb1 := p.bnd
    cases ef : f ρ s with
    | bot => rw [ef] at hb1; exact hb1.elim
    | exc x s1 => rw [ef] at hb1; exact .inl ⟨F, ρ, s, w, pu, by rw [ef]; exact hb1⟩
    | ok d s1 =>
      rw [ef] at hb1
      by_cases hd : ∃ kvs, d = .tab kvs
      · obtain ⟨kvs, rfl⟩ := hd
        refine .inr ⟨F, ρ, s, w, pu, ?_⟩
        rw [ef]
        intro F1 H1 w1 st1 v rv
        refine ⟨F1, ρ, s1, w1, pu.mono st1.fs, (hb1 F1 H1 w1 st1).bnd.imp (fun e s2 F2 H2 w2 st2 p2 u ru => ?_) fun _ _ _ _ _ _ z => z⟩
        obtain ⟨d', e', k⟩ := p2.lift
        have e' : ((keyD e).bind fun k => valD kvs k) = some d' := e'
        cases ek : keyD e with
        | none => rw [ek] at e'; cases e'
        | some key =>
          rw [ek] at e'
          obtain ⟨p, ws, rfl, h1, _, h2⟩ := rv.mono st2.fs
          rcases repsK_val key h2 with ⟨z1, z2⟩ | ⟨d1, v1, z1, z2, r1⟩
          · rw [show valD kvs key = some d' from e'] at z1; cases z1
          · rw [show valD kvs key = some d' from e'] at z1
            cases z1
            exact ⟨p, v1, rfl, .inl ⟨ws, key, w2.sub.dK h1, keyD_rep ru ek, z2.symm⟩, k F2 H2 w2 Stp.refl v1 r1⟩
      · refine .inl ⟨F, ρ, s, w, pu, ?_⟩
        rw [ef]
        intro F1 H1 w1 st1 v rv
        refine ⟨F1, ρ, s1, w1, pu.mono st1.fs, (hb1 F1 H1 w1 st1).bnd.imp (fun e s2 F2 H2 w2 st2 p2 u ru => ?_) fun _ _ _ _ _ _ z => z⟩
        obtain ⟨d', e', k⟩ := p2.lift
        have rv := rv.mono st2.fs
        unfold ixD at e'
        split at e'
        · obtain ⟨p, vs, rfl, h1, _, h2⟩ := rv
          obtain ⟨v', h3, h4⟩ := atI_rep h2 e'
          exact .inl ⟨p, vs, _, v', rfl, ru, SqL.of (w2.sub.lst h1), h3, k F2 H2 w2 Stp.refl v' h4⟩
        · obtain ⟨p, vs, rfl, h1, _, h2⟩ := rv
          obtain ⟨v', h3, h4⟩ := atI_rep h2 e'
          exact .inr (.inl ⟨p, vs, _, v', rfl, ru, SqT.of (w2.sub.tup h1), h3, k F2 H2 w2 Stp.refl v' h4⟩)
        · obtain ⟨p, vs, rfl, h1, _, h2⟩ := rv
          obtain ⟨v', h3, h4⟩ := atI_rep h2 e'
          rw [c.hK] at h1
          exact .inl ⟨p, vs, _, v', rfl, ru, w2.sub.sqL h1, h3, k F2 H2 w2 Stp.refl v' h4⟩
        · obtain ⟨ch, ec, ed⟩ := Option.map_eq_some_iff.mp e'
          cases ed
          exact .inr (.inr ⟨_, _, ch, rv.1, ru, rv.2, ec, k F2 H2 w2 Stp.refl _ ⟨rfl, one_str_len ch⟩⟩)
        · rename_i kvs _
          exact absurd ⟨kvs, rfl⟩ hd
        · cases e'
/-! ### slices -/
def cutL {α : Type} (xs : List α) (lo hi : Option Int) : List α := (xs.drop (HT.sIx xs.length 0 lo)).take (HT.sIx xs.length xs.length hi - HT.sIx xs.length 0 lo)
def slD : D → Option Int → Option Int → Option D
  | .row xs, lo, hi => some (.row (cutL xs lo hi))
  | .tup xs, lo, hi => some (.tup (cutL xs lo hi))
  | .str z, lo, hi => some (.str (cutS z lo hi))
  | _, _, _ => none
def pNone {S : Type} : Sl → M S (Option Int) := fun _ => ret none
def intD : D → Option (Option Int)
  | .int i => some (some i)
  | _ => none
def pSome {S : Type} (f : Sl → M S D) : Sl → M S (Option Int) := fun r => bnd (f r) fun x => lift (intD x)
def dSl {S : Type} (f : Sl → M S D) (lo hi : Sl → M S (Option Int)) : Sl → M S D := fun r => bnd (f r) fun x => bnd (lo r) fun l => bnd (hi r) fun h => lift (slD x l h)
def tDO (R : Reg) (W : WX) (O : List Nat) (f : Sl → M R.S (Option Int)) : TO := fun σ H Q => ∃ F r s, Wd R F H s ∧ Pu R O F σ r ∧ Post R F H (f r s) (fun o _ _ H' => Q o H') (fun x _ F' H' => ∀ cls dd, RepX R.K R.nm F' x cls dd → W cls dd σ H')
theorem po_imp {e : Option Expr} {t t' : TO} (h : PO X e t) (k : ∀ σ H Q, t' σ H Q → t σ H Q) : PO X e t' := ⟨fun pins s σ H Q I q => h.run pins s σ H Q I (k σ H Q q)⟩
theorem dp_none : PO X none (tDO R W O pNone) := po_imp po_none fun σ H Q h => by
  obtain ⟨F, ρ, s, w, pu, p⟩ := h
  exact p F H w Stp.refl
theorem dp_some (h : PE X e (tD R W O f)) : PO X (some e) (tDO R W O (pSome f)) := po_imp (po_some h) fun σ H Q h => by
  obtain ⟨F, ρ, s, w, pu, p⟩ := h
  refine ⟨F, ρ, s, w, pu, p.bnd.imp (fun d s1 F1 H1 w1 st1 p1 v rv => ?_) fun _ _ _ _ _ _ z => z⟩
  obtain ⟨i, e', k⟩ := p1.lift
  cases d <;> try cases e'
  exact ⟨_, rv, k F1 H1 w1 Stp.refl⟩
theorem cutL_le {α : Type} (xs : List α) (lo hi : Option Int) : (cutL xs lo hi).length ≤ xs.length := by
  unfold cutL
  rw [List.length_take, List.length_drop]
  omega
theorem reps_cut {K : PySem.W.Frag} {nm : Nat → Option Addr} {F : Hp} {xs : List D} {vs : List V} (r : Reps K nm F xs vs) (lo hi : Option Int) : Reps K nm F (cutL xs lo hi) (cutV vs lo hi) := by
  unfold cutL cutV
  rw [r.length]
  exact (r.drop _).take _
theorem cut_whole {α : Type} {xs : List α} {lo hi : Option Int} (h : HT.sIx xs.length 0 lo = 0 ∧ HT.sIx xs.length xs.length hi = xs.length) : cutL xs lo hi = xs := by
  unfold cutL
  rw [h.1, h.2, List.drop_zero, Nat.sub_zero, List.take_length]
theorem de_sl {lo hi : Option Expr} {fl fh : Sl → M R.S (Option Int)} {p2 : Pos} (he : PE X e (tD R W O f)) (hl : PO X lo (tDO R W O fl)) (hh : PO X hi (tDO R W O fh)) : PE X (.Subscript e (.Slice lo hi none p2) pos) (tD R W O (dSl f fl fh)) :=
  pe_imp (pe_slice (sl_list.or (sl_tupA.or sl_str)) he hl hh) fun σ H Q h => by
    obtain ⟨F, ρ, s, w, pu, p⟩ := h
    refine ⟨F, ρ, s, w, pu, p.bnd.imp (fun d s1 F1 H1 w1 st1 p1 v rv => ?_) fun _ _ _ _ _ _ z => z⟩
    refine ⟨F1, ρ, s1, w1, pu.mono st1.fs, p1.bnd.imp (fun l s2 F2 H2 w2 st2 p2 => ?_) fun _ _ _ _ _ _ z => z⟩
    refine ⟨F2, ρ, s2, w2, (pu.mono st1.fs).mono st2.fs, p2.bnd.imp (fun h s3 F3 H3 w3 st3 p3 => ?_) fun _ _ _ _ _ _ z => z⟩
    obtain ⟨d', e', k⟩ := p3.lift
    have rv := (rv.mono st2.fs).mono st3.fs
    cases d with
    | row xs =>
      cases e'
      obtain ⟨a, vs, rfl, h1, hz, h2⟩ := rv
      exact .inl ⟨a, vs, rfl, SqL.of (w3.sub.lst h1), fun q hq => new_row w3 (Nat.le_trans (cutL_le _ _ _) hz) (reps_cut h2 l h) hq fun v F' H' w' st' r' => k F' H' w' st' v r'⟩
    | tup xs =>
      cases e'
      have rv' := rv
      obtain ⟨a, vs, rfl, h1, hz, h2⟩ := rv
      refine .inr (.inl ⟨a, vs, rfl, SqT.of (w3.sub.tup h1), fun e => ?_, fun _ q hq => new_tup w3 (Nat.le_trans (cutL_le _ _ _) hz) (reps_cut h2 l h) hq fun v F' H' w' st' r' => k F' H' w' st' v r'⟩)
      rw [h2.length] at e
      refine k F3 H3 w3 Stp.refl _ ?_
      rw [cut_whole e]
      exact rv'
    | str z =>
      cases e'
      exact .inr (.inr ⟨z, rv.1, rv.2, k F3 H3 w3 Stp.refl _ ⟨rfl, Nat.le_trans (cutS_length z l h) rv.2⟩⟩)
    | _ => cases e'
/-- xs[::-1] -/
def revD : D → Option D
  | .row xs => some (.row xs.reverse)
  | _ => none
theorem de_rev {k : Nat} {p1 p2 p3 : Pos} (he : PE X e (tD R W O f)) : PE X (.Subscript e (.Slice none none (some (.UnaryOp .USub (.Constant (.int 1) k p1) p2)) p3) pos) (tD R W O (dUn revD f)) := pe_imp (pe_revL he) fun σ H Q h => by
  obtain ⟨F, ρ, s, w, pu, p⟩ := h
  refine ⟨F, ρ, s, w, pu, p.bnd.imp (fun d s1 F1 H1 w1 st1 p1 v rv => ?_) fun _ _ _ _ _ _ z => z⟩
  obtain ⟨d', e', k⟩ := p1.lift
  cases d <;> try cases e'
  obtain ⟨a, vs, rfl, h1, hz, h2⟩ := rv
  exact ⟨a, vs, rfl, SqL.of (w1.sub.lst h1), fun q hq => new_row w1 (by rw [List.length_reverse]; exact hz) h2.reverse hq fun v F' H' w' st' r' => k F' H' w' st' v r'⟩
/-! ### built-in functions -/
def lenD : List D → Option D
  | [.str x] => some (.int x.length)
  | [.row xs] => some (.int xs.length)
  | [.tup xs] => some (.int xs.length)
  | [.kro xs] => some (.int xs.length)
  | [.tab xs] => some (.int xs.length)
  | _ => none
theorem call_lenR : CallR X (.builtin "len") (fun xs H Q => ∃ a kvs, xs = [V.ref a] ∧ Rd H a (.dK kvs) ∧ Q (.int kvs.length) H) := by
  intro pins s σ H xs us Q I r h
  obtain ⟨a, kvs, rfl, ha, q⟩ := h
  obtain ⟨u, rfl, ru⟩ := vals1 r
  cases ru
  exact d_len I ha fun t s' I' => ⟨.int kvs.length, H, I', ⟨t, rfl⟩, q⟩
theorem sat_len : CallSat R (fun xs H Q => (∃ x n, xs = [x] ∧ LenV R.K x H n ∧ Q (.int n) H) ∨ ∃ a kvs, xs = [V.ref a] ∧ Rd H a (.dK kvs) ∧ Q (.int kvs.length) H) lenD := fun xs ds d' F H s Q w rs h k => by
  unfold lenD at h
  split at h
  · cases h
    obtain ⟨v, ws, rfl, ⟨rfl, hz⟩, e2⟩ := rs
    rw [show ws = [] from e2]
    exact .inl ⟨_, _, rfl, ⟨hz, rfl⟩, k _ F H w Stp.refl rfl⟩
  · cases h
    obtain ⟨v, ws, rfl, ⟨a, vs, rfl, h1, _, h2⟩, e2⟩ := rs
    rw [show ws = [] from e2]
    exact .inl ⟨_, _, rfl, .inl ⟨vs, SqL.of (w.sub.lst h1), rfl⟩, k _ F H w Stp.refl (by rw [h2.length]; rfl)⟩
  · cases h
    obtain ⟨v, ws, rfl, ⟨a, vs, rfl, h1, _, h2⟩, e2⟩ := rs
    rw [show ws = [] from e2]
    exact .inl ⟨_, _, rfl, .inr ⟨vs, SqT.of (w.sub.tup h1), rfl⟩, k _ F H w Stp.refl (by rw [h2.length]; rfl)⟩
  · cases h
    obtain ⟨v, ws, rfl, ⟨a, vs, rfl, h1, _, h2⟩, e2⟩ := rs
    rw [show ws = [] from e2]
    exact .inl ⟨_, _, rfl, .inl ⟨vs, w.sub.sqL h1, rfl⟩, k _ F H w Stp.refl (by rw [h2.length]; rfl)⟩
  · cases h
    obtain ⟨v, ws, rfl, ⟨a, vs, rfl, h1, _, h2⟩, e2⟩ := rs
    rw [show ws = [] from e2]
    exact .inr ⟨_, _, rfl, w.sub.dK h1, k _ F H w Stp.refl (by rw [h2.length]; rfl)⟩
  · cases h
theorem de_len {p : Pos} (hK : R.K = X.K) (hg : Gl X "len") (hm : X.mg "len" = none) (ha : PA X [e] (tDA R W O fs)) (he : starEach [e] X.env = (false, eval e X.env) :: starEach [] X.env := by rfl) (hpl : (backTo pos (starEach [] X.env)).any (·.1) = false := by rfl) :
    PE X (.Call (.Name "len" p) [e] [] pos) (tD R W O (dAll lenD fs)) := de_callB (call_len.or call_lenR) (by rw [← hK]; exact sat_len) hg hm PySem.boot_len ha (he := he) (hpl := hpl)
def ordD : List D → Option D
  | [.str x] => if x.length = 1 then some (.int ((x.cps.getD 0 0 : Nat) : Int)) else none
  | _ => none
theorem sat_ord : CallSat R (fun xs H Q => ∃ x, xs = [.str x] ∧ x.length = 1 ∧ Q (.int (x.cps.getD 0 0 : Nat)) H) ordD := fun xs ds d' F H s Q w rs h k => by
  unfold ordD at h
  split at h
  · split at h
    · rename_i hl
      cases h
      obtain ⟨v, ws, rfl, ⟨rfl, hz⟩, e2⟩ := rs
      rw [show ws = [] from e2]
      exact ⟨_, rfl, hl, k _ F H w Stp.refl rfl⟩
    · cases h
  · cases h
theorem de_ord {p : Pos} (hg : Gl X "ord") (hm : X.mg "ord" = none) (ha : PA X [e] (tDA R W O fs)) (he : starEach [e] X.env = (false, eval e X.env) :: starEach [] X.env := by rfl) (hpl : (backTo pos (starEach [] X.env)).any (·.1) = false := by rfl) :
    PE X (.Call (.Name "ord" p) [e] [] pos) (tD R W O (dAll ordD fs)) := de_callB call_ord sat_ord hg hm (by decide +kernel) ha (he := he) (hpl := hpl)
def absD : List D → Option D
  | [.int i] => some (.int (if i < 0 then -i else i))
  | _ => none
theorem sat_abs : CallSat R (fun xs H Q => ∃ i, xs = [.int i] ∧ Q (.int (if i < 0 then -i else i)) H) absD := fun xs ds d' F H s Q w rs h k => by
  unfold absD at h
  split at h
  · cases h
    obtain ⟨v, ws, rfl, rv, e2⟩ := rs
    rw [show ws = [] from e2]
    exact ⟨_, by rw [show v = V.int _ from rv], k _ F H w Stp.refl rfl⟩
  · cases h
theorem de_abs {p : Pos} (hg : Gl X "abs") (hm : X.mg "abs" = none) (ha : PA X [e] (tDA R W O fs)) (he : starEach [e] X.env = (false, eval e X.env) :: starEach [] X.env := by rfl) (hpl : (backTo pos (starEach [] X.env)).any (·.1) = false := by rfl) :
    PE X (.Call (.Name "abs" p) [e] [] pos) (tD R W O (dAll absD fs)) := de_callB call_abs sat_abs hg hm (by decide +kernel) ha (he := he) (hpl := hpl)
/-- a row of truths, of numbers, of texts -/
def blsD : List D → Option (List Bool)
  | [] => some []
  | .bl b :: ds => (blsD ds).map fun bs => b :: bs
  | _ => none
def intsD : List D → Option (List Int)
  | [] => some []
  | .int b :: ds => (intsD ds).map fun bs => b :: bs
  | _ => none
def strsD : List D → Option (List Str)
  | [] => some []
  | .str b :: ds => (strsD ds).map fun bs => b :: bs
  | _ => none
theorem blsD_some : ∀ {ds : List D} {bs : List Bool}, blsD ds = some bs → ds = bs.map D.bl
  | [], bs, h => by cases h; rfl
  | d :: ds, bs, h => by
    cases d <;> try cases h
    rename_i b
    have h : (blsD ds).map (fun bs => b :: bs) = some bs := h
    cases e : blsD ds with
    | none => rw [e] at h; cases h
    | some cs => rw [e] at h; cases h; rw [blsD_some e]; rfl
theorem intsD_some : ∀ {ds : List D} {bs : List Int}, intsD ds = some bs → ds = bs.map D.int
  | [], bs, h => by cases h; rfl
  | d :: ds, bs, h => by
    cases d <;> try cases h
    rename_i b
    have h : (intsD ds).map (fun bs => b :: bs) = some bs := h
    cases e : intsD ds with
    | none => rw [e] at h; cases h
    | some cs => rw [e] at h; cases h; rw [intsD_some e]; rfl
theorem strsD_some : ∀ {ds : List D} {bs : List Str}, strsD ds = some bs → ds = bs.map D.str
  | [], bs, h => by cases h; rfl
  | d :: ds, bs, h => by
    cases d <;> try cases h
    rename_i b
    have h : (strsD ds).map (fun bs => b :: bs) = some bs := h
    cases e : strsD ds with
    | none => rw [e] at h; cases h
    | some cs => rw [e] at h; cases h; rw [strsD_some e]; rfl
theorem blsD_map (bs : List Bool) : blsD (bs.map D.bl) = some bs := by
  induction bs with
  | nil => rfl
  | cons b bs ih => rw [List.map_cons]; unfold blsD; rw [ih]; rfl
theorem intsD_map (bs : List Int) : intsD (bs.map D.int) = some bs := by
  induction bs with
  | nil => rfl
  | cons b bs ih => rw [List.map_cons]; unfold intsD; rw [ih]; rfl
theorem strsD_map (bs : List Str) : strsD (bs.map D.str) = some bs := by
  induction bs with
  | nil => rfl
  | cons b bs ih => rw [List.map_cons]; unfold strsD; rw [ih]; rfl
theorem reps_bl {K : PySem.W.Frag} {nm : Nat → Option Addr} {F : Hp} : ∀ {bs : List Bool} {vs : List V}, Reps K nm F (bs.map D.bl) vs → vs = bs.map V.bl
  | [], vs, r => r
  | b :: bs, vs, r => by
    obtain ⟨v, ws, rfl, r1, r2⟩ := r
    rw [show v = V.bl b from r1, reps_bl r2]
    rfl
theorem reps_int {K : PySem.W.Frag} {nm : Nat → Option Addr} {F : Hp} : ∀ {bs : List Int} {vs : List V}, Reps K nm F (bs.map D.int) vs → vs = bs.map V.int
  | [], vs, r => r
  | b :: bs, vs, r => by
    obtain ⟨v, ws, rfl, r1, r2⟩ := r
    rw [show v = V.int b from r1, reps_int r2]
    rfl
theorem reps_str {K : PySem.W.Frag} {nm : Nat → Option Addr} {F : Hp} : ∀ {bs : List Str} {vs : List V}, Reps K nm F (bs.map D.str) vs → vs = bs.map V.str ∧ ∀ b ∈ bs, b.length ≤ sizeLine
  | [], vs, r => ⟨r, fun _ h => by cases h⟩
  | b :: bs, vs, r => by
    obtain ⟨v, ws, rfl, r1, r2⟩ := r
    obtain ⟨h1, h2⟩ := reps_str r2
    refine ⟨by rw [r1.1, h1]; rfl, fun c hc => ?_⟩
    rcases List.mem_cons.mp hc with rfl | hc
    · exact r1.2
    · exact h2 c hc
def allD : List D → Option D
  | [.row ds] => (blsD ds).map fun bs => .bl (bs.all id)
  | _ => none
def anyD : List D → Option D
  | [.row ds] => (blsD ds).map fun bs => .bl (bs.any id)
  | _ => none
def sumD : List D → Option D
  | [.row ds] => (intsD ds).map fun bs => .int bs.sum
  | _ => none
theorem sat_all : CallSat R (rAll R.K) allD := fun xs ds d' F H s Q w rs h k => by
  unfold allD at h
  split at h
  · rename_i ds
    cases e : blsD ds with
    | none => rw [e] at h; cases h
    | some bs =>
      rw [e] at h
      cases h
      rw [blsD_some e] at rs
      obtain ⟨v, ws, rfl, ⟨a, vs, rfl, h1, _, h2⟩, e2⟩ := rs
      rw [show ws = [] from e2]
      exact ⟨a, bs, rfl, by rw [← reps_bl h2]; exact SqL.of (w.sub.lst h1), k _ F H w Stp.refl rfl⟩
  · cases h
theorem sat_any : CallSat R (rAny R.K) anyD := fun xs ds d' F H s Q w rs h k => by
  unfold anyD at h
  split at h
  · rename_i ds
    cases e : blsD ds with
    | none => rw [e] at h; cases h
    | some bs =>
      rw [e] at h
      cases h
      rw [blsD_some e] at rs
      obtain ⟨v, ws, rfl, ⟨a, vs, rfl, h1, _, h2⟩, e2⟩ := rs
      rw [show ws = [] from e2]
      exact ⟨a, bs, rfl, by rw [← reps_bl h2]; exact SqL.of (w.sub.lst h1), k _ F H w Stp.refl rfl⟩
  · cases h
theorem sat_sum : CallSat R (rSum R.K) sumD := fun xs ds d' F H s Q w rs h k => by
  unfold sumD at h
  split at h
  · rename_i ds
    cases e : intsD ds with
    | none => rw [e] at h; cases h
    | some bs =>
      rw [e] at h
      cases h
      rw [intsD_some e] at rs
      obtain ⟨v, ws, rfl, ⟨a, vs, rfl, h1, _, h2⟩, e2⟩ := rs
      rw [show ws = [] from e2]
      exact ⟨a, bs, rfl, by rw [← reps_int h2]; exact SqL.of (w.sub.lst h1), k _ F H w Stp.refl rfl⟩
  · cases h
theorem de_all {n : Nat} {p : Pos} (c : Cxt X R W n) (hg : Gl X "all") (hm : X.mg "all" = none) (ha : PA X [e] (tDA R W O fs)) (he : starEach [e] X.env = (false, eval e X.env) :: starEach [] X.env := by rfl) (hpl : (backTo pos (starEach [] X.env)).any (·.1) = false := by rfl) :
    PE X (.Call (.Name "all" p) [e] [] pos) (tD R W O (dAll allD fs)) := de_callB (cr_all c.calm) (by rw [← c.hK]; exact sat_all) hg hm (by decide +kernel) ha (he := he) (hpl := hpl)
theorem de_any {n : Nat} {p : Pos} (c : Cxt X R W n) (hg : Gl X "any") (hm : X.mg "any" = none) (ha : PA X [e] (tDA R W O fs)) (he : starEach [e] X.env = (false, eval e X.env) :: starEach [] X.env := by rfl) (hpl : (backTo pos (starEach [] X.env)).any (·.1) = false := by rfl) :
    PE X (.Call (.Name "any" p) [e] [] pos) (tD R W O (dAll anyD fs)) := de_callB (cr_any c.calm) (by rw [← c.hK]; exact sat_any) hg hm (by decide +kernel) ha (he := he) (hpl := hpl)
theorem de_sum {n : Nat} {p : Pos} (c : Cxt X R W n) (hg : Gl X "sum") (hm : X.mg "sum" = none) (ha : PA X [e] (tDA R W O fs)) (he : starEach [e] X.env = (false, eval e X.env) :: starEach [] X.env := by rfl) (hpl : (backTo pos (starEach [] X.env)).any (·.1) = false := by rfl) :
    PE X (.Call (.Name "sum" p) [e] [] pos) (tD R W O (dAll sumD fs)) := de_callB (cr_sum c.calm) (by rw [← c.hK]; exact sat_sum) hg hm (by decide +kernel) ha (he := he) (hpl := hpl)
end
end Nw
set_option Elab.async false
set_option linter.all false
set_option maxRecDepth 100000
set_option maxHeartbeats 4000000
/-! Part Q: isinstance, built-in types as calls, methods. -/
namespace Nw
open PySem PySem.Spec L2
/-! ### isinstance -/
def tyN : D → Option String
  | .non => some "NoneType"
  | .bl _ => some "bool"
  | .int _ => some "int"
  | .str _ => some "str"
  | .row _ => some "list"
  | .tup _ => some "tuple"
  | .tab _ => some "dict"
  | _ => none
def isiD (T : String) (d : D) : Option D := (tyN d).bind fun t => (kitB t T).map D.bl
section
variable {X : Cx} {R : Reg} {W : WX} {O : List Nat} {a e : Expr} {es : List Expr} {f : Sl → M R.S D} {fs : Sl → M R.S (List D)} {pos : Pos}
theorem tyX_of {K : PySem.W.Frag} {nm : Nat → Option Addr} {F H : Hp} {d : D} {v : V} {t : String} (sb : Sub F H) (r : Rep K nm F d v) (e : tyN d = some t) : TyX K H v (.type t) := by
  cases d with
  | non => cases e; rw [show v = V.non from r]; exact .base .non
  | bl c => cases e; rw [show v = V.bl c from r]; exact .base (.bl c)
  | int i => cases e; rw [show v = V.int i from r]; exact .base (.int i)
  | str x => cases e; rw [r.1]; exact .base (.str x)
  | row xs => cases e; obtain ⟨a, vs, rfl, h1, _, _⟩ := r; exact .base (.lst (sb.lst h1))
  | tup xs => cases e; obtain ⟨a, vs, rfl, h1, _, _⟩ := r; exact .base (.tup (sb.tup h1))
  | tab xs =>
    cases e
    obtain ⟨a, vs, rfl, h1, _, _⟩ := r
    rcases sb.dK h1 with h | ⟨o, h⟩
    · exact .base (.dK h)
    · exact .fDict h
  | kro _ => cases e
  | exc _ _ => cases e
  | obj _ => cases e
/-- two arguments, the second a class -/
theorem pa_cls {c : Expr} {vc : V} (ha : PE X a (tD R W O f)) (hc : PE X c (tC vc)) (h1 : starEach [a, c] X.env = (false, eval a X.env) :: starEach [c] X.env := by rfl) (h2 : starEach [c] X.env = (false, eval c X.env) :: starEach [] X.env := by rfl) :
    PA X [a, c] (fun σ H Q => tD R W O f σ H fun v H1 => Q [v, vc] H1) := pa_imp (pa_cons ha (pa_cons hc pa_nil h2) h1) fun σ H Q h => h
theorem sat_isa {r : List V → Hp → VK → Prop} {vc : V} {op : D → Option D} (hs : ∀ (v : V) (d d' : D) (F H : Hp) (s : R.S) (Q : VK), Wd R F H s → Rep R.K R.nm F d v → op d = some d' → (∀ v F' H', Wd R F' H' s → Stp R F H F' H' → Rep R.K R.nm F' d' v → Q v H') → r [v, vc] H Q)
    (σ : L2.St) (H : Hp) (Q : VK) (h : tD R W O (dUn op f) σ H Q) : tCB r (fun σ H Q => tD R W O f σ H fun v H1 => Q [v, vc] H1) σ H Q := by
  obtain ⟨F, ρ, s, w, pu, p⟩ := h
  refine ⟨F, ρ, s, w, pu, p.bnd.imp (fun d s1 F1 H1 w1 st1 p1 v rv => ?_) fun _ _ _ _ _ _ z => z⟩
  obtain ⟨d', e', k⟩ := p1.lift
  exact hs v d d' F1 H1 s1 Q w1 rv e' fun v' F' H' w' st' r' => k F' H' w' st' v' r'
theorem de_isi {n : Nat} (T : String) {x : Str} {p q : Pos} (c : Cxt X R W n) (hg : Gl X "isinstance") (hm : X.mg "isinstance" = none) (hgT : Gl X x) (hmT : X.mg x = none) (hvT : bootBuiltins x = some (.type T)) (ha : PE X a (tD R W O f)) (hn : x ≠ "__name__" := by decide) (hd : (x == ("__debug__" : Str)) = false := by decide)
    (h1 : starEach [a, .Name x q] X.env = (false, eval a X.env) :: starEach [.Name x q] X.env := by rfl) (h2 : starEach [.Name x q] X.env = (false, eval (.Name x q) X.env) :: starEach [] X.env := by rfl) (hpl : (backTo pos (starEach [.Name x q] X.env)).any (·.1) = false := by rfl) :
    PE X (.Call (.Name "isinstance" p) [a, .Name x q] [] pos) (tD R W O (dUn (isiD T) f)) :=
  pe_imp (pe_callB call_isi hg hm (by decide +kernel) (pa_cls ha (pe_bltn (v := .ty T) hgT hmT hvT rfl hn hd) h1 h2) (by decide) (by decide) h1 hpl) (sat_isa fun v d d' F H s Q w rv e k => by
    unfold isiD at e
    cases et : tyN d with
    | none => rw [et] at e; cases e
    | some t =>
      rw [et] at e
      have e : (kitB t T).map D.bl = some d' := e
      cases ek : kitB t T with
      | none => rw [ek] at e; cases e
      | some b =>
        rw [ek] at e
        cases e
        exact ⟨v, .ty T, .type t, .type T, b, rfl, .ty T, by rw [← c.hK]; exact tyX_of w.sub rv et, kit_ty ek, k _ F H w Stp.refl rfl⟩)
/-! ### isinstance of an error -/
/-- c is of c' -/
def subC (c c' : Cl) : Bool := c == c' || c' == .NestError
abbrev eA (K : PySem.W.Frag) (c : Cl) : Addr := He.ga K c.name
/-- what the classes say -/
structure XC (K : PySem.W.Frag) (c : Cl) : Prop where
  cl : (PySem.W.clsIn K (eA K c)).isSome = true
  ga : PySem.W.findIn K (.ref (eA K c)) "__getattribute__" = some (some (.builtin "BaseException.__getattribute__"))
  gt : PySem.W.findIn K (.ref (eA K c)) "__getattr__" = some none
  sub : PySem.W.subIn K (.ref (eA K c)) (.type "BaseException") = some true
  ca : PySem.W.findIn K (.ref (eA K c)) "__class__" = some (some (.builtin "object.__class__"))
  sp : PySem.W.specialIn K (.builtin "object.__class__") "__get__" = some (some (.builtin "getset_descriptor.__get__"))
  tk : PySem.W.takesIn K (.builtin "object.__class__") = some true
  mr : PySem.W.mroIn K (eA K c) (.type "object") = some true
  ve : PySem.W.kitOne K (.ref (eA K c)) (.type "ValueError") = some true
  dc : PySem.W.hasDictIn K (eA K c) = true
  ty : PySem.W.typeIn K (.ref (eA K c)) = some (.type "type")
def xcB (K : PySem.W.Frag) (c : Cl) : Bool :=
  (PySem.W.clsIn K (eA K c)).isSome && He.eqO (PySem.W.findIn K (.ref (eA K c)) "__getattribute__") (some (some (.builtin "BaseException.__getattribute__"))) && He.eqO (PySem.W.findIn K (.ref (eA K c)) "__getattr__") (some none)
  && decide (PySem.W.subIn K (.ref (eA K c)) (.type "BaseException") = some true) && He.eqO (PySem.W.findIn K (.ref (eA K c)) "__class__") (some (some (.builtin "object.__class__")))
  && He.eqO (PySem.W.specialIn K (.builtin "object.__class__") "__get__") (some (some (.builtin "getset_descriptor.__get__"))) && decide (PySem.W.takesIn K (.builtin "object.__class__") = some true)
  && decide (PySem.W.mroIn K (eA K c) (.type "object") = some true) && decide (PySem.W.kitOne K (.ref (eA K c)) (.type "ValueError") = some true) && PySem.W.hasDictIn K (eA K c) && decide (PySem.W.typeIn K (.ref (eA K c)) = some (.type "type"))
def xfB (K : PySem.W.Frag) (cs : List Cl) : Bool := cs.all fun c => xcB K c && cs.all fun c' => decide (PySem.W.kitOne K (.ref (eA K c)) (.ref (eA K c')) = some (subC c c')) && decide (PySem.W.exmOne K (.ref (eA K c)) (.ref (eA K c')) = some (subC c c'))
structure XF (K : PySem.W.Frag) (cs : List Cl) : Prop where
  xc : ∀ c ∈ cs, XC K c
  kit : ∀ c ∈ cs, ∀ c' ∈ cs, PySem.W.kitOne K (.ref (eA K c)) (.ref (eA K c')) = some (subC c c')
  exm : ∀ c ∈ cs, ∀ c' ∈ cs, PySem.W.exmOne K (.ref (eA K c)) (.ref (eA K c')) = some (subC c c')
theorem xf_of {K : PySem.W.Frag} {cs : List Cl} (h : xfB K cs = true) : XF K cs := by
  have h1 := List.all_eq_true.mp h
  have h2 : ∀ c ∈ cs, ∀ c' ∈ cs, PySem.W.kitOne K (.ref (eA K c)) (.ref (eA K c')) = some (subC c c') ∧ PySem.W.exmOne K (.ref (eA K c)) (.ref (eA K c')) = some (subC c c') := fun c hc c' hc' => by
    obtain ⟨_, h4⟩ := Bool.and_eq_true_iff.mp (h1 c hc)
    obtain ⟨h5, h6⟩ := Bool.and_eq_true_iff.mp (List.all_eq_true.mp h4 c' hc')
    exact ⟨of_decide_eq_true h5, of_decide_eq_true h6⟩
  refine ⟨fun c hc => ?_, fun c hc c' hc' => (h2 c hc c' hc').1, fun c hc c' hc' => (h2 c hc c' hc').2⟩
  obtain ⟨h3, _⟩ := Bool.and_eq_true_iff.mp (h1 c hc)
  unfold xcB at h3
  obtain ⟨h3, a11⟩ := Bool.and_eq_true_iff.mp h3
  obtain ⟨h3, a10⟩ := Bool.and_eq_true_iff.mp h3
  obtain ⟨h3, a9⟩ := Bool.and_eq_true_iff.mp h3
  obtain ⟨h3, a8⟩ := Bool.and_eq_true_iff.mp h3
  obtain ⟨h3, a7⟩ := Bool.and_eq_true_iff.mp h3
  obtain ⟨h3, a6⟩ := Bool.and_eq_true_iff.mp h3
  obtain ⟨h3, a5⟩ := Bool.and_eq_true_iff.mp h3
  obtain ⟨h3, a4⟩ := Bool.and_eq_true_iff.mp h3
  obtain ⟨h3, a3⟩ := Bool.and_eq_true_iff.mp h3
  obtain ⟨a1, a2⟩ := Bool.and_eq_true_iff.mp h3
  exact ⟨a1, He.eqO_ok a2, He.eqO_ok a3, of_decide_eq_true a4, He.eqO_ok a5, He.eqO_ok a6, of_decide_eq_true a7, of_decide_eq_true a8, of_decide_eq_true a9, a10, of_decide_eq_true a11⟩
/-- isinstance(e, c), e an error that is held -/
def rIsX (K : PySem.W.Frag) : List V → Hp → VK → Prop := fun xs H Q => ∃ (c : Cl) (a : Addr) (dd : Option Addr) (t : V) (tv : Value) (b : Bool), xs = [.ref a, t] ∧ XC K c ∧ H a = some (ExH (.ref (eA K c)) dd a) ∧ (∀ d, dd = some d → ∃ ws, H d = some (.xd ws)) ∧ ClsV t tv ∧ PySem.W.kitOne K (.ref (eA K c)) tv = some b ∧ Q (.bl b) H
theorem call_isX : CallR X (.builtin "isinstance") (rIsX X.K) := by
  intro pins s σ H xs us Q I r h
  obtain ⟨c, a, dd, t, tv, b, rfl, xc, ha, hd, ct, hk, q⟩ := h
  obtain ⟨u1, u2, rfl, r1, r2⟩ := vals2 r
  have e2 := ct.eq r2
  subst e2
  cases (show u1 = Value.ref a from r1)
  obtain ⟨⟨oe, hg, hz, vs, hv⟩, _, _⟩ := (show ObjOk X.prog X.w H s.heap a (ExH (.ref (eA X.K c)) dd a) from I.hok a _ ha)
  have J : ∃ od, PySem.W.InstAt s.heap a oe (eA X.K c) od := by
    obtain ⟨oc, od, oda, osl⟩ := oe
    obtain ⟨h1, h2⟩ := hz
    dsimp only at h1 h2 hv
    subst h1 h2 hv
    cases od with
    | none => exact ⟨none, hg, rfl, rfl, trivial⟩
    | some d =>
      obtain ⟨ws, hw⟩ := hd d rfl
      obtain ⟨mA, ⟨od, _, _, e, _⟩, _⟩ := (show ObjOk X.prog X.w H s.heap d (.xd ws) from I.hok d _ hw)
      exact ⟨some od, hg, rfl, rfl, e⟩
  obtain ⟨od, J⟩ := J
  exact PySem.W.kia_one (PySem.W.kitx_exc xc.cl xc.ga xc.gt xc.sub xc.ca xc.sp xc.tk xc.mr) I.kIn J hk (fun z => nomatch z) fun tk => ⟨.bl b, H, I.tok tk, rfl, q⟩
def isxD (cs : List Cl) (c' : Cl) : D → Option D
  | .exc c _ => if c ∈ cs then some (.bl (subC c c')) else none
  | _ => none
def isvD (cs : List Cl) : D → Option D
  | .exc c _ => if c ∈ cs then some (.bl true) else none
  | _ => none
theorem Sub.exc {F H : Hp} (h : Sub F H) {a : Addr} {φ : Heap → Prop} (e : F a = some (.ext φ)) : H a = some (.ext φ) := by
  rcases h a _ e with z | ⟨_, _, z, _⟩
  · exact z
  · cases z
theorem Sub.xd {F H : Hp} (h : Sub F H) {a : Addr} {ws : List (Str × V)} (e : F a = some (.xd ws)) : H a = some (.xd ws) := by
  rcases h a _ e with z | ⟨_, _, z, _⟩
  · exact z
  · cases z
theorem sat_isx {cs : List Cl} (xf : XF R.K cs) (t : V) (tv : Value) (ct : ClsV t tv) (g : Cl → Bool) (hk : ∀ c ∈ cs, PySem.W.kitOne R.K (.ref (eA R.K c)) tv = some (g c)) (v : V) (d d' : D) (F H : Hp) (s : R.S) (Q : VK) (w : Wd R F H s) (rv : Rep R.K R.nm F d v)
    (e : (match d with | .exc c _ => if c ∈ cs then some (D.bl (g c)) else none | _ => none) = some d') (k : ∀ v F' H', Wd R F' H' s → Stp R F H F' H' → Rep R.K R.nm F' d' v → Q v H') : rIsX R.K [v, t] H Q := by
  cases d with
  | exc c fs =>
    have e : (if c ∈ cs then some (D.bl (g c)) else none) = some d' := e
    by_cases hc : c ∈ cs
    · rw [if_pos hc] at e
      cases e
      obtain ⟨a, dd, rfl, h1, h2⟩ := rv
      refine ⟨c, a, dd, t, tv, g c, rfl, xf.xc c hc, w.sub.exc h1, fun d hd => ?_, ct, hk c hc, k _ F H w Stp.refl rfl⟩
      rcases h2 with ⟨_, h2⟩ | ⟨d2, ws, h2, h3, _⟩
      · rw [h2] at hd; cases hd
      · rw [h2] at hd; cases hd; exact ⟨ws, w.sub.xd h3⟩
    · rw [if_neg hc] at e; cases e
  | _ => cases e
theorem de_isx {n : Nat} {cs : List Cl} (c' : Cl) {p q : Pos} {x : Str} (c : Cxt X R W n) (xf : XF X.K cs) (hc' : c' ∈ cs) (hx : c'.name = x) (hg : Gl X "isinstance") (hm : X.mg "isinstance" = none) (hgT : Gl X x) (hmT : X.mg x = some (.ref (He.ga X.K x))) (ha : PE X a (tD R W O f)) (hd : (x == ("__debug__" : Str)) = false := by decide)
    (h1 : starEach [a, .Name x q] X.env = (false, eval a X.env) :: starEach [.Name x q] X.env := by rfl) (h2 : starEach [.Name x q] X.env = (false, eval (.Name x q) X.env) :: starEach [] X.env := by rfl) (hpl : (backTo pos (starEach [.Name x q] X.env)).any (·.1) = false := by rfl) :
    PE X (.Call (.Name "isinstance" p) [a, .Name x q] [] pos) (tD R W O (dUn (isxD cs c') f)) := by
  subst hx
  have hK := c.hK
  exact pe_imp (pe_callB call_isX hg hm (by decide +kernel) (pa_cls ha (pe_glob (v := .ref (He.ga X.K c'.name)) hgT hmT rfl hd) h1 h2) (by decide) (by decide) h1 hpl) (sat_isa fun v d d' F H s Q w rv e k => by
    rw [← hK] at xf ⊢
    exact sat_isx xf _ _ (.own _) (fun c => subC c c') (fun c hc => xf.kit c hc c' hc') v d d' F H s Q w rv (by cases d <;> exact e) k)
theorem de_isv {n : Nat} {cs : List Cl} {p q : Pos} (c : Cxt X R W n) (xf : XF X.K cs) (hg : Gl X "isinstance") (hm : X.mg "isinstance" = none) (hgT : Gl X "ValueError") (hmT : X.mg "ValueError" = none) (ha : PE X a (tD R W O f))
    (h1 : starEach [a, .Name "ValueError" q] X.env = (false, eval a X.env) :: starEach [.Name "ValueError" q] X.env := by rfl) (h2 : starEach [.Name "ValueError" q] X.env = (false, eval (.Name "ValueError" q) X.env) :: starEach [] X.env := by rfl) (hpl : (backTo pos (starEach [.Name "ValueError" q] X.env)).any (·.1) = false := by rfl) :
    PE X (.Call (.Name "isinstance" p) [a, .Name "ValueError" q] [] pos) (tD R W O (dUn (isvD cs) f)) := by
  have hK := c.hK
  exact pe_imp (pe_callB call_isX hg hm (by decide +kernel) (pa_cls ha (pe_bltn (v := .ty "ValueError") hgT hmT (by decide +kernel) rfl (by decide) (by decide)) h1 h2) (by decide) (by decide) h1 hpl) (sat_isa fun v d d' F H s Q w rv e k => by
    rw [← hK] at xf ⊢
    exact sat_isx xf _ _ (.ty _) (fun c => true) (fun c hc => (xf.xc c hc).ve) v d d' F H s Q w rv (by cases d <;> exact e) k)
/-! ### list(x), tuple(x), int(x), str(x) -/
def listD : List D → Option D
  | [.row ds] => some (.row ds)
  | [.tup ds] => some (.row ds)
  | [.kro ds] => some (.row ds)
  | _ => none
theorem sat_list : CallSat R (fun xs H Q => ∃ p ys, xs = [.ref p] ∧ (SqL R.K H p ys ∨ SqT R.K H p ys) ∧ ∀ l, H l = none → Q (.ref l) (upd H l (.lst ys))) listD := fun xs ds d' F H s Q w rs h k => by
  unfold listD at h
  split at h
  · cases h
    obtain ⟨v, ws, rfl, ⟨a, vs, rfl, h1, hz, h2⟩, e2⟩ := rs
    rw [show ws = [] from e2]
    exact ⟨a, vs, rfl, .inl (SqL.of (w.sub.lst h1)), fun l hl => new_row w hz h2 hl k⟩
  · cases h
    obtain ⟨v, ws, rfl, ⟨a, vs, rfl, h1, hz, h2⟩, e2⟩ := rs
    rw [show ws = [] from e2]
    exact ⟨a, vs, rfl, .inr (SqT.of (w.sub.tup h1)), fun l hl => new_row w hz h2 hl k⟩
  · cases h
    obtain ⟨v, ws, rfl, ⟨a, vs, rfl, h1, hz, h2⟩, e2⟩ := rs
    rw [show ws = [] from e2]
    exact ⟨a, vs, rfl, .inl (w.sub.sqL h1), fun l hl => new_row w hz h2 hl k⟩
  · cases h
theorem de_list {n : Nat} {p : Pos} (c : Cxt X R W n) (hg : Gl X "list") (hm : X.mg "list" = none) (ha : PA X [e] (tDA R W O fs)) (he : starEach [e] X.env = (false, eval e X.env) :: starEach [] X.env := by rfl) (hpl : (backTo pos (starEach [] X.env)).any (·.1) = false := by rfl) :
    PE X (.Call (.Name "list" p) [e] [] pos) (tD R W O (dAll listD fs)) := de_callTy call_list_of (by rw [← c.hK]; exact sat_list) hg hm (by decide +kernel) ha (he := he) (hpl := hpl)
def tupleD : List D → Option D
  | [.row ds] => some (.tup ds)
  | [.tup ds] => some (.tup ds)
  | _ => none
theorem sat_tuple : CallSat R (fun xs H Q => ∃ p ys, xs = [.ref p] ∧ ((SqL R.K H p ys ∧ ∀ l, H l = none → Q (.ref l) (upd H l (.tup ys))) ∨ (SqT R.K H p ys ∧ Q (.ref p) H))) tupleD := fun xs ds d' F H s Q w rs h k => by
  unfold tupleD at h
  split at h
  · cases h
    obtain ⟨v, ws, rfl, ⟨a, vs, rfl, h1, hz, h2⟩, e2⟩ := rs
    rw [show ws = [] from e2]
    exact ⟨a, vs, rfl, .inl ⟨SqL.of (w.sub.lst h1), fun l hl => new_tup w hz h2 hl k⟩⟩
  · cases h
    obtain ⟨v, ws, rfl, rv, e2⟩ := rs
    have rv' := rv
    obtain ⟨a, vs, rfl, h1, hz, h2⟩ := rv
    rw [show ws = [] from e2]
    exact ⟨a, vs, rfl, .inr ⟨SqT.of (w.sub.tup h1), k _ F H w Stp.refl rv'⟩⟩
  · cases h
theorem de_tuple {n : Nat} {p : Pos} (c : Cxt X R W n) (hg : Gl X "tuple") (hm : X.mg "tuple" = none) (ha : PA X [e] (tDA R W O fs)) (he : starEach [e] X.env = (false, eval e X.env) :: starEach [] X.env := by rfl) (hpl : (backTo pos (starEach [] X.env)).any (·.1) = false := by rfl) :
    PE X (.Call (.Name "tuple" p) [e] [] pos) (tD R W O (dAll tupleD fs)) := de_callTy call_tuple_of (by rw [← c.hK]; exact sat_tuple) hg hm (by decide +kernel) ha (he := he) (hpl := hpl)
def toIntD : List D → Option D
  | [.int i] => some (.int i)
  | [.bl k] => some (.int (if k then 1 else 0))
  | [.str a] => if a.length ≤ 640 then (PySem.intText? a).map D.int else none
  | _ => none
theorem sat_int : CallSat R (fun xs H Q => ((∃ i, xs = [.int i] ∧ Q (.int i) H) ∨ ∃ k, xs = [.bl k] ∧ Q (.int (if k then 1 else 0)) H) ∨ ∃ a n, xs = [.str a] ∧ PySem.intText? a = some n ∧ a.length ≤ 640 ∧ Q (.int n) H) toIntD := fun xs ds d' F H s Q w rs h k => by
  unfold toIntD at h
  split at h
  · cases h
    obtain ⟨v, ws, rfl, rfl, e2⟩ := rs
    rw [show ws = [] from e2]
    exact .inl (.inl ⟨_, rfl, k _ F H w Stp.refl rfl⟩)
  · cases h
    obtain ⟨v, ws, rfl, rfl, e2⟩ := rs
    rw [show ws = [] from e2]
    exact .inl (.inr ⟨_, rfl, k _ F H w Stp.refl rfl⟩)
  · rename_i a
    split at h
    · rename_i hz
      cases ei : PySem.intText? a with
      | none => rw [ei] at h; cases h
      | some n =>
        rw [ei] at h
        cases h
        obtain ⟨v, ws, rfl, ⟨rfl, _⟩, e2⟩ := rs
        rw [show ws = [] from e2]
        exact .inr ⟨_, n, rfl, ei, hz, k _ F H w Stp.refl rfl⟩
    · cases h
  · cases h
theorem call_int3 : CallR X (.type "int") (fun xs H Q => ((∃ i, xs = [.int i] ∧ Q (.int i) H) ∨ ∃ k, xs = [.bl k] ∧ Q (.int (if k then 1 else 0)) H) ∨ ∃ a n, xs = [.str a] ∧ PySem.intText? a = some n ∧ a.length ≤ 640 ∧ Q (.int n) H) := fun pins s σ H xs us Q I rs q => q.elim (call_int1 pins s σ H xs us Q I rs) (call_int_str pins s σ H xs us Q I rs)
theorem de_toint {n : Nat} {p : Pos} (c : Cxt X R W n) (hg : Gl X "int") (hm : X.mg "int" = none) (ha : PA X [e] (tDA R W O fs)) (he : starEach [e] X.env = (false, eval e X.env) :: starEach [] X.env := by rfl) (hpl : (backTo pos (starEach [] X.env)).any (·.1) = false := by rfl) :
    PE X (.Call (.Name "int" p) [e] [] pos) (tD R W O (dAll toIntD fs)) := de_callTy call_int3 sat_int hg hm (by decide +kernel) ha (he := he) (hpl := hpl)
def strD : List D → Option D
  | [.int i] => if i.natAbs.log2 < 1920 ∧ (toString i : Str).length ≤ sizeLine then some (.str (toString i)) else none
  | _ => none
theorem sat_str : CallSat R (fun xs H Q => ∃ i, xs = [.int i] ∧ i.natAbs.log2 < 1920 ∧ Q (.str (toString i)) H) strD := fun xs ds d' F H s Q w rs h k => by
  unfold strD at h
  split at h
  · split at h
    · rename_i hz
      cases h
      obtain ⟨v, ws, rfl, rfl, e2⟩ := rs
      rw [show ws = [] from e2]
      exact ⟨_, rfl, hz.1, k _ F H w Stp.refl ⟨rfl, hz.2⟩⟩
    · cases h
  · cases h
theorem de_tostr {n : Nat} {p : Pos} (c : Cxt X R W n) (hg : Gl X "str") (hm : X.mg "str" = none) (ha : PA X [e] (tDA R W O fs)) (he : starEach [e] X.env = (false, eval e X.env) :: starEach [] X.env := by rfl) (hpl : (backTo pos (starEach [] X.env)).any (·.1) = false := by rfl) :
    PE X (.Call (.Name "str" p) [e] [] pos) (tD R W O (dAll strD fs)) := de_callTy call_str_int sat_str hg hm (by decide +kernel) ha (he := he) (hpl := hpl)
/-! ### methods of built-in types -/
def tyIs (T : String) : D → Option Unit
  | .str _ => if T = "str" then some () else none
  | .row _ => if T = "list" then some () else none
  | .kro _ => if T = "list" then some () else none
  | .tab _ => if T = "dict" then some () else none
  | _ => none
def dMt {S : Type} (T : String) (op : D → List D → Option D) (f : Sl → M S D) (fs : Sl → M S (List D)) : Sl → M S D := fun r => bnd (f r) fun x => bnd (lift (tyIs T x)) fun _ => bnd (fs r) fun xs => lift (op x xs)
def TyW (K : PySem.W.Frag) (T : String) (x : V) (H : Hp) : Prop := tyV K T x H ∨ (T = "dict" ∧ ∃ p kvs, x = .ref p ∧ Rd H p (.dK kvs))
theorem tyW_is {pins : List (Addr × Obj)} {σ : L2.St} {H : Hp} {s : Shared} {T : String} {x : V} {v : Value} (I : Inv X pins σ H s) (r : RelV x v) (ty : TyW X.K T x H) :
    s.TypeIs v T ∧ ∀ a, v = .ref a → ∃ ob, s.heap.get? a = some ob ∧ ob.dict = none := by
  rcases ty with ty | ⟨rfl, p, kvs, rfl, hd⟩
  · exact tyV_is I r ty
  · cases r
    have z : ∃ o, s.heap.get? p = some o ∧ o.ExactDict := by
      rcases hd with hk | ⟨ob, hk⟩
      · obtain ⟨_, _, _, _, o, _, _, e, ex, _⟩ := I.hok p _ hk
        exact ⟨o, e, ex⟩
      · obtain ⟨_, _, _, _, _, o, _, _, e, ex, _⟩ := (show ObjOk X.prog X.w H s.heap p (.frz ob (.dK kvs)) from I.hok p _ hk)
        exact ⟨o, e, ex⟩
    obtain ⟨o, e, ex⟩ := z
    refine ⟨⟨o, e, ex.1⟩, fun a e2 => ?_⟩
    cases e2
    exact ⟨o, e, ex.2.1⟩
theorem tyW_of {K : PySem.W.Frag} {nm : Nat → Option Addr} {F H : Hp} {d : D} {v : V} {T : String} {u : Unit} (sb : Sub F H) (r : Rep K nm F d v) (e : tyIs T d = some u) : TyW K T v H := by
  cases d with
  | str x =>
    have e : (if T = "str" then some () else none) = some u := e
    split at e
    · rename_i ht; subst ht; rw [r.1]; exact .inl rfl
    · cases e
  | row xs =>
    have e : (if T = "list" then some () else none) = some u := e
    split at e
    · rename_i ht; subst ht; obtain ⟨a, vs, rfl, h1, _, _⟩ := r; exact .inl (.inl ⟨rfl, vs, SqL.of (sb.lst h1)⟩)
    · cases e
  | tab xs =>
    have e : (if T = "dict" then some () else none) = some u := e
    split at e
    · rename_i ht; subst ht; obtain ⟨a, vs, rfl, h1, _, _⟩ := r; exact .inr ⟨rfl, a, vs, rfl, sb.dK h1⟩
    · cases e
  | kro xs =>
    have e : (if T = "list" then some () else none) = some u := e
    split at e
    · rename_i ht; subst ht; obtain ⟨a, vs, rfl, h1, _, _⟩ := r; exact .inl (.inl ⟨rfl, vs, sb.sqL h1⟩)
    · cases e
  | _ => cases e
def MtSat (R : Reg) (r : V → List V → Hp → VK → Prop) (op : D → List D → Option D) : Prop := ∀ (x : V) (xs : List V) (d : D) (ds : List D) (d' : D) (F H : Hp) (s : R.S) (Q : VK), Wd R F H s → Rep R.K R.nm F d x → Reps R.K R.nm F ds xs → op d ds = some d' →
  (∀ v F' H', Wd R F' H' s → Stp R F H F' H' → Rep R.K R.nm F' d' v → Q v H') → r x xs H Q
variable {o : Expr} {name : Str} {apos cpos : Pos} {T id : String} {r : V → List V → Hp → VK → Prop} {op : D → List D → Option D}
def tBW0 (K : PySem.W.Frag) (T : String) (r : V → List V → Hp → VK → Prop) (to : TE) : TE := fun σ H Q => to σ H fun x H1 => TyW K T x H1 ∧ r x [] H1 Q
def tBW (K : PySem.W.Frag) (T : String) (r : V → List V → Hp → VK → Prop) (to : TE) (t : TA) : TE := fun σ H Q => to σ H fun x H1 => TyW K T x H1 ∧ t σ H1 fun xs H2 => r x xs H2 Q
theorem pe_bw0 {to : TE} (pa : PlainAttrs T) (slot : Slot T name id) (hty : typeOf (.builtin id) = pure (.type "method_descriptor")) (hm : MtR X id r) (ho : PE X o to)
    (hbase : attributeBase o name X.env (eval o X.env) = eval o X.env := by rfl) (hline : (apos.endLine == cpos.line) = true := by rfl) : PE X (.Call (.Attribute o name apos) [] [] cpos) (tBW0 X.K T r to) := by
  refine ⟨fun pins s σ H Q I h => ?_⟩
  refine wpAny_Call_method0_late hbase hline (thn (ho.run pins s σ H _ I h) fun v s1 ⟨x, H1, I1, r1, ty, q1⟩ => ?_)
  obtain ⟨h1, h2⟩ := tyW_is I1 r1 ty
  exact ⟨T, id, pa, slot, hty, h1, h2, Calls.callWith_builtin rfl (PySem.evalArgs_none (hm pins s1 σ H1 x [] v [] Q I1 r1 .nil q1))⟩
theorem pe_bw {to : TE} {t : TA} (pa : PlainAttrs T) (slot : Slot T name id) (hty : typeOf (.builtin id) = pure (.type "method_descriptor")) (hm : MtR X id r) (ho : PE X o to) (ha : PA X (e :: es) t)
    (hbase : attributeBase o name X.env (eval o X.env) = eval o X.env := by rfl)
    (hfew : ((backTo cpos (starEach (e :: es) X.env)).all (fun x => !x.1) && (backToKw cpos (keywordEach [] X.env)).all (fun x => x.1.isSome)
      && decide ((e :: es).length + ([] : List Keyword).length + (if ([] : List Keyword).isEmpty then 0 else 1) < 30)) = true := by rfl)
    (hline : (apos.endLine == cpos.line) = true := by rfl) (hs : starEach (e :: es) X.env = (false, eval e X.env) :: starEach es X.env := by rfl) (hplain : (backTo cpos (starEach es X.env)).any (·.1) = false := by rfl) :
    PE X (.Call (.Attribute o name apos) (e :: es) [] cpos) (tBW X.K T r to t) := by
  refine ⟨fun pins s σ H Q I h => ?_⟩
  refine wpAny_Call_method_late hbase hfew hline rfl (thn (ho.run pins s σ H _ I h) fun v s1 ⟨x, H1, I1, r1, ty, q1⟩ => ?_)
  obtain ⟨h1, h2⟩ := tyW_is I1 r1 ty
  refine ⟨T, id, pa, slot, hty, h1, h2, ?_⟩
  have hA := ha.run cpos pins s1 σ H1 _ I1 q1
  rw [hs] at hA ⊢
  refine Calls.callWith_builtin (by show (false || (backTo cpos (starEach es X.env)).any (·.1)) = false; rw [hplain] <;> rfl) (Calls.evalArgs_plain ?_)
  exact thn hA fun us s2 ⟨vs, H2, I2, r2, q2⟩ => hm pins s2 σ H2 x vs v us Q I2 r1 r2 q2
theorem de_mt0 (pa : PlainAttrs T) (slot : Slot T name id) (hty : typeOf (.builtin id) = pure (.type "method_descriptor")) (hm : MtR X id r) (hK : R.K = X.K) (hs : MtSat R r op) (ho : PE X o (tD R W O f))
    (hbase : attributeBase o name X.env (eval o X.env) = eval o X.env := by rfl) (hline : (apos.endLine == cpos.line) = true := by rfl) : PE X (.Call (.Attribute o name apos) [] [] cpos) (tD R W O (dMt T op f dNil)) :=
  pe_imp (pe_bw0 pa slot hty hm ho hbase hline) fun σ H Q h => by
    obtain ⟨F, ρ, s, w, pu, p⟩ := h
    refine ⟨F, ρ, s, w, pu, p.bnd.imp (fun d s1 F1 H1 w1 st1 p1 v rv => ?_) fun _ _ _ _ _ _ z => z⟩
    obtain ⟨u, eu, p2⟩ := p1.lift0
    obtain ⟨d', e', k⟩ := p2.lift
    exact ⟨by rw [← hK]; exact tyW_of w1.sub rv eu, hs v [] d [] d' F1 H1 s1 Q w1 rv rfl e' fun v' F' H' w' st' r' => k F' H' w' st' v' r'⟩
theorem de_mt (pa : PlainAttrs T) (slot : Slot T name id) (hty : typeOf (.builtin id) = pure (.type "method_descriptor")) (hm : MtR X id r) (hK : R.K = X.K) (hs : MtSat R r op) (ho : PE X o (tD R W O f)) (ha : PA X (e :: es) (tDA R W O fs))
    (hbase : attributeBase o name X.env (eval o X.env) = eval o X.env := by rfl)
    (hfew : ((backTo cpos (starEach (e :: es) X.env)).all (fun x => !x.1) && (backToKw cpos (keywordEach [] X.env)).all (fun x => x.1.isSome)
      && decide ((e :: es).length + ([] : List Keyword).length + (if ([] : List Keyword).isEmpty then 0 else 1) < 30)) = true := by rfl)
    (hline : (apos.endLine == cpos.line) = true := by rfl) (hst : starEach (e :: es) X.env = (false, eval e X.env) :: starEach es X.env := by rfl) (hplain : (backTo cpos (starEach es X.env)).any (·.1) = false := by rfl) :
    PE X (.Call (.Attribute o name apos) (e :: es) [] cpos) (tD R W O (dMt T op f fs)) :=
  pe_imp (pe_bw pa slot hty hm ho ha hbase hfew hline hst hplain) fun σ H Q h => by
    obtain ⟨F, ρ, s, w, pu, p⟩ := h
    refine ⟨F, ρ, s, w, pu, p.bnd.imp (fun d s1 F1 H1 w1 st1 p1 v rv => ?_) fun _ _ _ _ _ _ z => z⟩
    obtain ⟨u, eu, p2⟩ := p1.lift0
    refine ⟨by rw [← hK]; exact tyW_of w1.sub rv eu, F1, ρ, s1, w1, pu.mono st1.fs, p2.bnd.imp (fun ds s2 F2 H2 w2 st2 p3 vs rvs => ?_) fun _ _ _ _ _ _ z => z⟩
    obtain ⟨d', e', k⟩ := p3.lift
    exact hs v vs d ds d' F2 H2 s2 Q w2 (rv.mono st2.fs) rvs e' fun v' F' H' w' st' r' => k F' H' w' st' v' r'
end
end Nw
set_option Elab.async false
set_option linter.all false
set_option maxRecDepth 100000
set_option maxHeartbeats 4000000
/-! Part R: comprehensions, tables walked, views. -/
namespace Nw
open PySem PySem.Spec L2
/-! ### locks that stay -/
section
variable {X : Cx}
theorem ps_lk {st : Stmt} {t : TS} (h : PS X st t) : PS X st (fun D σ H => ∃ d u, H d = some u ∧ Mut (some u) ∧ ∀ od, t D σ (upd H d (.frz od u))) := ⟨fun pins s σ H D I hw => by
  obtain ⟨d, u, hd, mu, hw⟩ := hw
  obtain ⟨od, I1⟩ := I.lock hd mu
  exact h.run pins s σ _ _ I1 (hw od)⟩
theorem pe_lk {e : Expr} {t : TE} (h : PE X e t) : PE X e (fun σ H Q => ∃ d u, H d = some u ∧ Mut (some u) ∧ ∀ od, t σ (upd H d (.frz od u)) Q) := ⟨fun pins s σ H Q I hw => by
  obtain ⟨d, u, hd, mu, hw⟩ := hw
  obtain ⟨od, I1⟩ := I.lock hd mu
  exact h.run pins s σ _ _ I1 (hw od)⟩
end
section
variable {R : Reg} {F H F0 H0 : Hp} {s : R.S} {d : Addr} {ws : List (Key × V)} {od : Obj}
theorem Wd.lock (w : Wd R F H s) (hF : F d = some (.dK ws)) : Wd R F (upd H d (.frz od (.dK ws))) s where
  sub := fun a o q => by
    by_cases e : a = d
    · subst e; rw [hF] at q; cases q; exact .inr ⟨ws, od, rfl, upd_same⟩
    · rw [upd_ne e]; exact w.sub a o q
  mu := w.mu
  si := R.loc s H _ w.si fun a m => upd_ne fun e => by rw [e] at m; rw [w.mu d m] at hF; cases hF
theorem Stp.lock (st : Stp R F0 H0 F H) (hF : F d = some (.dK ws)) (hH : H d = some (.dK ws)) : Stp R F0 H0 F (upd H d (.frz od (.dK ws))) where
  fs := st.fs
  hs := fun a o m q => by
    rcases st.hs a o m q with h | ⟨h1, kvs, ob, h2, h3⟩
    · by_cases e : a = d
      · subst e; rw [hH] at h; cases h; exact .inr ⟨hF, ws, od, rfl, upd_same⟩
      · rw [upd_ne e]; exact .inl h
    · by_cases e : a = d
      · subst e; rw [hH] at h3; cases h3
      · rw [upd_ne e]; exact .inr ⟨h1, kvs, ob, h2, h3⟩
  nw := st.nw
  th := fun a h => by
    by_cases e : a = d
    · rw [e, upd_same] at h; cases h
    · rw [upd_ne e] at h; exact st.th a h
theorem Slots.lock {O : List Nat} {σ : L2.St} {r : Sl} (h : Slots R H0 O F H σ r) (hF : F d = some (.dK ws)) : Slots R H0 O F (upd H d (.frz od (.dK ws))) σ r :=
  ⟨h.pu, fun i e hi q => by
    obtain ⟨a, h1, h2⟩ := h.ow i e hi q
    exact ⟨a, h1, h2.other fun z => by rw [z] at h2; rw [h2.2.1] at hF; cases hF⟩, h.sep⟩
end
/-! ### keys, values -/
def kD : Key → D
  | .inl i => .int i
  | .inr x => .str x
def keysD : D → Option (List D)
  | .tab kvs => some (kvs.map fun kv => kD kv.1)
  | _ => none
def valsD : D → Option (List D)
  | .tab kvs => some (kvs.map fun kv => kv.2)
  | _ => none
def dKeys {S : Type} (f : Sl → M S D) : Sl → M S (List D) := fun r => bnd (f r) fun x => lift (keysD x)
def dVals {S : Type} (f : Sl → M S D) : Sl → M S (List D) := fun r => bnd (f r) fun x => lift (valsD x)
/-- the table in the slot is locked -/
def Lk (i : Nat) (σ : L2.St) (H : Hp) : Prop := ∀ d kvs, σ[i]? = some (some (.ref d)) → H d ≠ some (.dK kvs)
section
variable {X : Cx} {R : Reg} {W : WX} {fr : Bool} {O O' B : List Nat} {tg : Expr} {pos apos cpos npos : Pos} {i : Nat} {x : Str}
theorem rep_key {K : PySem.W.Frag} {nm : Nat → Option Addr} {F : Hp} {k : Key} (h : kOk k) : Rep K nm F (kD k) (kV k) := by
  cases k with
  | inl j => exact rfl
  | inr y => exact ⟨rfl, h⟩
theorem walks_keys {F H : Hp} {a : Addr} {ds : List (Key × D)} {ws : List (Key × V)} {o : Obj} (hF : F a = some (.dK ws)) (hH : H a = some (.frz o (.dK ws))) (hz : ds.length ≤ sizeLine) (r : RepsK R.K R.nm F ds ws) : Walks R (Itk a o ws) F H (ds.map fun kv => kD kv.1) where
  hz := by rw [List.length_map]; exact hz
  go := fun i F2 H2 st h => by rw [List.length_map] at h; exact ⟨st.lk a o ws hF hH, by rw [r.length]; exact h⟩
  yld := fun i F2 H2 x H3 st h y => by
    rw [List.length_map] at h
    obtain ⟨e, k, v, hk, hx⟩ := y
    obtain ⟨v', h1, h2, _⟩ := r.get (i := i) (k := (ds[i]).1) (d := (ds[i]).2) (List.getElem?_eq_getElem h)
    rw [h1] at hk
    cases hk
    exact ⟨e, kD (ds[i]).1, by rw [List.getElem?_map, List.getElem?_eq_getElem h]; rfl, by rw [hx]; exact rep_key h2⟩
  stop := fun F2 H2 st => ⟨st.lk a o ws hF hH, by rw [List.length_map, r.length]; exact Nat.le_refl _⟩
theorem walks_vals {F H : Hp} {a : Addr} {ds : List (Key × D)} {ws : List (Key × V)} {o : Obj} (hF : F a = some (.dK ws)) (hH : H a = some (.frz o (.dK ws))) (hz : ds.length ≤ sizeLine) (r : RepsK R.K R.nm F ds ws) : Walks R (Itd a o ws) F H (ds.map fun kv => kv.2) where
  hz := by rw [List.length_map]; exact hz
  go := fun i F2 H2 st h => by rw [List.length_map] at h; exact ⟨st.lk a o ws hF hH, by rw [r.length]; exact h⟩
  yld := fun i F2 H2 x H3 st h y => by
    rw [List.length_map] at h
    obtain ⟨e, k, hk⟩ := y
    obtain ⟨v', h1, h2, h3⟩ := r.get (i := i) (k := (ds[i]).1) (d := (ds[i]).2) (List.getElem?_eq_getElem h)
    rw [h1] at hk
    cases hk
    exact ⟨e, (ds[i]).2, by rw [List.getElem?_map, List.getElem?_eq_getElem h]; rfl, h3.mono st.fs⟩
  stop := fun F2 H2 st => ⟨st.lk a o ws hF hH, by rw [List.length_map, r.length]; exact Nat.le_refl _⟩
/-- the slot's table, read -/
theorem slot_tab {F H : Hp} {σ : L2.St} {r : Sl} {s : R.S} {g : D → Option (List D)} {k : List D → R.S → Hp → Hp → Prop} {xk : Xn → R.S → Hp → Hp → Prop} (hg : ∀ d l, g d = some l → ∃ kvs, d = .tab kvs) (hO : i ∉ O) (w : Wd R F H s) (pu : Pu R O F σ r) (p : Post R F H (bnd (dVar i r) (fun x => lift (g x)) s) k xk) :
    ∃ kvs l a ws, σ[i]? = some (some (.ref a)) ∧ g (.tab kvs) = some l ∧ F a = some (.dK ws) ∧ kvs.length ≤ sizeLine ∧ RepsK R.K R.nm F kvs ws ∧ ∀ F' H', Wd R F' H' s → Stp R F H F' H' → k l s F' H' := by
  obtain ⟨d, e, p⟩ := Post.lift0 (m := getS r i) p
  obtain ⟨l, el, p2⟩ := p.lift
  obtain ⟨kvs, rfl⟩ := hg d l el
  obtain ⟨v, h1, a, ws, rfl, h2, h3, h4⟩ := pu.at_ i _ hO (getS_some e)
  exact ⟨kvs, l, a, ws, h1, el, h2, h3, h4, p2⟩
theorem keysD_tab (d : D) (l : List D) (h : keysD d = some l) : ∃ kvs, d = .tab kvs := by
  cases d <;> try cases h
  exact ⟨_, rfl⟩
theorem valsD_tab (d : D) (l : List D) (h : valsD d = some l) : ∃ kvs, d = .tab kvs := by
  cases d <;> try cases h
  exact ⟨_, rfl⟩
theorem di_keysL (i : Nat) (hO : i ∉ O) (hN : X.N[i]? = some x) (hv : Vis X.env.scope x) (hd : (x == ("__debug__" : Str)) = false := by decide) (hcd : (x == ("__classdict__" : Str)) = false := by decide) (hbase : attributeBase (.Name x npos) "keys" X.env (eval (.Name x npos) X.env) = eval (.Name x npos) X.env := by rfl) (hline : (apos.endLine == cpos.line) = true := by rfl) :
    PI X tg (.Call (.Attribute (.Name x npos) "keys" apos) [] [] cpos) (fun σ H Q => Lk i σ H ∧ tDI R W O (dKeys (dVar i)) σ H Q) := pi_imp (pi_keysM (pe_var hN hv hd hcd) hbase hline) fun σ H Q h => by
  obtain ⟨lk, F, r, s, w, pu, p⟩ := h
  obtain ⟨kvs, l, a, ws, h1, el, h2, h3, h4, k⟩ := slot_tab keysD_tab hO w pu p
  cases el
  refine ⟨_, h1, ?_⟩
  rcases w.sub.dK h2 with q | ⟨ob, q⟩
  · exact absurd q (lk a ws h1)
  · exact ⟨a, ob, ws, rfl, q, k F H w Stp.refl _ (walks_keys h2 q h3 h4)⟩
theorem di_valsL (i : Nat) (hO : i ∉ O) (hN : X.N[i]? = some x) (hv : Vis X.env.scope x) (hd : (x == ("__debug__" : Str)) = false := by decide) (hcd : (x == ("__classdict__" : Str)) = false := by decide) (hbase : attributeBase (.Name x npos) "values" X.env (eval (.Name x npos) X.env) = eval (.Name x npos) X.env := by rfl) (hline : (apos.endLine == cpos.line) = true := by rfl) :
    PI X tg (.Call (.Attribute (.Name x npos) "values" apos) [] [] cpos) (fun σ H Q => Lk i σ H ∧ tDI R W O (dVals (dVar i)) σ H Q) := pi_imp (pi_values (pe_var hN hv hd hcd) hbase hline) fun σ H Q h => by
  obtain ⟨lk, F, r, s, w, pu, p⟩ := h
  obtain ⟨kvs, l, a, ws, h1, el, h2, h3, h4, k⟩ := slot_tab valsD_tab hO w pu p
  cases el
  refine ⟨_, h1, ?_⟩
  rcases w.sub.dK h2 with q | ⟨ob, q⟩
  · exact absurd q (lk a ws h1)
  · exact ⟨a, ob, ws, rfl, q, k F H w Stp.refl _ (walks_vals h2 q h3 h4)⟩
/-- once it is locked -/
theorem lk_now {H : Hp} {σ : L2.St} {a : Addr} {ws : List (Key × V)} {o : Obj} (h1 : σ[i]? = some (some (.ref a))) (hH : H a = some (.frz o (.dK ws))) : Lk i σ H := fun d kvs e q => by
  rw [h1] at e
  cases e
  rw [hH] at q
  cases q
theorem mut_dK {ws : List (Key × V)} : Mut (some (.dK ws)) := trivial
/-- a for over a table's keys, values -/
theorem ds_forW {g : D → Option (List D)} {iter : Expr} {body : List Stmt} {gt : TG} {vs : List Nat} {tgt : D → Sl → Option Sl} {f : Sl → Mo R.S} (hgt : ∀ d l, g d = some l → ∃ kvs, d = .tab kvs) (hO : i ∉ O) (hp : PassesOwn (model X.prog X.w) X.A X.env X.xe) (hc : X.calm = true)
    (hi : PI X tg iter (fun σ H Q => Lk i σ H ∧ tDI R W O (fun r => bnd (dVar i r) fun x => lift (g x)) σ H Q)) (hg : PG X tg gt) (hgs : TgSat R gt vs tgt) (hb : PSs X body (tDS R W fr O O O f)) (hv : ∀ j ∈ O, j ∉ vs)
    (hs : ∀ x, foldedSetIterable iter X.env x = pure x := by intro _; rfl) : PS X (.For tg iter body [] pos) (tDS R W fr B O O (sFor (fun r => bnd (dVar i r) fun x => lift (g x)) tgt f)) :=
  ps_imp (ps_or2 (ps_for hp hc hi hg hb hs) (ps_lk (ps_for hp hc hi hg hb hs))) fun E σ H h => by
    have h' := h
    obtain ⟨F0, H0, F, r, s, w, st, sl, p⟩ := h
    obtain ⟨kvs, l, a, ws, h1, el, h2, h3, h4, _⟩ := slot_tab hgt hO w sl.pu (postS_x w st sl p)
    rcases w.sub.dK h2 with q | ⟨ob, q⟩
    · refine .inr ⟨a, _, q, mut_dK, fun od => ⟨lk_now h1 upd_same, ?_⟩⟩
      exact sat_for hgs hv E σ _ ⟨F0, H0, F, r, s, w.lock h2, st.lock h2 q, sl.lock h2, p⟩
    · exact .inl ⟨lk_now h1 q, sat_for hgs hv E σ H h'⟩
/-! ### comprehensions -/
theorem Cxt.blk {n : Nat} (c : Cxt X R W n) (s : Shared) (H : Hp) (scope : Scope) (ce : Env) (fp : List Addr) : Cxt (X.blk s H scope ce fp) R W0 n := ⟨c.hK, takes0, c.hr, c.nd, c.calm⟩
theorem dts_nil : PTs X [] (tDT R W O dYes) := ⟨fun pins s σ H Q I h => pts_nil.run pins s σ H Q I (by
  obtain ⟨F, r, s, w, pu, p⟩ := h
  exact p F H w Stp.refl)⟩
theorem dts_one {c : Expr} {t : TT} (h : PT X c t) : PTs X [c] t := pts_one h
variable {elt iter : Expr} {ifs : List Expr} {scope : Scope} {own : List (Str × Nat)} {it : Sl → M R.S (List D)} {g : TG} {tgt : D → Sl → Option Sl} {t : Sl → M R.S Bool} {f : Sl → M R.S D} {n : Nat}
theorem de_lc (c : Cxt X R W n) (hi : PI X tg iter (tDI R W O it)) (ok : BlkOk X.N X.env.scope scope own) (hgs : TgSat R g (own.map (·.2)) tgt)
    (hg : ∀ (s : Shared) (H : Hp) (C : Addr) (cl : List (Str × Addr)) (fp : List Addr), PG (X.blk s H scope (compEnvC scope cl C X.env) fp) tg g)
    (ht : ∀ (s : Shared) (H : Hp) (C : Addr) (cl : List (Str × Addr)) (fp : List Addr), Cxt (X.blk s H scope (compEnvC scope cl C X.env) fp) R W0 n → PTs (X.blk s H scope (compEnvC scope cl C X.env) fp) ifs (tDT R W0 O t))
    (he : ∀ (s : Shared) (H : Hp) (C : Addr) (cl : List (Str × Addr)) (fp : List Addr), Cxt (X.blk s H scope (compEnvC scope cl C X.env) fp) R W0 n → PE (X.blk s H scope (compEnvC scope cl C X.env) fp) elt (tD R W0 O f)) (hs : ∀ x, foldedSetIterable iter X.env x = pure x := by intro _; rfl) :
    PE X (.ListComp elt [⟨tg, iter, ifs, 0⟩] scope pos) (tD R W O (dLc it tgt t f)) :=
  pe_imp (pe_lc c.calm c.nd hi ok hg (fun s H C cl fp => ht s H C cl fp (c.blk _ _ _ _ _)) (fun s H C cl fp => he s H C cl fp (c.blk _ _ _ _ _)) hs) (sat_lc hgs)
/-- .. over a table's keys, values -/
theorem de_lcW {gk : D → Option (List D)} (hgt : ∀ d l, gk d = some l → ∃ kvs, d = .tab kvs) (hO : i ∉ O) (c : Cxt X R W n) (hi : PI X tg iter (fun σ H Q => Lk i σ H ∧ tDI R W O (fun r => bnd (dVar i r) fun x => lift (gk x)) σ H Q)) (ok : BlkOk X.N X.env.scope scope own) (hgs : TgSat R g (own.map (·.2)) tgt)
    (hg : ∀ (s : Shared) (H : Hp) (C : Addr) (cl : List (Str × Addr)) (fp : List Addr), PG (X.blk s H scope (compEnvC scope cl C X.env) fp) tg g)
    (ht : ∀ (s : Shared) (H : Hp) (C : Addr) (cl : List (Str × Addr)) (fp : List Addr), Cxt (X.blk s H scope (compEnvC scope cl C X.env) fp) R W0 n → PTs (X.blk s H scope (compEnvC scope cl C X.env) fp) ifs (tDT R W0 O t))
    (he : ∀ (s : Shared) (H : Hp) (C : Addr) (cl : List (Str × Addr)) (fp : List Addr), Cxt (X.blk s H scope (compEnvC scope cl C X.env) fp) R W0 n → PE (X.blk s H scope (compEnvC scope cl C X.env) fp) elt (tD R W0 O f)) (hs : ∀ x, foldedSetIterable iter X.env x = pure x := by intro _; rfl) :
    PE X (.ListComp elt [⟨tg, iter, ifs, 0⟩] scope pos) (tD R W O (dLc (fun r => bnd (dVar i r) fun x => lift (gk x)) tgt t f)) := by
  have base := pe_lc c.calm c.nd hi ok hg (fun s H C cl fp => ht s H C cl fp (c.blk _ _ _ _ _)) (fun s H C cl fp => he s H C cl fp (c.blk _ _ _ _ _)) hs (pos := pos)
  refine pe_imp (pe_or2 base (pe_lk base)) fun σ H Q h => ?_
  have h' := h
  obtain ⟨F, r, s, w, pu, p⟩ := h
  obtain ⟨kvs, l, a, ws, h1, el, h2, h3, h4, _⟩ := slot_tab hgt hO w pu p.bnd
  rcases w.sub.dK h2 with q | ⟨ob, q⟩
  · refine .inr ⟨a, _, q, mut_dK, fun od => ⟨lk_now h1 upd_same, ?_⟩⟩
    exact sat_lc hgs σ _ Q ⟨F, r, s, w.lock h2, pu, p.from (Stp.refl.lock h2 q)⟩
  · exact .inl ⟨lk_now h1 q, sat_lc hgs σ H Q h'⟩
end
end Nw
set_option Elab.async false
set_option linter.all false
set_option maxRecDepth 100000
set_option maxHeartbeats 4000000
/-! Part T: views, sorting, count, index, displays. -/
namespace Nw
open PySem PySem.Spec L2
/-! ### order of texts -/
def leS (a b : Str) : Bool := !ltCps b.cps.toList a.cps.toList
theorem leS_iff {a b : Str} : leS a b = true ↔ a.cps.toList ≤ b.cps.toList := by
  unfold leS
  rw [PyProof.Rows.ltCps_eq, Bool.not_eq_true', decide_eq_false_iff_not]
  exact List.not_lt
theorem leS_refl (a : Str) : leS a a = true := leS_iff.mpr (List.le_refl _)
theorem leS_trans {a b c : Str} (h : leS a b = true) (h' : leS b c = true) : leS a c = true := leS_iff.mpr (List.le_trans (leS_iff.mp h) (leS_iff.mp h'))
theorem leS_total (a b : Str) : leS a b = true ∨ leS b a = true := (List.le_total a.cps.toList b.cps.toList).imp leS_iff.mpr leS_iff.mpr
theorem str_ext {a b : Str} (h : a.cps.toList = b.cps.toList) : a = b := by
  obtain ⟨x⟩ := a
  obtain ⟨y⟩ := b
  exact congrArg Str.mk (Array.toList_inj.mp h)
theorem leS_antisymm {a b : Str} (h : leS a b = true) (h' : leS b a = true) : a = b := str_ext (List.le_antisymm (leS_iff.mp h) (leS_iff.mp h'))
def insS (x : Str) : List Str → List Str
  | [] => [x]
  | y :: r => if leS x y = true then x :: y :: r else y :: insS x r
def sortS : List Str → List Str
  | [] => []
  | x :: r => insS x (sortS r)
theorem insS_perm (x : Str) : ∀ l : List Str, (insS x l).Perm (x :: l)
  | [] => List.Perm.refl _
  | y :: r => by
    unfold insS
    split
    · exact List.Perm.refl _
    · exact ((insS_perm x r).cons y).trans (List.Perm.swap x y r)
theorem sortS_perm : ∀ l : List Str, (sortS l).Perm l
  | [] => List.Perm.refl _
  | x :: r => (insS_perm x (sortS r)).trans ((sortS_perm r).cons x)
theorem insS_pw {x : Str} : ∀ {l : List Str}, l.Pairwise (fun a b => leS a b = true) → (insS x l).Pairwise (fun a b => leS a b = true)
  | [], _ => List.pairwise_singleton _ _
  | y :: r, h => by
    obtain ⟨h1, h2⟩ := List.pairwise_cons.mp h
    unfold insS
    split
    · rename_i hx
      refine List.pairwise_cons.mpr ⟨fun z hz => ?_, h⟩
      rcases List.mem_cons.mp hz with rfl | hz
      · exact hx
      · exact leS_trans hx (h1 z hz)
    · rename_i hx
      refine List.pairwise_cons.mpr ⟨fun z hz => ?_, insS_pw h2⟩
      rcases List.mem_cons.mp ((insS_perm x r).mem_iff.mp hz) with rfl | hz
      · exact (leS_total z y).resolve_left hx
      · exact h1 z hz
theorem sortS_pw : ∀ l : List Str, (sortS l).Pairwise (fun a b => leS a b = true)
  | [] => List.Pairwise.nil
  | x :: r => insS_pw (sortS_pw r)
theorem sortedS_pw : ∀ {l : List Str}, PyProof.Rows.sortedS l = true → l.Pairwise (fun a b => leS a b = true)
  | [], _ => List.Pairwise.nil
  | x :: r, h => by
    have go : ∀ (r : List Str) (x : Str), PyProof.Rows.risingS x r = true → (x :: r).Pairwise (fun a b => leS a b = true) := fun r => by
      induction r with
      | nil => exact fun x _ => List.pairwise_singleton _ _
      | cons y r ih =>
        intro x h
        obtain ⟨h1, h2⟩ := Bool.and_eq_true_iff.mp (show ((!ltCps y.cps.toList x.cps.toList) && PyProof.Rows.risingS y r) = true from h)
        have h3 := ih y h2
        refine List.pairwise_cons.mpr ⟨fun z hz => ?_, h3⟩
        rcases List.mem_cons.mp hz with rfl | hz
        · exact h1
        · exact leS_trans h1 ((List.pairwise_cons.mp h3).1 z hz)
    exact go r x h
theorem pw_eq {l l' : List Str} (h : l.Pairwise (fun a b => leS a b = true)) (h' : l'.Pairwise (fun a b => leS a b = true)) (p : l.Perm l') : l = l' :=
  List.Perm.eq_of_pairwise (fun a b _ _ x y => leS_antisymm x y) h h' p
theorem sortS_uniq {ys ks : List Str} (p : ys.Perm ks) (h : PyProof.Rows.sortedS ys = true) : ys = sortS ks := pw_eq (sortedS_pw h) (sortS_pw ks) (p.trans (sortS_perm ks).symm)
theorem paired_get {α β : Type} {P : α → β → Prop} : ∀ {l : List α} {l' : List β} {j : Nat} {a : α}, Paired P l l' → l[j]? = some a → ∃ b, l'[j]? = some b ∧ P a b
  | _, _, _, _, .nil, e => by simp at e
  | _, _, 0, _, .cons h t, e => by
    have e' := Option.some.inj (show some _ = some _ from e)
    subst e'
    exact ⟨_, rfl, h⟩
  | _, _, j + 1, _, .cons h t, e => by
    obtain ⟨b, h1, h2⟩ := paired_get (j := j) t (by simpa using e)
    exact ⟨b, by simpa using h1, h2⟩
/-! ### views -/
/-- a view of the table at d -/
def VwO (T : String) (d p : Addr) : HO := .ext fun h => h.get? p = some { cls := .type T, data := .fields #[.ref d] }
section
variable {X : Cx}
def rView (T : String) : V → List V → Hp → VK → Prop := fun x xs H Q => ∃ d kvs, x = .ref d ∧ xs = [] ∧ Rd H d (.dK kvs) ∧ ∀ p, H p = none → Q (.ref p) (upd H p (VwO T d p))
theorem view_new {pins : List (Addr × Obj)} {σ : L2.St} {H : Hp} {s : Shared} {T : String} {d : Addr} {Q : VK} (I : Inv X pins σ H s) (q : ∀ p, H p = none → Q (.ref p) (upd H p (VwO T d p))) :
    EP X pins σ Q (.ref s.heap.objs.size) { s with heap := s.heap.push { cls := .type T, data := .fields #[.ref d] } } :=
  ⟨.ref s.heap.objs.size, _, I.laid (t' := s.toks) (fun b o e => Heap.get?_push_of_some _ e) (Nat.le_refl _) (show ObjOk X.prog X.w _ _ _ (VwO T d s.heap.objs.size) from ⟨Heap.get?_push_size _ rfl, ⟨_, Heap.get?_push_size _ rfl⟩, fun h1 h2 e k => k _ e⟩), rfl, q _ (I.hok.fresh (Nat.le_refl _))⟩
theorem mt_keysV : MtR X "dict.keys" (rView "dict_keys") := by
  intro pins s σ H x xs v us Q I rx rxs h
  obtain ⟨d, kvs, rfl, rfl, hd, q⟩ := h
  cases rx
  cases rxs
  obtain ⟨z, hs, vs, rel, dd⟩ := dk_rd I.hok hd
  exact call_meetsIn PySem.F.slot_dict_keys dd.typeIs PySem.F.entry_dict_keys (PySem.F.args_dict_keys_1 _) (PySem.W.kdl_meets_keys (mixKind X.prog X.w) d hs) ⟨⟨vs, dd⟩, view_new I q⟩
theorem mt_valsV : MtR X "dict.values" (rView "dict_values") := by
  intro pins s σ H x xs v us Q I rx rxs h
  obtain ⟨d, kvs, rfl, rfl, hd, q⟩ := h
  cases rx
  cases rxs
  obtain ⟨z, hs, vs, rel, dd⟩ := dk_rd I.hok hd
  exact call_meetsIn PySem.F.slot_dict_values dd.typeIs PySem.F.entry_dict_values (PySem.F.args_dict_values_1 _) (meets_dict_values (mixKind X.prog X.w) d hs) ⟨⟨vs, dd⟩, view_new I q⟩
/-- sorted(d.keys()), all keys texts -/
theorem call_sortedV (hcalm : X.calm = true) : CallR X (.builtin "sorted") (fun xs H Q => ∃ (a d : Addr) (kvs : List (Key × V)) (ks : List Str), xs = [.ref a] ∧ H a = some (VwO "dict_keys" d a) ∧ Rd H d (.dK kvs) ∧ kvs.map (·.1) = ks.map Sum.inr ∧
    ∀ p, H p = none → Q (.ref p) (upd H p (.lst ((sortS ks).map V.str)))) := by
  intro pins s σ H xs us Q I r q
  obtain ⟨v, a, kvs, ks, ex, hv, hd, hks, q⟩ := q
  subst ex
  obtain ⟨u, eu, rx⟩ := vals1 r
  subst eu
  cases rx
  obtain ⟨hview, _, _⟩ := (show ObjOk X.prog X.w H s.heap v (VwO "dict_keys" a v) from I.hok v _ hv)
  obtain ⟨z, lo, vs, rel, dd⟩ := dk_rd I.hok hd
  obtain ⟨ep, hat⟩ := dd.dictAt
  have hkeys : vs.map (·.1) = ks.map Sum.inr := rel.keys.symm.trans hks
  have hl : vs.length = ks.length := by
    have e := congrArg List.length hkeys
    rw [List.length_map, List.length_map] at e
    exact e
  have h16 : vs.length ≤ sizeLine := by rw [← rel.length]; exact z
  refine Calls.call_function_entry PyProof.Rows.kind_sorted PyProof.Rows.plain_sorted PyProof.Rows.entry_sorted (PyProof.Rows.args_sorted1 _) ?_
  unfold Builtin.«sorted»
  refine wpAny_bind (m := checkCount "sorted" 1 1 _) (wpAny_pure ?_)
  refine wpAny_bind (PySem.W.kdu_collect (A := X.A.in1) (PySem.W.kdl_keys (r := v) (d := a) (knd := mixKind X.prog X.w) (kvs := vs) (ep := ep)) (I.ok.hd hcalm) ⟨⟨_, hview, rfl, rfl⟩, hat⟩ h16 fun h' tk acc hk hacc => ?_)
  have hal : acc.toList.length = ks.length := by rw [Array.length_toList, hacc.1, hl]
  have hS : PyProof.Rows.StrsAre acc.toList ks := strs_at hal fun j v e => by
    obtain ⟨k, x, e1, e2⟩ := hacc.2 j v (by rw [← Array.getElem?_toList]; exact e)
    have e3 : (vs.map (·.1))[j]? = some k := by rw [List.getElem?_map, e1]; all_goals rfl
    rw [hkeys, List.getElem?_map] at e3
    cases e4 : ks[j]? with
    | none => rw [e4] at e3; cases e3
    | some y =>
      rw [e4] at e3
      have e5 : Sum.inr y = k := Option.some.inj e3
      subst e5
      obtain ⟨t, ev⟩ := Value.isStrOf_shape (x := y) (v := v) e2
      exact ⟨y, t, rfl, ev⟩
  have I1 : Inv X pins σ H { s with heap := h', toks := tk } := I.kept hk
  refine wpAny_bind (wpAny_newList ?_ (by rw [hal, ← hl]; exact h16))
  have hoL : (h'.push (PyProof.Rows.seqObj "list" acc.toList.toArray 0)).get? h'.objs.size = some (PyProof.Rows.seqObj "list" acc.toList.toArray 0) := Heap.get?_push_size _ rfl
  show wpAny _ _ _ _ _ { s with heap := h'.push (PyProof.Rows.seqObj "list" acc.toList.toArray 0), toks := tk }
  refine wpAny_bind (wpAny_holding (wpAny_call_entry PyProof.Rows.slot_list_sort ⟨_, hoL, rfl⟩ PyProof.Rows.entry_list_sort
    (PyProof.Rows.list_sort_treeKAny PyProof.Rows.strKind_oneLt (s := { s with heap := h'.push (PyProof.Rows.seqObj "list" acc.toList.toArray 0), toks := tk }) hoL hS.keysOf (fun v₁ v₂ rest e => PyProof.Rows.keyKind_strs (by rw [← e]; exact hS)) (by rw [hal, ← hl]; exact h16) fun st' hp hs => ⟨_, rfl, ?_⟩)
    (PyProof.Rows.args_list_sort _)))
  obtain ⟨ys, g1, g2, g3⟩ := PyProof.Rows.sorted_out_str hS hp hs
  obtain ⟨e', he'⟩ := PyProof.Rows.sortedHeap_at (vs := acc.toList) (out := (PyProof.Rows.arrOf st').map (·.2)) hoL
  have hlen : (ys.map V.str).length ≤ sizeLine := by
    rw [List.length_map, g2.length_eq, ← hl]
    exact h16
  have q' := q
  rw [← sortS_uniq g2 g3] at q'
  refine wpAny_pure ⟨_, rfl, .ref h'.objs.size, upd H h'.objs.size (.lst (ys.map V.str)), I1.laid (t' := tk) (fun b u e => ?_) (Nat.le_refl _)
    (show ObjOk X.prog X.w _ _ _ (.lst (ys.map V.str)) from ⟨hlen, ((PyProof.Rows.arrOf st').map (·.2)).toList, e', vals_of_strs g1, by rw [Array.toArray_toList]; exact he'⟩), rfl, q' _ (I1.hok.fresh (Nat.le_refl _))⟩
  have hb : b < h'.objs.size := Heap.lt_size e
  rw [PyProof.Rows.sortedHeap_old (Nat.ne_of_lt hb) (by rw [PyProof.Rows.size_push']; exact Nat.lt_succ_of_lt hb)]
  exact Heap.get?_push_of_some _ e
/-- list(d.keys()), list(d.values()) -/
theorem call_listKV (hc : X.calm = true) : CallR X (.type "list") (fun xs H Q => ∃ (a d : Addr) (kvs : List (Key × V)), xs = [.ref a] ∧ H a = some (VwO "dict_keys" d a) ∧ Rd H d (.dK kvs) ∧ ∀ q, H q = none → Q (.ref q) (upd H q (.lst (kvs.map fun kv => kV kv.1)))) := by
  intro pins s σ H xs us Q I r h
  obtain ⟨v, p, kvs, e, hv, hk, q⟩ := h
  subst e
  obtain ⟨u, eu, rx⟩ := vals1 r
  subst eu
  obtain rfl : u = Value.ref v := rx
  obtain ⟨hview, _, _⟩ := (show ObjOk X.prog X.w H s.heap v (VwO "dict_keys" p v) from I.hok v _ hv)
  obtain ⟨z, lo, vs, rk, hd⟩ := dk_rd I.hok hk
  obtain ⟨ep, hat⟩ := hd.dictAt
  have hl : kvs.length = vs.length := Paired.length rk
  refine PySem.W.kdl_call (PySem.W.kdl_keys (r := v) (d := p) (knd := mixKind X.prog X.w) (kvs := vs) (ep := ep)) (I.ok.hd hc) ⟨⟨_, hview, rfl, rfl⟩, hat⟩ (by rw [← hl]; exact z) fun h' tk acc' c' hkeep hS hacc => ?_
  refine ⟨.ref s.heap.objs.size, upd H s.heap.objs.size (.lst (kvs.map fun kv => kV kv.1)), I.laid hkeep (Nat.le_refl _) (show ObjOk X.prog X.w _ _ _ (.lst (kvs.map fun kv => kV kv.1)) from ⟨?_, acc'.toList, c', ?_, ?_⟩), rfl, q _ (I.hok.fresh (Nat.le_refl _))⟩
  · rw [List.length_map]; exact z
  · have el : acc'.toList.length = acc'.size := by simp
    refine vals_of_at (by rw [List.length_map, el, hacc.1, hl]) fun j x w h1 h2 => ?_
    obtain ⟨k, y, hky, hi⟩ := hacc.2 j w (by rw [← Array.getElem?_toList]; exact h2)
    have e1 : (kvs.map (·.1))[j]? = some k := by
      rw [KV.keys rk, List.getElem?_map, hky] <;> rfl
    have e2 : (kvs.map fun kv => kV kv.1)[j]? = some (kV k) := by
      have e3 : (kvs.map fun kv => kV kv.1) = (kvs.map (·.1)).map kV := by rw [List.map_map] <;> rfl
      rw [e3, List.getElem?_map, e1] <;> rfl
    rw [e2] at h1
    cases h1
    exact keyIs_rel hi
  · rw [Array.toArray_toList]; exact hS
theorem call_listVV (hc : X.calm = true) : CallR X (.type "list") (fun xs H Q => ∃ (a d : Addr) (kvs : List (Key × V)), xs = [.ref a] ∧ H a = some (VwO "dict_values" d a) ∧ Rd H d (.dK kvs) ∧ ∀ q, H q = none → Q (.ref q) (upd H q (.lst (kvs.map fun kv => kv.2)))) := by
  intro pins s σ H xs us Q I r h
  obtain ⟨v, p, kvs, e, hv, hk, q⟩ := h
  subst e
  obtain ⟨u, eu, rx⟩ := vals1 r
  subst eu
  obtain rfl : u = Value.ref v := rx
  obtain ⟨hview, _, _⟩ := (show ObjOk X.prog X.w H s.heap v (VwO "dict_values" p v) from I.hok v _ hv)
  obtain ⟨z, lo, vs, rk, hd⟩ := dk_rd I.hok hk
  obtain ⟨ep, hat⟩ := hd.dictAt
  have hl : kvs.length = vs.length := Paired.length rk
  refine PySem.W.kdl_call (PySem.W.kdl_values (r := v) (d := p) (knd := mixKind X.prog X.w) (kvs := vs) (ep := ep)) (I.ok.hd hc) ⟨⟨_, hview, rfl, rfl⟩, hat⟩ (by rw [← hl]; exact z) fun h' tk acc' c' hkeep hS hacc => ?_
  refine ⟨.ref s.heap.objs.size, upd H s.heap.objs.size (.lst (kvs.map fun kv => kv.2)), I.laid hkeep (Nat.le_refl _) (show ObjOk X.prog X.w _ _ _ (.lst (kvs.map fun kv => kv.2)) from ⟨?_, acc'.toList, c', ?_, ?_⟩), rfl, q _ (I.hok.fresh (Nat.le_refl _))⟩
  · rw [List.length_map]; exact z
  · have el : acc'.toList.length = acc'.size := by simp
    refine vals_of_at (by rw [List.length_map, el, hacc.1, hl]) fun j x w h1 h2 => ?_
    obtain ⟨k, hky⟩ := hacc.2 j w (by rw [← Array.getElem?_toList]; exact h2)
    rw [List.getElem?_map] at h1
    cases e1 : kvs[j]? with
    | none => rw [e1] at h1; cases h1
    | some kv =>
      rw [e1] at h1
      cases h1
      obtain ⟨q, hq1, hq2⟩ := paired_get rk e1
      rw [hky] at hq1
      cases hq1
      exact hq2.2
  · rw [Array.toArray_toList]; exact hS
end
end Nw
set_option Elab.async false
set_option linter.all false
set_option maxRecDepth 100000
set_option maxHeartbeats 4000000
/-! Part U: their readings on plain data. -/
namespace Nw
open PySem PySem.Spec L2
def txtKeys : List (Key × D) → Option (List Str)
  | [] => some []
  | (.inr x, _) :: r => (txtKeys r).map fun l => x :: l
  | _ :: _ => none
theorem txtKeys_some : ∀ {kvs : List (Key × D)} {ks : List Str}, txtKeys kvs = some ks → kvs.map (·.1) = ks.map Sum.inr
  | [], ks, h => by cases h; rfl
  | (.inl i, d) :: r, ks, h => by cases h
  | (.inr x, d) :: r, ks, h => by
    have h : (txtKeys r).map (fun l => x :: l) = some ks := h
    cases e : txtKeys r with
    | none => rw [e] at h; cases h
    | some l => rw [e] at h; cases h; rw [List.map_cons, List.map_cons, txtKeys_some e]
def sortKD : D → Option D
  | .tab kvs => (txtKeys kvs).map fun ks => .row ((sortS ks).map D.str)
  | _ => none
def listKD : D → Option D
  | .tab kvs => some (.row (kvs.map fun kv => kD kv.1))
  | _ => none
def listVD : D → Option D
  | .tab kvs => some (.row (kvs.map fun kv => kv.2))
  | _ => none
section
variable {X : Cx} {R : Reg} {W : WX} {O : List Nat} {a e o : Expr} {es : List Expr} {f g : Sl → M R.S D} {fs : Sl → M R.S (List D)} {pos p apos cpos : Pos} {n : Nat}
theorem reps_strs {K : PySem.W.Frag} {nm : Nat → Option Addr} {F : Hp} (l : List Str) (h : ∀ x ∈ l, x.length ≤ sizeLine) : Reps K nm F (l.map D.str) (l.map V.str) := reps_map l fun x hx => ⟨rfl, h x hx⟩
/-- the table, its view -/
theorem sat_view {r : List V → Hp → VK → Prop} {T : String} {op : D → Option D} (hK : R.K = X.K) (ht : ∀ d d', op d = some d' → ∃ kvs, d = .tab kvs)
    (hs : ∀ (v d : Addr) (kvs : List (Key × D)) (ws : List (Key × V)) (d' : D) (F H : Hp) (s : R.S) (Q : VK), Wd R F H s → H v = some (VwO T d v) → F d = some (.dK ws) → Rd H d (.dK ws) → kvs.length ≤ sizeLine → RepsK R.K R.nm F kvs ws → op (.tab kvs) = some d' → (∀ v F' H', Wd R F' H' s → Stp R F H F' H' → Rep R.K R.nm F' d' v → Q v H') → r [.ref v] H Q)
    (σ : L2.St) (H : Hp) (Q : VK) (h : tD R W O (dUn op f) σ H Q) : tCB r (tCons (tBW0 X.K "dict" (rView T) (tD R W O f)) tNil) σ H Q := by
  obtain ⟨F, ρ, s, w, pu, p⟩ := h
  refine ⟨F, ρ, s, w, pu, p.bnd.imp (fun d s1 F1 H1 w1 st1 p1 v rv => ?_) fun _ _ _ _ _ _ z => z⟩
  obtain ⟨d', e', k⟩ := p1.lift
  obtain ⟨kvs, rfl⟩ := ht d d' e'
  obtain ⟨a, ws, rfl, h1, h2, h3⟩ := rv
  have hr : Rd H1 a (.dK ws) := w1.sub.dK h1
  refine ⟨.inr ⟨rfl, a, ws, rfl, hr⟩, a, ws, rfl, rfl, hr, fun q hq => ?_⟩
  have st2 : Stp R F1 H1 F1 (upd H1 q (VwO T a q)) := Stp.newH _ hq
  have w2 : Wd R F1 (upd H1 q (VwO T a q)) s1 := w1.newH _ hq
  exact hs q a kvs ws d' F1 _ s1 Q w2 upd_same h1 (w2.sub.dK h1) h2 h3 e' fun v' F' H' w' st' r' => k F' H' w' (st2.trans st') v' r'
theorem tab_of {β : Type} {op : D → Option β} (h : ∀ d, (∀ kvs, d ≠ .tab kvs) → op d = none) (d : D) (d' : β) (e : op d = some d') : ∃ kvs, d = .tab kvs := by
  have hh := h d
  cases d
  case tab kvs => exact ⟨kvs, rfl⟩
  all_goals (rw [hh (by intro _ z; cases z)] at e; cases e)
theorem de_sortedK (c : Cxt X R W n) (hg : Gl X "sorted") (hm : X.mg "sorted" = none) (ho : PE X o (tD R W O f)) (hbase : attributeBase o "keys" X.env (eval o X.env) = eval o X.env := by rfl) (hline : (apos.endLine == cpos.line) = true := by rfl)
    (he : starEach [.Call (.Attribute o "keys" apos) [] [] cpos] X.env = (false, eval (.Call (.Attribute o "keys" apos) [] [] cpos) X.env) :: starEach [] X.env := by rfl) (hpl : (backTo pos (starEach [] X.env)).any (·.1) = false := by rfl) :
    PE X (.Call (.Name "sorted" p) [.Call (.Attribute o "keys" apos) [] [] cpos] [] pos) (tD R W O (dUn sortKD f)) :=
  pe_imp (pe_callB (call_sortedV c.calm) hg hm (by decide +kernel) (pa_cons (pe_bw0 PySem.F.plainAttrs_dict PySem.F.slot_dict_keys PySem.F.type_dict_keys mt_keysV ho hbase hline) pa_nil he) (by decide) (by decide) he hpl)
    (sat_view c.hK (tab_of fun d hd => by cases d <;> first | rfl | exact absurd rfl (hd _)) fun v d kvs ws d' F H s Q w hv hF hd hz rk e k => by
      have e : (txtKeys kvs).map (fun ks => D.row ((sortS ks).map D.str)) = some d' := e
      cases ek : txtKeys kvs with
      | none => rw [ek] at e; cases e
      | some ks =>
        rw [ek] at e
        cases e
        have hks := txtKeys_some ek
        have hlen : ks.length = kvs.length := by
          have := congrArg List.length hks
          rw [List.length_map, List.length_map] at this
          exact this.symm
        refine ⟨v, d, ws, ks, rfl, hv, hd, by rw [rk.keys]; exact hks, fun q hq => new_row w ?_ (reps_strs (sortS ks) fun x hx => ?_) hq k⟩
        · rw [List.length_map, (sortS_perm ks).length_eq, hlen]; exact hz
        · have hx2 := (sortS_perm ks).mem_iff.mp hx
          have hx3 : (Sum.inr x : Key) ∈ kvs.map (·.1) := by rw [hks]; exact List.mem_map_of_mem hx2
          obtain ⟨p, hp1, hp2⟩ := List.mem_map.mp hx3
          have hp3 := rk.kok p hp1
          rw [hp2] at hp3
          exact hp3)
theorem reps_kD {K : PySem.W.Frag} {nm : Nat → Option Addr} {F : Hp} : ∀ {kvs : List (Key × D)} {ws : List (Key × V)}, RepsK K nm F kvs ws → Reps K nm F (kvs.map fun kv => kD kv.1) (ws.map fun kv => kV kv.1)
  | [], ws, r => by rw [show ws = [] from r]; rfl
  | (k, d) :: kvs, ws, r => by
    obtain ⟨v, ws', rfl, hk, _, h2⟩ := r
    exact ⟨_, _, rfl, rep_key hk, reps_kD h2⟩
theorem de_listK (c : Cxt X R W n) (hg : Gl X "list") (hm : X.mg "list" = none) (ho : PE X o (tD R W O f)) (hbase : attributeBase o "keys" X.env (eval o X.env) = eval o X.env := by rfl) (hline : (apos.endLine == cpos.line) = true := by rfl)
    (he : starEach [.Call (.Attribute o "keys" apos) [] [] cpos] X.env = (false, eval (.Call (.Attribute o "keys" apos) [] [] cpos) X.env) :: starEach [] X.env := by rfl) (hpl : (backTo pos (starEach [] X.env)).any (·.1) = false := by rfl) :
    PE X (.Call (.Name "list" p) [.Call (.Attribute o "keys" apos) [] [] cpos] [] pos) (tD R W O (dUn listKD f)) :=
  pe_imp (pe_callTy (call_listKV c.calm) hg hm (by decide +kernel) (pa_cons (pe_bw0 PySem.F.plainAttrs_dict PySem.F.slot_dict_keys PySem.F.type_dict_keys mt_keysV ho hbase hline) pa_nil he) (by decide) (by decide) he hpl)
    (sat_view c.hK (tab_of fun d hd => by cases d <;> first | rfl | exact absurd rfl (hd _)) fun v d kvs ws d' F H s Q w hv hF hd hz rk e k => by
      cases e
      exact ⟨v, d, ws, rfl, hv, hd, fun q hq => new_row w (by rw [List.length_map]; exact hz) (reps_kD rk) hq k⟩)
theorem de_listV (c : Cxt X R W n) (hg : Gl X "list") (hm : X.mg "list" = none) (ho : PE X o (tD R W O f)) (hbase : attributeBase o "values" X.env (eval o X.env) = eval o X.env := by rfl) (hline : (apos.endLine == cpos.line) = true := by rfl)
    (he : starEach [.Call (.Attribute o "values" apos) [] [] cpos] X.env = (false, eval (.Call (.Attribute o "values" apos) [] [] cpos) X.env) :: starEach [] X.env := by rfl) (hpl : (backTo pos (starEach [] X.env)).any (·.1) = false := by rfl) :
    PE X (.Call (.Name "list" p) [.Call (.Attribute o "values" apos) [] [] cpos] [] pos) (tD R W O (dUn listVD f)) :=
  pe_imp (pe_callTy (call_listVV c.calm) hg hm (by decide +kernel) (pa_cons (pe_bw0 PySem.F.plainAttrs_dict PySem.F.slot_dict_values PySem.F.type_dict_values mt_valsV ho hbase hline) pa_nil he) (by decide) (by decide) he hpl)
    (sat_view c.hK (tab_of fun d hd => by cases d <;> first | rfl | exact absurd rfl (hd _)) fun v d kvs ws d' F H s Q w hv hF hd hz rk e k => by
      cases e
      exact ⟨v, d, ws, rfl, hv, hd, fun q hq => new_row w (by rw [List.length_map]; exact hz) rk.vals hq k⟩)
/-! ### count, index of flat things -/
/-- a flat thing as a value -/
def flD : D → Option V
  | .non => some .non
  | .bl b => some (.bl b)
  | .int i => some (.int i)
  | .str x => some (.str x)
  | _ => none
theorem flD_flat {d : D} {v : V} (h : flD d = some v) : flatV v = true := by
  cases d <;> cases h <;> rfl
theorem flD_rep {K : PySem.W.Frag} {nm : Nat → Option Addr} {F : Hp} {d : D} {v u : V} (r : Rep K nm F d u) (h : flD d = some v) : u = v := by
  cases d <;> cases h
  · exact r
  · exact r
  · exact r
  · exact r.1
def flsD : List D → Option (List V)
  | [] => some []
  | d :: r => (flD d).bind fun v => (flsD r).map fun l => v :: l
theorem flsD_rep {K : PySem.W.Frag} {nm : Nat → Option Addr} {F : Hp} : ∀ {ds : List D} {vs us : List V}, Reps K nm F ds us → flsD ds = some vs → us = vs ∧ vs.all flatV = true
  | [], vs, us, r, h => by cases h; exact ⟨r, rfl⟩
  | d :: ds, vs, us, r, h => by
    obtain ⟨u, us', rfl, r1, r2⟩ := r
    have h : (flD d).bind (fun v => (flsD ds).map fun l => v :: l) = some vs := h
    cases e1 : flD d with
    | none => rw [e1] at h; cases h
    | some v =>
      rw [e1] at h
      have h : (flsD ds).map (fun l => v :: l) = some vs := h
      cases e2 : flsD ds with
      | none => rw [e2] at h; cases h
      | some l =>
        rw [e2] at h
        cases h
        obtain ⟨h1, h2⟩ := flsD_rep r2 e2
        rw [h1, flD_rep r1 e1]
        exact ⟨rfl, by rw [List.all_cons, flD_flat e1, h2]; rfl⟩
def rCount (K : PySem.W.Frag) : V → List V → Hp → VK → Prop := fun x xs H Q => ∃ (a : Addr) (ys : List V) (y : V), x = V.ref a ∧ xs = [y] ∧ SqL K H a ys ∧ flatV y = true ∧ ys.all flatV = true ∧ Q (.int (ys.countP (eqV · y) : Nat)) H
theorem count_eqU {y : V} : ∀ {ys : List V} {us : List Value}, Vals ys us → ys.all flatV = true → us.countP (eqU y) = ys.countP (eqV · y)
  | _, _, .nil, _ => rfl
  | z :: ys, u :: us, .cons r t, h => by
    obtain ⟨h1, h2⟩ := Bool.and_eq_true_iff.mp (show (flatV z && ys.all flatV) = true from h)
    rw [List.countP_cons, List.countP_cons, count_eqU t h2, eqU_of r h1]
theorem mt_count : MtR X "list.count" (rCount X.K) := by
  intro pins s σ H x xs v us Q I rx rxs h
  obtain ⟨a, ys, y, rfl, rfl, hs, fy, fys, q⟩ := h
  cases rx
  cases rxs with
  | cons ry rt =>
    rename_i uy ut
    cases rt
    obtain ⟨its, rv, ⟨⟨cls, dd, data, sl⟩, n, ho, hc, hdn, hd⟩, hlen⟩ := I.list hs
    simp only at hc hd
    subst hc hd
    refine call_meets PySem.F.slot_list_count ⟨_, ho, rfl⟩ PySem.F.entry_list_count (PySem.F.args_list_count_2 _ _)
      (SeqAt.list_countAt a its.toArray n dd sl uy (eqU y)) ⟨ho, fun u' hu' => mem_eqAt ry fy rv fys u' (by simpa using hu'), ?_⟩
    have ec : its.toArray.toList.countP (eqU y) = ys.countP (eqV · y) := count_eqU rv fys
    refine ⟨.int (ys.countP (eqV · y) : Nat), H, I.tok _, ⟨s.toks, ?_⟩, q⟩
    show Value.int ((its.toArray.toList.countP (eqU y) : Nat) : Int) s.toks = _
    rw [ec]
def countD : D → List D → Option D
  | .row ds, [d] => (flsD ds).bind fun vs => (flD d).map fun v => .int (vs.countP (eqV · v) : Nat)
  | .kro ds, [d] => (flsD ds).bind fun vs => (flD d).map fun v => .int (vs.countP (eqV · v) : Nat)
  | _, _ => none
def indexD : D → List D → Option D
  | .row ds, [d] => (flsD ds).bind fun vs => (flD d).bind fun v => (vs.findIdx? (eqV · v)).map fun i => .int (i : Nat)
  | .kro ds, [d] => (flsD ds).bind fun vs => (flD d).bind fun v => (vs.findIdx? (eqV · v)).map fun i => .int (i : Nat)
  | _, _ => none
theorem bind_some {α β : Type} {o : Option α} {k : α → Option β} {b : β} (h : o.bind k = some b) : ∃ a, o = some a ∧ k a = some b := by
  cases o with
  | none => cases h
  | some a => exact ⟨a, rfl, h⟩
theorem map_some {α β : Type} {o : Option α} {k : α → β} {b : β} (h : o.map k = some b) : ∃ a, o = some a ∧ k a = b := by
  cases o with
  | none => cases h
  | some a => exact ⟨a, rfl, Option.some.inj h⟩
theorem sat_seqF {op : D → List D → Option D} {r : V → List V → Hp → VK → Prop} (g : List V → V → Option D)
    (hop : ∀ d ds d', op d ds = some d' → ∃ es x vs v, (d = .row es ∨ d = .kro es) ∧ ds = [x] ∧ flsD es = some vs ∧ flD x = some v ∧ g vs v = some d')
    (hr : ∀ (a : Addr) (ys : List V) (y : V) (d' : D) (F H : Hp) (s : R.S) (Q : VK), Wd R F H s → SqL R.K H a ys → flatV y = true → ys.all flatV = true → g ys y = some d' → (∀ v F' H', Wd R F' H' s → Stp R F H F' H' → Rep R.K R.nm F' d' v → Q v H') → r (.ref a) [y] H Q) : MtSat R r op := fun x xs d ds d' F H s Q w rx rs e k => by
  obtain ⟨es, x', vs, v, hd, rfl, h1, h2, h3⟩ := hop d ds d' e
  obtain ⟨y, ws, rfl, ry, e2⟩ := rs
  rw [show ws = [] from e2]
  have ey := flD_rep ry h2
  subst ey
  rcases hd with rfl | rfl
  · obtain ⟨a, us, rfl, hF, _, ru⟩ := rx
    obtain ⟨rfl, hf⟩ := flsD_rep ru h1
    exact hr a us y d' F H s Q w (SqL.of (w.sub.lst hF)) (flD_flat h2) hf h3 k
  · obtain ⟨a, us, rfl, hF, _, ru⟩ := rx
    obtain ⟨rfl, hf⟩ := flsD_rep ru h1
    exact hr a us y d' F H s Q w (w.sub.sqL hF) (flD_flat h2) hf h3 k
theorem sat_count : MtSat R (rCount R.K) countD := sat_seqF (fun vs v => some (.int (vs.countP (eqV · v) : Nat))) (fun d ds d' e => by
    unfold countD at e
    split at e
    · obtain ⟨vs, h1, e⟩ := bind_some e
      obtain ⟨v, h2, e⟩ := map_some e
      exact ⟨_, _, vs, v, .inl rfl, rfl, h1, h2, congrArg some e⟩
    · obtain ⟨vs, h1, e⟩ := bind_some e
      obtain ⟨v, h2, e⟩ := map_some e
      exact ⟨_, _, vs, v, .inr rfl, rfl, h1, h2, congrArg some e⟩
    · cases e)
  fun a ys y d' F H s Q w hs f1 f2 e k => by
    cases e
    exact ⟨a, ys, y, rfl, rfl, hs, f1, f2, k _ F H w Stp.refl rfl⟩
theorem sat_index : MtSat R (rIndex R.K) indexD := sat_seqF (fun vs v => (vs.findIdx? (eqV · v)).map fun i => .int (i : Nat)) (fun d ds d' e => by
    unfold indexD at e
    split at e
    · obtain ⟨vs, h1, e⟩ := bind_some e
      obtain ⟨v, h2, e⟩ := bind_some e
      exact ⟨_, _, vs, v, .inl rfl, rfl, h1, h2, e⟩
    · obtain ⟨vs, h1, e⟩ := bind_some e
      obtain ⟨v, h2, e⟩ := bind_some e
      exact ⟨_, _, vs, v, .inr rfl, rfl, h1, h2, e⟩
    · cases e)
  fun a ys y d' F H s Q w hs f1 f2 e k => by
    obtain ⟨i, e1, rfl⟩ := map_some e
    obtain ⟨hi, h2, h3⟩ := List.findIdx?_eq_some_iff_getElem.mp e1
    refine ⟨a, ys, y, i, ys[i], rfl, rfl, hs, f1, f2, List.getElem?_eq_getElem hi, h2, fun m z' hm hz => ?_, k _ F H w Stp.refl rfl⟩
    have hm2 : m < ys.length := by omega
    rw [List.getElem?_eq_getElem hm2] at hz
    cases hz
    have := h3 m hm
    simpa using this
theorem de_count (c : Cxt X R W n) (ho : PE X o (tD R W O f)) (ha : PA X [e] (tDA R W O fs))
    (hbase : attributeBase o "count" X.env (eval o X.env) = eval o X.env := by rfl)
    (hfew : ((backTo cpos (starEach [e] X.env)).all (fun x => !x.1) && (backToKw cpos (keywordEach [] X.env)).all (fun x => x.1.isSome)
      && decide (([e] : List Expr).length + ([] : List Keyword).length + (if ([] : List Keyword).isEmpty then 0 else 1) < 30)) = true := by rfl)
    (hline : (apos.endLine == cpos.line) = true := by rfl) (hst : starEach [e] X.env = (false, eval e X.env) :: starEach [] X.env := by rfl) (hplain : (backTo cpos (starEach [] X.env)).any (·.1) = false := by rfl) :
    PE X (.Call (.Attribute o "count" apos) [e] [] cpos) (tD R W O (dMt "list" countD f fs)) := de_mt PySem.F.plainAttrs_list PySem.F.slot_list_count PySem.F.type_list_count mt_count c.hK (by rw [← c.hK]; exact sat_count) ho ha hbase hfew hline hst hplain
theorem de_index (c : Cxt X R W n) (ho : PE X o (tD R W O f)) (ha : PA X [e] (tDA R W O fs))
    (hbase : attributeBase o "index" X.env (eval o X.env) = eval o X.env := by rfl)
    (hfew : ((backTo cpos (starEach [e] X.env)).all (fun x => !x.1) && (backToKw cpos (keywordEach [] X.env)).all (fun x => x.1.isSome)
      && decide (([e] : List Expr).length + ([] : List Keyword).length + (if ([] : List Keyword).isEmpty then 0 else 1) < 30)) = true := by rfl)
    (hline : (apos.endLine == cpos.line) = true := by rfl) (hst : starEach [e] X.env = (false, eval e X.env) :: starEach [] X.env := by rfl) (hplain : (backTo cpos (starEach [] X.env)).any (·.1) = false := by rfl) :
    PE X (.Call (.Attribute o "index" apos) [e] [] cpos) (tD R W O (dMt "list" indexD f fs)) := de_mt PySem.F.plainAttrs_list PySem.F.slot_list_index PySem.F.type_list_index mt_index c.hK (by rw [← c.hK]; exact sat_index) ho ha hbase hfew hline hst hplain
end
end Nw
set_option Elab.async false
set_option linter.all false
set_option maxRecDepth 100000
set_option maxHeartbeats 4000000
/-! Part V: new things, a def's own things. -/
namespace Nw
open PySem PySem.Spec L2
def tDF (R : Reg) (W : WX) (O : List Nat) (f : Sl → M R.S D) : TE := fun σ H Q => ∃ F r s, Wd R F H s ∧ Pu R O F σ r ∧ Post R F H (f r s) (fun d _ F' H' => ∀ v, Fre R H F' H' d v → Q v H') (fun x _ F' H' => ∀ cls dd, RepX R.K R.nm F' x cls dd → W cls dd σ H')
def scalD : D → Option D
  | .non => some .non
  | .bl b => some (.bl b)
  | .int i => some (.int i)
  | .str x => some (.str x)
  | .tup xs => some (.tup xs)
  | _ => none
def putD (kvs : List (Key × D)) (k : Key) (d : D) : List (Key × D) := if (kvs.any fun kv => decide (kv.1 = k)) = true then kvs.map (fun kv => if kv.1 = k then (kv.1, d) else kv) else kvs ++ [(k, d)]
def mergeD (kvs more : List (Key × D)) : List (Key × D) := more.foldl (fun acc kv => putD acc kv.1 kv.2) kvs
def pairsD : List D → Option (List (Key × D))
  | [] => some []
  | k :: v :: r => (keyD k).bind fun k => (pairsD r).map fun l => (k, v) :: l
  | _ => none
def dispD (ds : List D) : Option D := (pairsD ds).map fun kvs => .tab (mergeD [] kvs)
section
variable {K : PySem.W.Frag} {nm : Nat → Option Addr} {F : Hp}
theorem repsK_any (k : Key) : ∀ {kvs : List (Key × D)} {ws : List (Key × V)}, RepsK K nm F kvs ws → (kvs.any fun kv => decide (kv.1 = k)) = (ws.any fun kv => decide (kv.1 = k))
  | [], ws, r => by rw [show ws = [] from r]; rfl
  | (j, d) :: kvs, ws, r => by
    obtain ⟨v, ws', rfl, _, _, h2⟩ := r
    rw [List.any_cons, List.any_cons, repsK_any k h2]
theorem repsK_map (k : Key) {d : D} {v : V} (rd : Rep K nm F d v) : ∀ {kvs : List (Key × D)} {ws : List (Key × V)}, RepsK K nm F kvs ws → RepsK K nm F (kvs.map fun kv => if kv.1 = k then (kv.1, d) else kv) (ws.map fun kv => if kv.1 = k then (kv.1, v) else kv)
  | [], ws, r => by rw [show ws = [] from r]; rfl
  | (j, e) :: kvs, ws, r => by
    obtain ⟨u, ws', rfl, h0, h1, h2⟩ := r
    rw [List.map_cons, List.map_cons]
    by_cases h : j = k
    · rw [if_pos h, if_pos h]; exact ⟨v, _, rfl, h0, rd, repsK_map k rd h2⟩
    · rw [if_neg h, if_neg h]; exact ⟨u, _, rfl, h0, h1, repsK_map k rd h2⟩
theorem RepsK.append : ∀ {kvs more : List (Key × D)} {ws vs : List (Key × V)}, RepsK K nm F kvs ws → RepsK K nm F more vs → RepsK K nm F (kvs ++ more) (ws ++ vs)
  | [], more, ws, vs, r, q => by rw [show ws = [] from r]; exact q
  | (k, d) :: kvs, more, ws, vs, r, q => by
    obtain ⟨u, ws', rfl, h0, h1, h2⟩ := r
    exact ⟨u, _, rfl, h0, h1, h2.append q⟩
theorem RepsK.put {kvs : List (Key × D)} {ws : List (Key × V)} (r : RepsK K nm F kvs ws) {k : Key} (hk : kOk k) {d : D} {v : V} (rd : Rep K nm F d v) : RepsK K nm F (putD kvs k d) (putK ws k v) := by
  unfold putD putK
  rw [repsK_any k r]
  split
  · exact repsK_map k rd r
  · exact r.append ⟨v, [], rfl, hk, rd, rfl⟩
theorem RepsK.merge : ∀ {more kvs : List (Key × D)} {vs ws : List (Key × V)}, RepsK K nm F kvs ws → RepsK K nm F more vs → RepsK K nm F (mergeD kvs more) (mergeK ws vs)
  | [], kvs, vs, ws, r, q => by rw [show vs = [] from q]; exact r
  | (k, d) :: more, kvs, vs, ws, r, q => by
    obtain ⟨u, vs', rfl, h0, h1, h2⟩ := q
    show RepsK K nm F (mergeD (putD kvs k d) more) (mergeK (putK ws k u) vs')
    exact RepsK.merge (r.put h0 h1) h2
theorem putD_length (kvs : List (Key × D)) (k : Key) (d : D) : (putD kvs k d).length ≤ kvs.length + 1 := by
  unfold putD
  split
  · rw [List.length_map]; omega
  · rw [List.length_append]; exact Nat.le_refl _
theorem mergeD_length : ∀ (more kvs : List (Key × D)), (mergeD kvs more).length ≤ kvs.length + more.length
  | [], kvs => by show kvs.length ≤ kvs.length + 0; omega
  | p :: r, kvs => by
    have h1 := mergeD_length r (putD kvs p.1 p.2)
    have h2 := putD_length kvs p.1 p.2
    show (mergeD (putD kvs p.1 p.2) r).length ≤ _
    rw [List.length_cons]; omega
theorem keyD_ok {d : D} {v : V} {k : Key} (r : Rep K nm F d v) (h : keyD d = some k) : v = kV k ∧ kOk k := by
  cases d <;> try cases h
  · exact ⟨r, trivial⟩
  · exact ⟨r.1, r.2⟩
end
section
variable {R : Reg} {F H F0 H0 : Hp} {s : R.S}
theorem fre_row {ds : List D} {vs : List V} {p : Addr} (w : Wd R F H s) (st : Stp R F0 H0 F H) (hp : H p = none) (hz : ds.length ≤ sizeLine) (r : Reps R.K R.nm F ds vs) : Wd R F (upd H p (.lst vs)) s ∧ Stp R F0 H0 F (upd H p (.lst vs)) ∧ Fre R H0 F (upd H p (.lst vs)) (.row ds) (.ref p) :=
  ⟨w.newH _ hp, st.trans (Stp.newH _ hp), p, rfl, st.th p hp, w.free hp, w.notMu hp, vs, upd_same, hz, r⟩
theorem fre_tab {ds : List (Key × D)} {vs : List (Key × V)} {p : Addr} (w : Wd R F H s) (st : Stp R F0 H0 F H) (hp : H p = none) (hz : ds.length ≤ sizeLine) (r : RepsK R.K R.nm F ds vs) : Wd R F (upd H p (.dK vs)) s ∧ Stp R F0 H0 F (upd H p (.dK vs)) ∧ Fre R H0 F (upd H p (.dK vs)) (.tab ds) (.ref p) :=
  ⟨w.newH _ hp, st.trans (Stp.newH _ hp), p, rfl, st.th p hp, w.free hp, w.notMu hp, vs, upd_same, hz, r⟩
end
section
variable {X : Cx} {R : Reg} {W : WX} {fr : Bool} {O O' B : List Nat} {a b e o tg iter : Expr} {es : List Expr} {f g : Sl → M R.S D} {c : Sl → M R.S Bool} {fs : Sl → M R.S (List D)} {pos p apos cpos : Pos} {n : Nat}
/-- a new thing, given out -/
theorem de_give (h : PE X e (tDF R W O f)) : PE X e (tD R W O f) := pe_imp h fun σ H Q h => by
  obtain ⟨F, r, s, w, pu, p⟩ := h
  refine ⟨F, r, s, w, pu, ?_⟩
  cases ef : f r s with
  | ok d s' =>
    rw [ef] at p
    intro F' H' w' st' v fv
    obtain ⟨G, wG, stG, rG⟩ := fv.give w' st'
    exact p G H' wG stG v rG
  | exc x s' => rw [ef] at p; exact p
  | bot => rw [ef] at p; exact p
theorem df_scal (h : PE X e (tD R W O f)) : PE X e (tDF R W O (dUn scalD f)) := pe_imp h fun σ H Q h => by
  obtain ⟨F, r, s, w, pu, p⟩ := h
  refine ⟨F, r, s, w, pu, p.bnd.imp (fun d s1 F1 H1 w1 st1 p1 v rv => ?_) fun _ _ _ _ _ _ z => z⟩
  obtain ⟨d', e', k⟩ := p1.lift
  cases d <;> cases e' <;> exact k F1 H1 w1 Stp.refl v rv
theorem df_lst (h : PA X es (tDA R W O fs)) : PE X (.List es pos) (tDF R W O (dAll rowD fs)) := pe_imp (pe_lst h) fun σ H Q h => by
  obtain ⟨F, ρ, s, w, pu, p⟩ := h
  refine ⟨F, ρ, s, w, pu, p.bnd.imp (fun ds s1 F1 H1 w1 st1 p1 vs rvs => ?_) fun _ _ _ _ _ _ z => z⟩
  obtain ⟨d, ed, k⟩ := p1.lift
  obtain ⟨hz, rfl⟩ := rowD_some ed
  refine ⟨by rw [rvs.length]; exact hz, fun q hq => ?_⟩
  obtain ⟨h1, h2, h3⟩ := fre_row w1 st1 hq hz rvs
  exact k F1 _ h1 (Stp.newH _ hq) _ h3
theorem df_dict0 : PE X (.Dict [] [] pos) (tDF R W O (dC (.tab []))) := pe_imp pe_dnewK fun σ H Q h => by
  obtain ⟨F, ρ, s, w, pu, p⟩ := h
  intro q hq
  obtain ⟨h1, h2, h3⟩ := fre_tab (ds := []) (vs := []) w Stp.refl hq (Nat.zero_le _) rfl
  exact p F _ h1 h2 _ h3
theorem df_if {t : Expr} (hc : PT X t (tDT R W O c)) (ha : PE X a (tDF R W O f)) (hb : PE X b (tDF R W O g)) : PE X (.IfExp t a b pos) (tDF R W O (dIf c f g)) := pe_imp (pe_ifExp hc ha hb) fun σ H Q h => by
  obtain ⟨F, ρ, s, w, pu, p⟩ := h
  refine ⟨F, ρ, s, w, pu, p.bnd.imp (fun k s1 F1 H1 w1 st1 p1 => ?_) fun _ _ _ _ _ _ z => z⟩
  have go : ∀ m : M R.S D, Post R F1 H1 (m s1) (fun d x F' H' => ∀ v, Fre R H F' H' d v → Q v H') (fun x _ F' H' => ∀ cls dd, RepX R.K R.nm F' x cls dd → W cls dd σ H') → Post R F1 H1 (m s1) (fun d x F' H' => ∀ v, Fre R H1 F' H' d v → Q v H') (fun x _ F' H' => ∀ cls dd, RepX R.K R.nm F' x cls dd → W cls dd σ H') :=
    fun m q => q.imp (fun d s2 F2 H2 w2 st2 q v fv => q v (fv.base st1.th)) fun _ _ _ _ _ _ z => z
  cases k with
  | true => rw [if_pos rfl] at p1; exact iteT ⟨F1, ρ, s1, w1, pu.mono st1.fs, go _ p1⟩
  | false => rw [if_neg Bool.false_ne_true] at p1; exact iteF ⟨F1, ρ, s1, w1, pu.mono st1.fs, go _ p1⟩
/-! displays -/
def flatP : List (V × V) → List V
  | [] => []
  | p :: r => p.1 :: p.2 :: flatP r
def DPs (X : Cx) (R : Reg) (W : WX) (O : List Nat) (pos : Pos) (keys : List (Option Expr)) (values : List Expr) (fs : Sl → M R.S (List D)) : Prop :=
  ∃ trs, PPs X pos keys values trs ∧ ∀ σ H Q, tDA R W O fs σ H (fun vs H' => ∀ ps, flatP ps = vs → Q ps H') → tPairs trs σ H Q
theorem dps_nil : DPs X R W O pos [] [] dNil := ⟨[], pps_nil, fun σ H Q h => by
  obtain ⟨F, ρ, s, w, pu, p⟩ := h
  exact p F H w Stp.refl [] rfl [] rfl⟩
theorem dps_cons {ks : List (Option Expr)} {vs : List Expr} (ha : PE X a (tD R W O f)) (hb : PE X b (tD R W O g)) (hr : DPs X R W O pos ks vs fs) : DPs X R W O pos (some a :: ks) (b :: vs) (dCons f (dCons g fs)) := by
  obtain ⟨trs, h1, h2⟩ := hr
  refine ⟨_, pps_cons ha hb h1, fun σ H Q h => ?_⟩
  obtain ⟨F, ρ, s, w, pu, p⟩ := h
  refine ⟨F, ρ, s, w, pu, p.bnd.imp (fun d s1 F1 H1 w1 st1 p1 v rv => ?_) fun _ _ _ _ _ _ z => z⟩
  have p2 := p1.bnd.bnd
  refine ⟨F1, ρ, s1, w1, pu.mono st1.fs, p2.imp (fun e s2 F2 H2 w2 st2 p3 u ru => ?_) fun _ _ _ _ _ _ z => z⟩
  refine h2 σ H2 _ ⟨F2, ρ, s2, w2, (pu.mono st1.fs).mono st2.fs, p3.bnd.imp (fun ds s3 F3 H3 w3 st3 p4 ws rws ps ep => ?_) fun _ _ _ _ _ _ z => z⟩
  have p5 := p4 F3 H3 w3 Stp.refl
  have p6 := p5 F3 H3 w3 Stp.refl
  exact p6 (v :: u :: ws) ⟨v, u :: ws, rfl, (rv.mono st2.fs).mono st3.fs, u, ws, rfl, ru.mono st3.fs, rws⟩ ((v, u) :: ps) (by show v :: u :: flatP ps = _; rw [ep])
theorem pairs_rep : ∀ {ds : List D} {ps : List (V × V)} {kvs : List (Key × D)} {F : Hp}, Reps R.K R.nm F ds (flatP ps) → pairsD ds = some kvs → ∃ ws : List (Key × V), ps = ws.map (fun kv => (kV kv.1, kv.2)) ∧ RepsK R.K R.nm F kvs ws
  | [], ps, kvs, F, r, e => by
    cases e
    cases ps with
    | nil => exact ⟨[], rfl, rfl⟩
    | cons p ps => cases (show flatP (p :: ps) = [] from r)
  | [d], ps, kvs, F, r, e => by cases e
  | k :: v :: ds, ps, kvs, F, r, e => by
    obtain ⟨kk, e1, e⟩ := bind_some (show (keyD k).bind (fun k => (pairsD ds).map fun l => (k, v) :: l) = some kvs from e)
    obtain ⟨l, e2, rfl⟩ := map_some e
    cases ps with
    | nil => obtain ⟨_, _, z, _⟩ := r; cases z
    | cons p ps =>
      obtain ⟨x, xs, z, rx, y, ys, z2, ry, r2⟩ := r
      cases z
      cases z2
      obtain ⟨h1, h2⟩ := keyD_ok rx e1
      obtain ⟨ws, h3, h4⟩ := pairs_rep r2 e2
      refine ⟨(kk, p.2) :: ws, ?_, p.2, ws, rfl, h2, ry, h4⟩
      rw [List.map_cons, ← h3, ← h1]
theorem df_disp {keys : List (Option Expr)} {values : List Expr} (h : DPs X R W O pos keys values fs) (hall : keys.all (·.isSome) = true) (hl : keys.length = values.length) (h0 : keys ≠ []) (h15 : keys.length ≤ 15) (hds : ∀ r s ds s', fs r s = .ok ds s' → ds.length ≤ 30) :
    PE X (.Dict keys values pos) (tDF R W O (dAll dispD fs)) := by
  obtain ⟨trs, h1, h2⟩ := h
  refine pe_imp (pe_disp h1 hall hl h0 h15) fun σ H Q h => ?_
  obtain ⟨F, ρ, s, w, pu, p⟩ := h
  intro q hq
  have st0 : Stp R F H F (upd H q (.dK [])) := Stp.newH _ hq
  have w0 : Wd R F (upd H q (.dK [])) s := w.newH _ hq
  have nm := w.notMu hq
  have fq := w.free hq
  have key : Post R F (upd H q (.dK [])) (fs ρ s) (fun vs s1 F' H' => ∀ us, Reps R.K R.nm F' vs us → ∀ ps, flatP ps = us → H' q = some (.dK []) ∧ ∃ kvs : List (Key × V), ps = kvs.map (fun kv => (kV kv.1, kv.2)) ∧ kvs.length ≤ 15 ∧ Q (.ref q) (upd H' q (.dK (mergeK [] kvs)))) (fun x _ F' H' => ∀ cls dd, RepX R.K R.nm F' x cls dd → W cls dd σ H') := by
    have p1 := p.bnd0
    cases ef : fs ρ s with
    | bot => rw [ef] at p1; exact p1.elim
    | exc x s1 => rw [ef] at p1; exact fun F' H' w' st' => p1 F' H' w' (st0.trans st')
    | ok ds s1 =>
      rw [ef] at p1
      intro F' H' w' st' us rus ps eps
      subst eps
      obtain ⟨d', ed, k⟩ := (p1 F' H' w' (st0.trans st')).lift
      obtain ⟨kvs, ek, rfl⟩ := map_some ed
      obtain ⟨ws, ew, rk⟩ := pairs_rep rus ek
      have hq' : H' q = some (.dK []) := st'.own nm fq upd_same
      have fq' : F' q = none := st'.freeF fq (by rw [upd_same]; exact fun z => nomatch z)
      have hlen : ds.length ≤ 30 := hds ρ s ds s1 ef
      have hkl : 2 * kvs.length = ds.length := by
        have go : ∀ {ds : List D} {kvs : List (Key × D)}, pairsD ds = some kvs → 2 * kvs.length = ds.length := by
          intro ds
          induction ds using pairsD.induct with
          | case1 => intro kvs e; cases e; rfl
          | case2 k v r ih =>
            intro kvs e
            obtain ⟨kk, e1, e⟩ := bind_some (show (keyD k).bind (fun k => (pairsD r).map fun l => (k, v) :: l) = some kvs from e)
            obtain ⟨l, e2, rfl⟩ := map_some e
            have := ih e2
            rw [List.length_cons, List.length_cons, List.length_cons]; omega
          | case3 t h1 h2 =>
            intro kvs e
            unfold pairsD at e
            split at e
            · exact absurd rfl h1
            · exact absurd rfl (h2 _ _ _)
            · cases e
        exact go ek
      have hws : ws.length = kvs.length := rk.length
      refine ⟨hq', ws, ew, by omega, ?_⟩
      refine k F' _ (w'.ownW fq' nm _) ((st0.trans st').ownW hq _) _ ⟨q, rfl, hq, fq', nm, _, upd_same, ?_, RepsK.merge (ws := []) (kvs := []) rfl rk⟩
      have := mergeD_length kvs []
      rw [List.length_nil] at this
      rw [sizeLine_eq]; omega
  exact h2 σ _ _ ⟨F, ρ, s, w0, pu, key⟩
end
end Nw
set_option Elab.async false
set_option linter.all false
set_option maxRecDepth 100000
set_option maxHeartbeats 4000000
/-! Part W: statements over a def's own things. -/
namespace Nw
open PySem PySem.Spec L2
section
variable {X : Cx} {R : Reg} {W : WX} {O : List Nat}
theorem sat_lcF {it : Sl → M R.S (List D)} {g : TG} {vs : List Nat} {tgt : D → Sl → Option Sl} {t : Sl → M R.S Bool} {f : Sl → M R.S D} (hg : TgSat R g vs tgt) (σ : L2.St) (H : Hp) (Q : VK) (h : tDF R W O (dLc it tgt t f) σ H Q) :
    tLc (tDI R W O it) g (tDT R W0 O t) (tD R W0 O f) vs σ H Q := by
  obtain ⟨F, ρ, s, w, pu, p⟩ := h
  refine ⟨F, ρ, s, w, pu, p.bnd.imp (fun ds s1 F1 H1 w1 st1 p1 J wk Dn hD => ?_) fun _ _ _ _ _ _ z => z⟩
  have pu1 := pu.mono st1.fs
  have nMu : ¬ R.Mu Dn := w1.notMu hD
  have fD : F1 Dn = none := w1.free hD
  refine ⟨fun i m Hc => m = ds.length - i ∧ i ≤ ds.length ∧ ∃ Fc sc acc ws, Wd R Fc Hc sc ∧ Stp R F1 H1 Fc Hc ∧ Hc Dn = some (.lst ws) ∧ Fc Dn = none ∧ Reps R.K R.nm Fc acc ws ∧ acc.length ≤ i ∧
    Post R F1 H1 (lcA tgt t f ρ acc (ds.drop i) sc) (fun d _ F' H' => ∀ v, Fre R H F' H' d v → Q v H') (fun x _ F' H' => ∀ cls dd, RepX R.K R.nm F' x cls dd → W cls dd σ H'),
    ⟨_, rfl, Nat.zero_le _, F1, s1, [], [], w1.newH _ hD, Stp.newH _ hD, upd_same, fD, rfl, Nat.le_refl _, p1⟩, ?_⟩
  rintro i m Hc ⟨rfl, hi, Fc, sc, acc, ws, wc, stc, hDc, fDc, rc, hacc, pc⟩
  by_cases hlt : i < ds.length
  · refine .inr ⟨wk.go i Fc Hc (stc.kp wc.sub w1) hlt, fun Hn => (ds.length - (i + 1)) = ds.length - (i + 1) ∧ i + 1 ≤ ds.length ∧ ∃ Fc sc acc ws, Wd R Fc Hn sc ∧ Stp R F1 H1 Fc Hn ∧ Hn Dn = some (.lst ws) ∧ Fc Dn = none ∧ Reps R.K R.nm Fc acc ws ∧ acc.length ≤ i + 1 ∧
      Post R F1 H1 (lcA tgt t f ρ acc (ds.drop (i + 1)) sc) (fun d _ F' H' => ∀ v, Fre R H F' H' d v → Q v H') (fun x _ F' H' => ∀ cls dd, RepX R.K R.nm F' x cls dd → W cls dd σ H'),
      fun H' q => ⟨_, by omega, q⟩, fun x H' y => ?_⟩
    obtain ⟨rfl, d, hd, rd⟩ := wk.yld i Fc Hc x H' (stc.kp wc.sub w1) hlt y
    have ed : ds.drop i = d :: ds.drop (i + 1) := by
      rw [List.drop_eq_getElem_cons hlt]
      rw [List.getElem?_eq_getElem hlt] at hd
      cases hd
      rfl
    rw [ed] at pc
    obtain ⟨r', er, pc⟩ := pc.lift0
    refine hg x d (wipe σ vs) ρ r' Fc H' _ wc.sub rd (by rw [wipe_length]; exact pu.len) er fun σ2 sa => ⟨wipe_eq (by rw [sa.len, wipe_length]) fun j hj => (sa.off j hj).1, ?_⟩
    have pu2 : Pu R O Fc σ2 r' := ⟨by rw [sa.lenr, sa.len, wipe_length]; exact pu.len, fun j d' hj e => by
      by_cases hv : j ∈ vs
      · exact sa.on j d' hv e
      · obtain ⟨e1, e2⟩ := sa.off j hv
        rw [e2] at e
        obtain ⟨v, h1, h2⟩ := (pu1.mono stc.fs).at_ j d' hj e
        exact ⟨v, by rw [e1, wipe_out hv]; exact h1, h2⟩⟩
    refine ⟨Fc, r', sc, wc, pu2, ((post_nox pc.bnd0).from stc).imp (fun b s3 F3 H3 w3 st3 p3 => ?_) fun _ _ _ _ _ _ z => z⟩
    have hD3 : H3 Dn = some (.lst ws) := st3.own nMu fDc hDc
    have fD3 : F3 Dn = none := st3.freeF fDc (by rw [hDc]; exact fun z => nomatch z)
    cases b with
    | false =>
      rw [if_neg Bool.false_ne_true] at p3
      refine iteF ?_
      exact ⟨rfl, hlt, F3, s3, acc, ws, w3, stc.trans st3, hD3, fD3, rc.mono st3.fs, by omega, p3⟩
    | true =>
      rw [if_pos rfl] at p3
      refine iteT ?_
      refine ⟨F3, r', s3, w3, pu2.mono st3.fs, ((post_nox p3.bnd0).from (stc.trans st3)).imp (fun y' s4 F4 H4 w4 st4 p4 u ru => ?_) fun _ _ _ _ _ _ z => z⟩
      have hD4 : H4 Dn = some (.lst ws) := st4.own nMu fD3 hD3
      have fD4 : F4 Dn = none := st4.freeF fD3 (by rw [hD3]; exact fun z => nomatch z)
      have hz := wk.hz
      refine ⟨ws, hD4, by rw [rc.length]; omega, rfl, hlt, F4, s4, acc ++ [y'], ws ++ [u], w4.ownW fD4 nMu _, ((stc.trans st3).trans st4).ownW hD _, upd_same, fD4, ((rc.mono st3.fs).mono st4.fs).append ⟨u, [], rfl, ru, rfl⟩, by rw [List.length_append, List.length_singleton]; omega, p4⟩
  · have ei : i = ds.length := by omega
    subst ei
    refine .inl ⟨wk.stop Fc Hc (stc.kp wc.sub w1), ?_⟩
    rw [List.drop_length] at pc
    have hz := wk.hz
    exact pc Fc Hc wc stc (.ref Dn) ⟨Dn, rfl, st1.th Dn hD, fDc, nMu, ws, hDc, by omega, rc⟩
end
section
variable {S : Type}
def isRT : D → Bool
  | .row _ => true
  | .tab _ => true
  | _ => false
/-- a new thing into a slot -/
def sAsgO (i : Nat) (f : Sl → M S D) : Sl → Mo S := fun r => liftX (f r) r fun d s => if isRT d = true then some (.next (r.set i (some d)), s) else none
/-- x.append(v), ..; x[k] = v -/
def putK2 (i : Nat) (r : Sl) (o : Option D) : Mo S := fun s => match o with
  | some x' => some (.next (r.set i (some x')), s)
  | none => none
def sOwn1 (T : String) (i : Nat) (op : D → D → Option D) (f : Sl → M S D) : Sl → Mo S := fun r => optK ((getS r i).bind fun x => (tyIs T x).map fun _ => x) fun x => liftX (f r) r fun d => putK2 i r (op x d)
def sOwn2 (i : Nat) (op : D → D → D → Option D) (fk fv : Sl → M S D) : Sl → Mo S := fun r => liftX (fv r) r fun v => optK (getS r i) fun x => liftX (fk r) r fun k => putK2 i r (op x k v)
def sRetO (i : Nat) : Sl → Mo S := fun r s => match getS r i with
  | some d => some (.rt d, s)
  | none => none
def DLen (fs : Sl → M S (List D)) (n : Nat) : Prop := ∀ r s ds s', fs r s = .ok ds s' → ds.length = n
theorem dlen_nil : DLen (dNil : Sl → M S (List D)) 0 := fun r s ds s' e => by cases e; rfl
theorem dlen_cons {f : Sl → M S D} {fs : Sl → M S (List D)} {n : Nat} (h : DLen fs n) : DLen (dCons f fs) (n + 1) := fun r s ds s' e => by
  have e : bnd (f r) (fun x => bnd (fs r) fun xs => ret (x :: xs)) s = Res.ok ds s' := e
  cases e1 : f r s with
  | bot => rw [bnd_bot e1] at e; cases e
  | exc x s1 => rw [bnd_exc e1] at e; cases e
  | ok a s1 =>
    rw [bnd_ok e1] at e
    cases e2 : fs r s1 with
    | bot => rw [bnd_bot e2] at e; cases e
    | exc x s2 => rw [bnd_exc e2] at e; cases e
    | ok b s2 =>
      rw [bnd_ok e2] at e
      have e3 : Res.ok (a :: b) s2 = Res.ok ds s' := e
      injection e3 with e4 e5
      rw [← e4, List.length_cons, h r s1 b s2 e2]
end
def appD : D → D → Option D
  | .row xs, d => if xs.length < sizeLine then some (.row (xs ++ [d])) else none
  | _, _ => none
def extD : D → D → Option D
  | .row xs, .row ys => if xs.length + ys.length ≤ sizeLine then some (.row (xs ++ ys)) else none
  | _, _ => none
def setD : D → D → D → Option D
  | .tab kvs, k, v => (keyD k).bind fun k => if kvs.length < sizeLine then some (.tab (putD kvs k v)) else none
  | .row xs, .int k, v => (ixN xs.length k).map fun j => .row (xs.set j v)
  | _, _, _ => none
section
variable {X : Cx} {R : Reg} {W : WX} {fr : Bool} {O O' B : List Nat} {a b e o tg iter : Expr} {es : List Expr} {f g fk fv : Sl → M R.S D} {c : Sl → M R.S Bool} {fs : Sl → M R.S (List D)} {pos p apos cpos npos : Pos} {n i : Nat} {x : Str}
  {F0 H0 F H F' H' : Hp} {σ : L2.St} {r : Sl} {s : R.S} {E : Ends}
theorem Slots.setO {d : D} {q : Addr} (h : Slots R H0 O F H σ r) (hi : i ∈ O') (h1 : ∀ j ∈ O', j = i ∨ j ∈ O) (h2 : ∀ j ∈ O, j ≠ i → j ∈ O') (hq : OwnAt R H0 F H q d) (sep : ∀ j d' a, j ∈ O → j ≠ i → r[j]? = some (some d') → σ[j]? = some (some (.ref a)) → a ≠ q) : Slots R H0 O' F H (σ.set i (some (.ref q))) (r.set i (some d)) where
  pu := ⟨by rw [List.length_set, List.length_set]; exact h.pu.len, fun j d' hj e => by
    have ne : i ≠ j := fun z => hj (by rw [← z]; exact hi)
    rw [List.getElem?_set_ne ne] at e ⊢
    exact h.pu.at_ j d' (fun z => hj (h2 j z (fun w => ne w.symm))) e⟩
  ow := fun j d' hj e => by
    by_cases ej : i = j
    · subst ej
      by_cases hl : i < r.length
      · rw [List.getElem?_set_self hl] at e
        cases e
        exact ⟨q, List.getElem?_set_self (by rw [← h.pu.len]; exact hl), hq⟩
      · rw [List.getElem?_eq_none (by rw [List.length_set]; omega)] at e; cases e
    · rw [List.getElem?_set_ne ej] at e ⊢
      exact h.ow j d' ((h1 j hj).resolve_left fun z => ej z.symm) e
  sep := fun j k ad d1 d2 hj hk e1 e2 e3 e4 => by
    by_cases ej : i = j
    · by_cases ek : i = k
      · exact ej.symm.trans ek
      · subst ej
        rw [List.getElem?_set_ne ek] at e2 e4
        have hkO := (h1 k hk).resolve_left fun z => ek z.symm
        have hil : i < σ.length := by
          by_cases hl : i < σ.length
          · exact hl
          · rw [List.getElem?_eq_none (by rw [List.length_set]; omega)] at e3; cases e3
        rw [List.getElem?_set_self hil] at e3
        cases e3
        exact absurd rfl (sep k d2 _ hkO (fun z => ek z.symm) e2 e4)
    · by_cases ek : i = k
      · subst ek
        rw [List.getElem?_set_ne ej] at e1 e3
        have hjO := (h1 j hj).resolve_left fun z => ej z.symm
        have hil : i < σ.length := by
          by_cases hl : i < σ.length
          · exact hl
          · rw [List.getElem?_eq_none (by rw [List.length_set]; omega)] at e4; cases e4
        rw [List.getElem?_set_self hil] at e4
        cases e4
        exact absurd rfl (sep j d1 _ hjO (fun z => ej z.symm) e1 e3)
      · rw [List.getElem?_set_ne ej] at e1 e3
        rw [List.getElem?_set_ne ek] at e2 e4
        exact h.sep j k ad d1 d2 ((h1 j hj).resolve_left fun z => ej z.symm) ((h1 k hk).resolve_left fun z => ek z.symm) e1 e2 e3 e4
theorem Fre.own {d : D} {v : V} (h : Fre R H0 F H d v) (hr : isRT d = true) : ∃ q, v = .ref q ∧ OwnAt R H0 F H q d := by
  cases d with
  | row ds => exact h
  | tab ds => exact h
  | _ => cases hr
/-- name = a new thing -/
theorem ds_setO (i : Nat) {pos' : Pos} (hN : X.N.Nodup) (hi : X.N[i]? = some x) (hx : Loc X.env.scope x) (he : PE X e (tDF R W O f)) (hO : i ∈ O') (h1 : ∀ j ∈ O', j = i ∨ j ∈ O) (h2 : ∀ j ∈ O, j ≠ i → j ∈ O') (hs : swapsWith e (some (.Name x pos')) pos.line X.env = pure false := by rfl) (hf : X.fn x = true ∨ X.env.scope.names.lookup x = some .local := by first | exact .inl rfl | exact .inr rfl | assumption) :
    PS X (.Assign [.Name x pos'] e pos) (tDS R W fr B O O' (sAsgO i f)) := ps_imp (ps_set hN hi hx he hs hf) fun E σ H h => by
  obtain ⟨F0, H0, F, r, s, w, st, sl, p⟩ := h
  refine ⟨F, r, s, w, sl.pu, (postS_x w st sl p).imp (fun d s1 F1 H1 w1 st1 q v fv => ?_) fun _ _ _ _ _ _ z => z⟩
  obtain ⟨w2, st2, sl2, p2⟩ := q
  cases er : isRT d with
  | false => rw [er, if_neg Bool.false_ne_true] at p2; exact p2.elim
  | true =>
    rw [er, if_pos rfl] at p2
    obtain ⟨q, rfl, hq⟩ := fv.own er
    have hqq : OwnAt R H0 F1 H1 q d := ⟨st.th q hq.1, hq.2⟩
    refine p2 _ F1 H1 w2 st2 (sl2.setO hO h1 h2 hqq fun j d' ad hj ne e1 e2 ea => ?_)
    subst ea
    obtain ⟨ad', e3, h4⟩ := sl.ow j d' hj e1
    rw [e2] at e3
    cases e3
    obtain ⟨o, ho⟩ := h4.there
    rw [hq.1] at ho
    cases ho
/-- return of a new thing -/
theorem ds_retF (he : PE X e (tDF R W O f)) : PS X (.Return (some e) pos) (tDS R W true B O O' (sRet f)) := ps_imp (ps_ret he) fun E σ H h => by
  obtain ⟨F0, H0, F, r, s, w, st, sl, p⟩ := h
  exact ⟨F, r, s, w, sl.pu, (postS_x w st sl p).imp (fun d s1 F1 H1 w1 st1 q v fv => q.2.2.2 v F1 H1 q.1 q.2.1 (show Fre R H0 F1 H1 d v from fv.base st.th)) fun _ _ _ _ _ _ z => z⟩
/-- return of an own thing -/
theorem ds_retO (i : Nat) (hO : i ∈ O) (hN : X.N[i]? = some x) (hv : Vis X.env.scope x) (hd : (x == ("__debug__" : Str)) = false := by decide) (hcd : (x == ("__classdict__" : Str)) = false := by decide) : PS X (.Return (some (.Name x npos)) pos) (tDS R W true B O O' (sRetO i)) := ps_imp (ps_ret (pe_var hN hv hd hcd)) fun E σ H h => by
  obtain ⟨F0, H0, F, r, s, w, st, sl, p⟩ := h
  unfold sRetO at p
  cases eg : getS r i with
  | none => rw [eg] at p; exact p.elim
  | some d =>
    rw [eg] at p
    obtain ⟨ad, h1, h2⟩ := sl.ow i d hO (getS_some eg)
    refine ⟨_, h1, p _ F H w st ?_⟩
    show Fre R H0 F H d (.ref ad)
    cases d with
    | row ds => exact ⟨ad, rfl, h2⟩
    | tab ds => exact ⟨ad, rfl, h2⟩
    | _ => exact h2.2.2.2.elim
/-- an own thing changed -/
theorem own_write {d d' : D} {ad : Addr} {o : HO} (w : Wd R F H s) (st : Stp R F0 H0 F H) (sl : Slots R H0 O F H σ r) (hO : i ∈ O) (er : r[i]? = some (some d)) (es : σ[i]? = some (some (.ref ad))) (ow : OwnAt R H0 F H ad d)
    (hn : match d' with | .row ds => ∃ vs, o = .lst vs ∧ ds.length ≤ sizeLine ∧ Reps R.K R.nm F ds vs | .tab kvs => ∃ ws, o = .dK ws ∧ kvs.length ≤ sizeLine ∧ RepsK R.K R.nm F kvs ws | _ => False) :
    Wd R F (upd H ad o) s ∧ Stp R F0 H0 F (upd H ad o) ∧ Slots R H0 O F (upd H ad o) σ (r.set i (some d')) := by
  have ow' : OwnAt R H0 F (upd H ad o) ad d' := ⟨ow.1, ow.2.1, ow.2.2.1, by
    cases d' with
    | row ds => obtain ⟨vs, rfl, h1, h2⟩ := hn; exact ⟨vs, upd_same, h1, h2⟩
    | tab ds => obtain ⟨vs, rfl, h1, h2⟩ := hn; exact ⟨vs, upd_same, h1, h2⟩
    | _ => exact hn.elim⟩
  refine ⟨w.ownW ow.2.1 ow.2.2.1 _, st.ownW ow.1 _, ⟨⟨by rw [List.length_set]; exact sl.pu.len, fun j e hj q => ?_⟩, fun j e hj q => ?_, fun j k a d1 d2 hj hk e1 e2 e3 e4 => ?_⟩⟩
  · have ne : i ≠ j := fun z => hj (by rw [← z]; exact hO)
    rw [List.getElem?_set_ne ne] at q
    exact sl.pu.at_ j e hj q
  · by_cases ej : i = j
    · subst ej
      rw [List.getElem?_set_self (List.getElem?_eq_some_iff.mp er).1] at q
      cases q
      exact ⟨ad, es, ow'⟩
    · rw [List.getElem?_set_ne ej] at q
      obtain ⟨a', h1, h2⟩ := sl.ow j e hj q
      exact ⟨a', h1, h2.other fun z => ej (sl.sep i j ad d e hO hj er q es (by rw [← z]; exact h1))⟩
  · have hh : ∀ m dm, (r.set i (some d'))[m]? = some (some dm) → ∃ dm', r[m]? = some (some dm') := fun m dm q => by
      by_cases em : i = m
      · subst em; exact ⟨d, er⟩
      · rw [List.getElem?_set_ne em] at q; exact ⟨dm, q⟩
    obtain ⟨x1, y1⟩ := hh j d1 e1
    obtain ⟨x2, y2⟩ := hh k d2 e2
    exact sl.sep j k a x1 x2 hj hk y1 y2 e3 e4
/-- the slot that is there -/
theorem opt_post {α : Type} {o : Option α} {k : α → Mo R.S} (p : PostS R fr F0 H0 (optK o k s) E W B O') : ∃ a, o = some a ∧ PostS R fr F0 H0 (k a s) E W B O' := by
  cases o with
  | none => exact p.elim
  | some a => exact ⟨a, rfl, p⟩
theorem put_post {o : Option D} (p : PostS R fr F0 H0 (putK2 i r o s) E W B O') : ∃ d, o = some d ∧ PostS R fr F0 H0 (some (.next (r.set i (some d)), s)) E W B O' := by
  cases o with
  | none => exact p.elim
  | some a => exact ⟨a, rfl, p⟩
def setTD (x k v : D) : Option D := match x with
  | .tab kvs => (keyD k).bind fun k => if kvs.length < sizeLine then some (.tab (putD kvs k v)) else none
  | _ => none
def setLD (x k v : D) : Option D := match x, k with
  | .row xs, .int k => (ixN xs.length k).map fun j => .row (xs.set j v)
  | _, _ => none
/-- x[k] = v, x an own table -/
theorem ds_setT (i : Nat) {pos' : Pos} (cx : Cxt X R W n) (hO : i ∈ O) (hN : X.N[i]? = some x) (hv : Vis X.env.scope x) (hk : PE X b (tD R W O fk)) (he : PE X e (tD R W O fv)) (hs : swapsWith e (some (.Subscript (.Name x npos) b pos')) pos.line X.env = pure false := by rfl) (hd : (x == ("__debug__" : Str)) = false := by decide) (hcd : (x == ("__classdict__" : Str)) = false := by decide) :
    PS X (.Assign [.Subscript (.Name x npos) b pos'] e pos) (tDS R W fr B O O (sOwn2 i setTD fk fv)) := ps_imp (ps_dput (by have := cx.hr.units; omega) (pe_var hN hv hd hcd) hk he hs) fun E σ H h => by
  obtain ⟨F0, H0, F, r, s, w, st, sl, p⟩ := h
  refine ⟨F, r, s, w, sl.pu, (postS_x w st sl p).imp (fun v s1 F1 H1 w1 st1 q vv rv => ?_) fun _ _ _ _ _ _ z => z⟩
  obtain ⟨w2, st2, sl2, p2⟩ := q
  obtain ⟨d, eg, p2⟩ := opt_post p2
  obtain ⟨ad, h1, h2⟩ := sl2.ow i d hO (getS_some eg)
  refine ⟨_, h1, F1, r, s1, w2, sl2.pu, (postS_x w2 st2 sl2 p2).imp (fun k s3 F3 H3 w3 st3 q kv rk => ?_) fun _ _ _ _ _ _ z => z⟩
  obtain ⟨w4, st4, sl4, p4⟩ := q
  obtain ⟨d', ed, p4⟩ := put_post p4
  have h3 := h2.step st3
  cases d with
  | tab kvs =>
    obtain ⟨kk, ek, ed⟩ := bind_some (show (keyD k).bind (fun k => if kvs.length < sizeLine then some (D.tab (putD kvs k v)) else none) = some d' from ed)
    by_cases hz : kvs.length < sizeLine
    · rw [if_pos hz] at ed
      cases ed
      obtain ⟨ws, e1, e2, e3⟩ := h3.2.2.2
      obtain ⟨k1, k2⟩ := keyD_ok rk ek
      refine ⟨ad, upd H3 ad (.dK (putK ws kk vv)), rfl, ?_, ?_⟩
      · rw [k1]; exact DPut.k e1 (by rw [e3.length]; exact hz)
      · obtain ⟨a1, a2, a3⟩ := own_write (o := .dK (putK ws kk vv)) w4 st4 sl4 hO (getS_some eg) h1 h3 (d' := .tab (putD kvs kk v)) ⟨_, rfl, by have := putD_length kvs kk v; omega, e3.put k2 (rv.mono st3.fs)⟩
        exact p4 σ F3 _ a1 a2 a3
    · rw [if_neg hz] at ed; cases ed
  | _ => cases ed
/-- x[k] = v, x an own list -/
theorem ds_setL (i : Nat) {pos' : Pos} (cx : Cxt X R W n) (hO : i ∈ O) (hN : X.N[i]? = some x) (hv : Vis X.env.scope x) (hk : PE X b (tD R W O fk)) (he : PE X e (tD R W O fv)) (hd : (x == ("__debug__" : Str)) = false := by decide) (hcd : (x == ("__classdict__" : Str)) = false := by decide)
    (hset : PG X (.Subscript (.Name x npos) b pos') (gSub (tVar i) (tD R W O fk) rSetL)) (hs : swapsWithSole [.Subscript (.Name x npos) b pos'] e pos.line X.env = pure false := by rfl) (hw : swappedStores [.Subscript (.Name x npos) b pos'] e X.env = pure none := by rfl) :
    PS X (.Assign [.Subscript (.Name x npos) b pos'] e pos) (tDS R W fr B O O (sOwn2 i setLD fk fv)) := ps_imp (ps_asg he hset hs hw) fun E σ H h => by
  obtain ⟨F0, H0, F, r, s, w, st, sl, p⟩ := h
  refine ⟨F, r, s, w, sl.pu, (postS_x w st sl p).imp (fun v s1 F1 H1 w1 st1 q vv rv => ?_) fun _ _ _ _ _ _ z => z⟩
  obtain ⟨w2, st2, sl2, p2⟩ := q
  obtain ⟨d, eg, p2⟩ := opt_post p2
  obtain ⟨ad, h1, h2⟩ := sl2.ow i d hO (getS_some eg)
  refine ⟨_, h1, F1, r, s1, w2, sl2.pu, (postS_x w2 st2 sl2 p2).imp (fun k s3 F3 H3 w3 st3 q kv rk => ?_) fun _ _ _ _ _ _ z => z⟩
  obtain ⟨w4, st4, sl4, p4⟩ := q
  obtain ⟨d', ed, p4⟩ := put_post p4
  have h3 := h2.step st3
  cases d with
  | row xs =>
    cases k with
    | int k =>
      obtain ⟨j, ej, rfl⟩ := map_some (show (ixN xs.length k).map (fun j => D.row (xs.set j v)) = some d' from ed)
      obtain ⟨ws, e1, e2, e3⟩ := h3.2.2.2
      refine ⟨ad, ws, k, j, rfl, rk, e1, by rw [e3.length]; exact ej, ?_⟩
      have rset : ∀ (j : Nat) {xs : List D} {ws : List V}, Reps R.K R.nm F3 xs ws → Reps R.K R.nm F3 (xs.set j v) (ws.set j vv) := by
        intro j
        induction j with
        | zero =>
          intro xs ws r
          cases xs with
          | nil => rw [show ws = [] from r]; rfl
          | cons y ys => obtain ⟨u, us, rfl, h1, h2⟩ := r; exact ⟨vv, us, rfl, rv.mono st3.fs, h2⟩
        | succ j ih =>
          intro xs ws r
          cases xs with
          | nil => rw [show ws = [] from r]; rfl
          | cons y ys => obtain ⟨u, us, rfl, h1, h2⟩ := r; exact ⟨u, us.set j vv, rfl, h1, ih h2⟩
      obtain ⟨a1, a2, a3⟩ := own_write (o := .lst (ws.set j vv)) w4 st4 sl4 hO (getS_some eg) h1 h3 (d' := .row (xs.set j v)) ⟨_, rfl, by rw [List.length_set]; exact e2, rset j e3⟩
      exact p4 σ F3 _ a1 a2 a3
    | _ => cases ed
  | _ => cases ed
/-- x.append(e), x an own list -/
theorem ds_app (i : Nat) (hO : i ∈ O) (hN : X.N[i]? = some x) (hv : Vis X.env.scope x) (he : PE X e (tD R W O f)) (hd : (x == ("__debug__" : Str)) = false := by decide) (hcd : (x == ("__classdict__" : Str)) = false := by decide)
    (hbase : attributeBase (.Name x npos) "append" X.env (eval (.Name x npos) X.env) = eval (.Name x npos) X.env := by rfl)
    (hfew : ((backTo cpos (starEach [e] X.env)).all (fun x => !x.1) && (backToKw cpos (keywordEach [] X.env)).all (fun x => x.1.isSome)
      && decide (([e] : List Expr).length + ([] : List Keyword).length + (if ([] : List Keyword).isEmpty then 0 else 1) < 30)) = true := by rfl)
    (hline : (apos.endLine == cpos.line) = true := by rfl) (hst : starEach [e] X.env = (false, eval e X.env) :: starEach [] X.env := by rfl) (hplain : (backTo cpos (starEach [] X.env)).any (·.1) = false := by rfl) (hs : swapsWith (.Call (.Attribute (.Name x npos) "append" apos) [e] [] cpos) none pos.line X.env = pure false := by rfl) :
    PS X (.Expr (.Call (.Attribute (.Name x npos) "append" apos) [e] [] cpos) pos) (tDS R W fr B O O (sOwn1 "list" i appD f)) :=
  ps_imp (ps_expr (pe_bm F.plainAttrs_list F.slot_list_append F.type_list_append mt_append (pe_var hN hv hd hcd) (pa_cons he pa_nil hst) hbase hfew hline hst hplain) hs) fun E σ H h => by
  obtain ⟨F0, H0, F, r, s, w, st, sl, p⟩ := h
  obtain ⟨d, eg, p⟩ := opt_post p
  obtain ⟨d0, eg0, e2⟩ := bind_some eg
  obtain ⟨u, eu, e3⟩ := map_some e2
  have e3 : d0 = d := e3
  subst e3
  clear eg e2
  have eg := eg0
  obtain ⟨ad, h1, h2⟩ := sl.ow i d0 hO (getS_some eg)
  cases d0 with
  | row xs =>
    obtain ⟨ws0, e10, e20, e30⟩ := h2.2.2.2
    refine ⟨_, h1, .inl ⟨rfl, ws0, SqL.of e10⟩, F, r, s, w, sl.pu, (postS_x w st sl p).imp (fun v s1 F1 H1 w1 st1 q vv rv => ?_) fun _ _ _ _ _ _ z => z⟩
    obtain ⟨w2, st2, sl2, p2⟩ := q
    obtain ⟨d', ed, p4⟩ := put_post p2
    have h3 := h2.step st1
    obtain ⟨ws, e1, e2, e3⟩ := h3.2.2.2
    have ed : (if xs.length < sizeLine then some (D.row (xs ++ [v])) else none) = some d' := ed
    by_cases hz : xs.length < sizeLine
    · rw [if_pos hz] at ed
      cases ed
      refine ⟨ad, ws, vv, rfl, rfl, e1, by rw [e3.length]; exact hz, ?_⟩
      obtain ⟨a1, a2, a3⟩ := own_write (o := .lst (ws ++ [vv])) w2 st2 sl2 hO (getS_some eg) h1 h3 (d' := .row (xs ++ [v])) ⟨_, rfl, by rw [List.length_append, List.length_singleton]; omega, e3.append ⟨vv, [], rfl, rv, rfl⟩⟩
      exact p4 σ F1 _ a1 a2 a3
    · rw [if_neg hz] at ed; cases ed
  | tab xs => cases eu
  | _ => exact h2.2.2.2.elim
end
end Nw
set_option Elab.async false
set_option linter.all false
set_option maxRecDepth 100000
set_option maxHeartbeats 4000000
/-! Part X: errors. -/
namespace Nw
open PySem PySem.Spec L2
section
variable {X : Cx} {pins : List (Addr × Obj)} {σ : L2.St} {H : Hp} {s : Shared}
/-- an error that was held is a thing from now on -/
theorem inv_track {a : Addr} {oe : Obj} {vs : Array Value} {cls : Value} {d : Option Addr} (I : Inv X pins σ H s) (e : s.heap.get? a = some oe) (hz : Zc cls d oe) (hd : oe.data = .fields vs) (na : H a = none) (nL : a ≠ X.env.locals) (n0 : X.s_0.heap.get? a = none) (np : ∀ p ∈ X.pn ++ pins, p.1 ≠ a) :
    Inv X pins σ (upd H a (ExH cls d a)) s := by
  have ne : ∀ b o, H b = some o → b ≠ a := fun b o q z => by rw [z, na] at q; cases q
  refine ⟨I.ok, I.os, I.bare, ⟨I.base.keep, I.base.slot, fun b o q1 q2 q3 => ?_, I.base.there, fun b xs q => ?_, fun b o u q => ?_, fun b ps q => ?_⟩, I.loc, I.cell, ?_, fun x c q => ?_, fun p hp => ?_, fun b o q => ?_, I.len⟩
  · rw [upd_ne fun z => by rw [z, n0] at q1; cases q1]; exact I.base.free b o q1 q2 q3
  · have q' := I.base.tups b xs q
    rw [upd_ne (ne _ _ q')]; exact q'
  · have q' := I.base.frzs b o u q
    rw [upd_ne (ne _ _ q')]; exact q'
  · obtain ⟨m, q'⟩ := I.base.tbls b ps q
    exact ⟨m, by rw [upd_ne (ne _ _ q')]; exact q'⟩
  · rw [upd_ne fun z => nL z.symm]; exact I.free
  · refine (upd_ne fun z => ?_).trans (I.freeC x c q)
    obtain ⟨v, oc, hc, hc2⟩ := I.cell x c q
    rw [z, e] at hc
    cases hc
    simp [hd] at hc2
  · obtain ⟨p1, p2, p3⟩ := I.pin p hp
    exact ⟨p1, by rw [upd_ne (np p hp)]; exact p2, p3⟩
  · by_cases hb : b = a
    · rw [hb, upd_same] at q
      cases q
      rw [hb]
      exact ⟨⟨oe, e, hz, vs, hd⟩, ⟨oe, e⟩, fun h1 h2 ⟨oe', e1, e2, e3⟩ k => ⟨oe', k _ e1, e2, e3⟩⟩
    · rw [upd_ne hb] at q
      exact (I.hok b o q).stay (fun c v _ q => q) (fun c q => by rw [upd_ne (ne _ _ q)]; exact q) fun c xs q => by rw [upd_ne (ne _ _ q)]; exact q
end
def wAsT (K : PySem.W.Frag) (c : Value) (i : Nat) (ts : Addr → Value → Option Addr → TS) (Wout : WX) (D : Ends) : WX := fun cls d σ H =>
  ∃ b, PySem.W.exmOne K cls c = some b ∧ (b = true → ∀ a, H a = none → ts a cls d { nx := fun σ' H' => D.nx (σ'.set i none) (upd H' a (ExH cls d a)), rt := fun v H' => D.rt v (upd H' a (ExH cls d a)), bk := fun σ' H' => D.bk (σ'.set i none) (upd H' a (ExH cls d a)), ct := fun σ' H' => D.ct (σ'.set i none) (upd H' a (ExH cls d a)) } (σ.set i (some (.ref a))) H) ∧
    (b = false → Wout cls d σ H)
section
open PyProof.Rows
abbrev St := L2.St
variable {X : Cx} {x n : Str} {c : Value} {i : Nat} {body suite : List Stmt} {b₀ : Stmt} {np pos pos' : Pos} {tb : WX → TS} {ts : Addr → Value → Option Addr → TS} {Wout : WX}
theorem ps_try_asT (hex : X.ex = []) (hs : X.stack = X.env :: X.outer) (hf : X.env.frame = some X.env.locals) (hN : X.N.Nodup) (hi : X.N[i]? = some n) (hln : X.env.kindOf n = some .local) (hc : Names X x c) (tk : Takes X Wout)
    (hb : ∀ (W : WX) (pn : List (Addr × Obj)) (xe : Value → Shared → Prop), Takes (X.tr pn xe) W → PassesOwn (model X.prog X.w) X.A X.env xe → PSs (X.tr pn xe) body (tb W))
    (hsu : ∀ (a : Addr) (oe : Obj) (cls : Value) (d : Option Addr) (pn : List (Addr × Obj)), Zc cls d oe → (∃ vs, oe.data = .fields vs) → PSs (X.suite a ((a, oe) :: pn)) (b₀ :: suite) (ts a cls d)) :
    PS X (.Try body [.ExceptHandler (some (.Name x np)) (some n) (b₀ :: suite) pos'] [] [] pos) (fun D σ H => tb (wAsT X.K c i ts Wout D) D σ H) := by
  refine ⟨fun pins s σ H D I h => ?_⟩
  have ok := I.ok
  have hfr : X.A.frames = some (X.env :: X.outer) := by rw [ok.frames, hs]
  have hloc : Loc X.env.scope n := .inl hln
  refine wpAny_Try_except ?_
  refine wpAny_mono ((hb (wAsT X.K c i ts Wout D) (X.pn ++ pins) (fun e s₁ => wpAny (model X.prog X.w) X.A (noteFrame e X.env) (fun _ s₂ => wpAny (model X.prog X.w) X.A (setFlight e none) (fun _ s₃ =>
    wpAny (model X.prog X.w) X.A (handleBy e X.env [.ExceptHandler (some (.Name x np)) (some n) (b₀ :: suite) pos']) (SP X pins D) X.xe s₃) X.xe s₂) X.xe s₁) (fun u s' xx => ?_) PassesOwn.looking).run [] s σ H D (I.toTry _) h) (fun f s1 hsp => ?_) (fun e s1 he => he)
  · -- the catch
    obtain ⟨a, B, sI, pins', σ', H', cls, d, rfl, J', nb, up, sky, na, os, ag, b, hb1, hyes, hno⟩ := xx
    have J : Inv X pins σ' H' sI := J'.ofTry ok
    have sky' : Sky B (X.env :: X.outer) a (Zc cls d) X.env.locals s'.heap := by rw [← hs]; exact sky
    show wpAny (model X.prog X.w) X.A (noteFrame (.ref a) X.env) _ _ _
    refine Sky.land Zc.steady hfr hf sky' fun h3 fl3 up3 => ?_
    have J3 : Inv X pins σ' H' { s' with heap := h3 } := J.landed nb fl3.1 (up.trans up3) os ag
    obtain ⟨oe3, vs3, he3, hz3, hd3⟩ := fl3.there
    have notFr : ∀ {h : Heap} {o : Obj} {vs : Array Value}, h.FunFrames B (X.env :: X.outer) → h.get? a = some o → o.data = .fields vs → a ∉ frs (X.env :: X.outer) := fun {h o vs} ff e dd hm => by
      obtain ⟨_, o', e', hnf⟩ := ff.mem hm
      rw [e] at e'; cases e'
      exact hnf _ dd
    have nfr := notFr fl3.2.2.1 he3 hd3
    have nL : a ≠ X.env.locals := fun z => nfr (List.mem_filterMap.mpr ⟨X.env, List.mem_cons_self, by rw [hf, z]⟩)
    have nF : a ∉ X.fs := fun hm => by
      obtain ⟨e, he, q⟩ := List.mem_filterMap.mp hm
      exact nfr (List.mem_filterMap.mpr ⟨e, List.mem_cons_of_mem _ he, q⟩)
    have S3 := J3.suite he3 hd3 na nL nF
    refine wpAny_handleBy_cons (codeAny_handlers_test ?_) (by intro q; cases q)
    have LT : PySem.W.Looks (model X.prog X.w) h3 (typeOf (.ref a)) cls := fun A Q E s k q => wpAny_typeOf_ref (k _ _ he3) (by rw [hz3.1]; exact q)
    have LM := PySem.W.exm_one (M := model X.prog X.w) (J3.kIn) LT hb1
    have test : ∀ {Q : Value → Shared → Prop} {E : Value → Shared → Prop}, Q c { s' with heap := h3 } → wpAny (model X.prog X.w) (X.A.mark (some (.ref a))) (eval (.Name x np) X.env) Q E { s' with heap := h3 } := fun {Q E} q => by
      obtain ⟨hg, hdbg, hm | ⟨hm, hv, hnn⟩⟩ := hc
      · exact ld_glob (X := X.suite a ((a, oe3) :: (X.pn ++ pins))) S3 hg hm q hdbg
      · exact ld_blt (X := X.suite a ((a, oe3) :: (X.pn ++ pins))) S3 hg hm hv q hnn hdbg
    refine test (LM.here ?_)
    cases b with
    | true =>
      refine codeAny_handlers_suite_as ?_
      refine HandSPX.lands_againZ fl3 fun h4 fl4 up4 => ?_
      have J4 : Inv X pins σ' H' { s' with heap := h4 } := J.landed nb fl4.1 ((up.trans up3).trans up4) os ag
      obtain ⟨oe4, vs4, he4, hz4, hd4⟩ := fl4.there
      have S4 := J4.suite he4 hd4 na nL nF
      refine store_ok (X := X.suite a ((a, oe4) :: (X.pn ++ pins))) (v := .ref a) S4 hN hi hloc rfl (fun s5 S5 => ?_) (.inr hln)
      refine wpAny_mono ((hsu a oe4 cls d (X.pn ++ pins) hz4 ⟨_, hd4⟩).run [] s5 _ H' _ S5 (hyes rfl a na)) (fun f s6 hsp => ?_) (fun _ _ z => False.elim z)
      have n0 : X.s_0.heap.get? a = none := by
        cases q : X.s_0.heap.get? a with
        | none => rfl
        | some o =>
          obtain ⟨o', e'⟩ := J.base.there a o q (by rw [hex]; simp)
          have z := nb a o' e' (by rw [hs]; exact nfr)
          rw [fl4.2.1] at z
          cases z
      have npn : ∀ p ∈ X.pn ++ pins, p.1 ≠ a := fun p hp z => by
        obtain ⟨e', _, _, _, _⟩ := J.pin p hp
        rw [z] at e'
        have z2 := nb a _ e' (by rw [hs]; exact nfr)
        rw [fl4.2.1] at z2
        cases z2
      have end_ : ∀ {σ6 : St} {H6 : Hp} {Q : Shared → Prop}, Inv (X.suite a ((a, oe4) :: (X.pn ++ pins))) [] σ6 H6 s6 → (∀ s7, Inv X pins (σ6.set i none) (upd H6 a (ExH cls d a)) s7 → Q s7) →
          wpAny (model X.prog X.w) X.A (do bindName X.env n .none; unbindBehindTheSuite X.env n pos') (fun _ s7 => Q s7) X.xe s6 := fun {σ6 H6 Q} S6 hq => by
        obtain ⟨p1, p2, p3, p4, p5⟩ := S6.pin (a, oe4) (List.mem_append_left _ List.mem_cons_self)
        have T6 : Inv X pins σ6 (upd H6 a (ExH cls d a)) s6 := inv_track (S6.unsuite ok) p1 hz4 hd4 p2 p3 n0 npn
        exact gone_ok T6 hN hi hln hq
      cases f with
      | next =>
        obtain ⟨σ6, H6, S6, q6⟩ := hsp
        exact end_ S6 fun s7 J7 => ⟨_, _, J7, q6⟩
      | brk =>
        obtain ⟨σ6, H6, S6, q6⟩ := hsp
        exact end_ S6 fun s7 J7 => ⟨_, _, J7, q6⟩
      | cont =>
        obtain ⟨σ6, H6, S6, q6⟩ := hsp
        exact end_ S6 fun s7 J7 => ⟨_, _, J7, q6⟩
      | ret u =>
        obtain ⟨v6, σ6, H6, S6, r6, q6⟩ := hsp
        exact end_ S6 fun s7 J7 => ⟨_, _, _, J7, r6, q6⟩
    | false =>
      show wpAny _ X.A (handleBy (.ref a) X.env []) _ _ _
      refine wpAny_handleBy_nil ?_
      obtain ⟨k1, k2, k3, oe, vs, T, oT, ts', he, hz, hd, h1, hr⟩ := id fl3
      unfold PySem.passOn
      refine wpAny_bind (wpAny_field he hd h1 ?_)
      rw [if_neg (show ¬ ((Value.ref T == Value.none) = true) from by simp)]
      have fin : wpAny (model X.prog X.w) X.A (setFlight (.ref a) X.env.frame) (fun _ s4 => wpAny (model X.prog X.w) X.A (throw (.ref a) : Sem Flow) (SP X pins D) X.xe s4) X.xe { s' with heap := h3 } := by
        rw [hf]
        refine HandSPX.setFlight_upZ fl3 fun h4 hh4 up4 => wpAny_throw (tk _ _ ?_)
        exact ⟨a, B, sI, pins, σ', H', cls, d, rfl, J, nb, (up.trans up3).trans up4, .inr (.inr (by rw [hs]; exact hh4)), na, os, ag, hno rfl⟩
      first
        | exact wpAny_bind (wpAny_pure (wpAny_bind fin))
        | exact wpAny_bind fin
  · cases f with
    | next =>
      obtain ⟨σ', H', J', q⟩ := hsp
      exact wpAny_execs_nil ⟨σ', H', J'.ofTry ok, q⟩
    | brk =>
      obtain ⟨σ', H', J', q⟩ := hsp
      exact ⟨σ', H', J'.ofTry ok, q⟩
    | cont =>
      obtain ⟨σ', H', J', q⟩ := hsp
      exact ⟨σ', H', J'.ofTry ok, q⟩
    | ret u =>
      obtain ⟨v, σ', H', J', r, q⟩ := hsp
      exact ⟨v, σ', H', J'.ofTry ok, r, q⟩
end
end Nw
set_option Elab.async false
set_option linter.all false
set_option maxRecDepth 100000
set_option maxHeartbeats 4000000
/-! Part Y: raise, try, draws, calls with new results. -/
namespace Nw
open PySem PySem.Spec L2
section
variable {S : Type}
def sRaise (c : Cl) : Sl → Mo S := fun r s => some (.thr ⟨c, []⟩ r, s)
/-- try: body / except c' as (slot i): (slot j) = (slot i) -/
def tryK (cs : List Cl) (c' : Cl) (i j : Nat) : Option (Flw × S) → Option (Flw × S)
  | some (.thr x r, s) => if x.c ∈ cs ∧ i < r.length then (if subC x.c c' = true then some (.next (((r.set i none).set j (some (.exc x.c x.fs))).set i none), s) else some (.thr x r, s)) else none
  | some (.next r, s) => some (.next r, s)
  | some (.rt d, s) => some (.rt d, s)
  | some (.brk r, s) => some (.brk r, s)
  | some (.cnt r, s) => some (.cnt r, s)
  | none => none
def sTryH (cs : List Cl) (c' : Cl) (i j : Nat) (f : Sl → Mo S) : Sl → Mo S := fun r s => tryK cs c' i j (f r s)
end
section
variable {X : Cx} {R : Reg} {W : WX} {fr : Bool} {O O' B : List Nat} {a b e o tg iter : Expr} {es : List Expr} {f g : Sl → M R.S D} {fb : Sl → Mo R.S} {fs : Sl → M R.S (List D)} {pos p apos cpos npos np pos' : Pos} {n i j : Nat} {x y z : Str} {body : List Stmt}
theorem ds_raise {m : Str} {jj : Nat} {p2 : Pos} (cx : Cxt X R W n) {c : Cl} (hx : c.name = x) (q : PySem.W.excIn X.K (eA X.K c) He.veBase "ValueError.__new__" = true) (gC : X.mg x = some (.ref (eA X.K c))) (kC : PySem.W.keepIn X.K (.ref (eA X.K c)) = true) (xc : XC X.K c) (hg : Gl X x) (hdb : (x == ("__debug__" : Str)) = false := by decide) :
    PS X (.Raise (some (.Call (.Name x p) [.Constant (.str m) jj p2] [] pos)) none pos') (tDS R W fr B O O' (sRaise c)) :=
  ps_imp (ps_raise cx.calm cx.tk (pmk_own PySem.F.excBase_ValueError q gC kC (raises_own xc.sub xc.ty) hg hdb)) fun E σ H h => by
  obtain ⟨F0, H0, F, r, s, w, st, sl, p⟩ := h
  obtain ⟨G, wG, stG, slG, sm, _⟩ := sl.all w st
  exact p σ G H _ _ wG stG slG ⟨by rw [cx.hK], .inl ⟨rfl, rfl⟩⟩
theorem Cxt.tr (cx : Cxt X R W n) {W' : WX} {pn : List (Addr × Obj)} {xe : Value → Shared → Prop} (tk : Takes (X.tr pn xe) W') : Cxt (X.tr pn xe) R W' n := ⟨cx.hK, tk, cx.hr, cx.nd, cx.calm⟩
theorem set_none_pu {F : Hp} {σ : L2.St} {r : Sl} (h : Pu R O F σ r) (v : Option V) : Pu R O F (σ.set i v) (r.set i none) := ⟨by rw [List.length_set, List.length_set]; exact h.len, fun k d hk e => by
  by_cases ek : i = k
  · subst ek
    by_cases hl : i < r.length
    · rw [List.getElem?_set_self hl] at e; cases e
    · rw [List.getElem?_eq_none (by rw [List.length_set]; omega)] at e; cases e
  · rw [List.getElem?_set_ne ek] at e ⊢
    exact h.at_ k d hk e⟩
theorem set_some_pu {F : Hp} {σ : L2.St} {r : Sl} (h : Pu R O F σ r) {d : D} {v : V} (rv : Rep R.K R.nm F d v) : Pu R O F (σ.set i (some v)) (r.set i (some d)) := ⟨by rw [List.length_set, List.length_set]; exact h.len, fun k d' hk e => by
  by_cases ek : i = k
  · subst ek
    by_cases hl : i < r.length
    · rw [List.getElem?_set_self hl] at e
      cases e
      exact ⟨v, List.getElem?_set_self (by rw [← h.len]; exact hl), rv⟩
    · rw [List.getElem?_eq_none (by rw [List.length_set]; omega)] at e; cases e
  · rw [List.getElem?_set_ne ek] at e ⊢
    exact h.at_ k d' hk e⟩
theorem slots_nil {H0 F H : Hp} {σ : L2.St} {r : Sl} (h : Pu R [] F σ r) : Slots R H0 [] F H σ r := ⟨h, fun _ _ z => absurd z (by simp), fun _ _ _ _ _ z => absurd z (by simp)⟩
/-- try: .. except c' as y: z = y -/
theorem ds_tryH {cs : List Cl} {c' : Cl} {q1 q2 q3 : Pos} (cx : Cxt X R W n) (xf : XF X.K cs) (hc' : c' ∈ cs) (hx : c'.name = x) (hex : X.ex = []) (hs : X.stack = X.env :: X.outer) (hf : X.env.frame = some X.env.locals) (hi : X.N[i]? = some y) (hln : X.env.kindOf y = some .local) (hj : X.N[j]? = some z) (hlz : X.env.scope.names.lookup z = some .local)
    (hg : Gl X x) (hm : X.mg x = some (.ref (eA X.K c'))) (hdy : (y == ("__debug__" : Str)) = false) (hcy : (y == ("__classdict__" : Str)) = false) (hsw : swapsWith (.Name y q2) (some (.Name z q1)) q3.line X.env = pure false) (hvy : Vis X.env.scope y)
    (hb : ∀ (W' : WX) (pn : List (Addr × Obj)) (xe : Value → Shared → Prop), Cxt (X.tr pn xe) R W' n → PassesOwn (model X.prog X.w) X.A X.env xe → PSs (X.tr pn xe) body (tDS R W' fr B [] [] fb)) (hdb : (x == ("__debug__" : Str)) = false := by decide) :
    PS X (.Try body [.ExceptHandler (some (.Name x np)) (some y) [.Assign [.Name z q1] (.Name y q2) q3] pos'] [] [] pos) (tDS R W fr B [] [] (sTryH cs c' i j fb)) := by
  have suite : ∀ (a : Addr) (oe : Obj) (cls : Value) (d : Option Addr) (pn : List (Addr × Obj)), Zc cls d oe → (∃ vs, oe.data = .fields vs) → PSs (X.suite a ((a, oe) :: pn)) [.Assign [.Name z q1] (.Name y q2) q3] (tAsg (tVar i) (gName j)) := fun a oe cls d pn _ _ =>
    pss_one (ps_set (X := X.suite a ((a, oe) :: pn)) cx.nd hj (.inl hlz) (pe_var hi hvy hdy hcy) hsw (.inr hlz))
  refine ps_imp (ps_try_asT hex hs hf cx.nd hi hln ⟨hg, hdb, .inl hm⟩ cx.tk (tb := fun W' => tDS R W' fr B [] [] fb) (fun W' pn xe tk po => hb W' pn xe (cx.tr tk) po) suite) fun E σ H h => ?_
  obtain ⟨F0, H0, F, r, s, w, st, sl, p⟩ := h
  refine ⟨F0, H0, F, r, s, w, st, sl, ?_⟩
  unfold sTryH at p
  cases ef : fb r s with
  | none => rw [ef] at p; exact p
  | some q =>
    obtain ⟨fl, s'⟩ := q
    rw [ef] at p
    cases fl with
    | next r' => exact p
    | rt d => exact p
    | brk r' => exact p
    | cnt r' => exact p
    | thr xx r' =>
      have p : PostS R fr F0 H0 (if xx.c ∈ cs ∧ i < r'.length then (if subC xx.c c' = true then some (.next (((r'.set i none).set j (some (.exc xx.c xx.fs))).set i none), s') else some (.thr xx r', s')) else none) E W B [] := p
      by_cases hcs : xx.c ∈ cs ∧ i < r'.length
      · rw [if_pos hcs] at p
        obtain ⟨hcs, hir⟩ := hcs
        intro σ' F' H' cls dd w' st' sl' rx
        have hcls : cls = .ref (eA X.K xx.c) := by rw [rx.1, cx.hK]
        refine ⟨subC xx.c c', by rw [hcls]; exact xf.exm _ hcs _ hc', fun hb2 ad had => ?_, fun hb2 => ?_⟩
        · rw [if_pos hb2] at p
          have st2 : Stp R F' H' (upd F' ad (ExH cls dd ad)) (upd H' ad (ExH cls dd ad)) := Stp.new _ had (w'.free had)
          have w2 : Wd R (upd F' ad (ExH cls dd ad)) (upd H' ad (ExH cls dd ad)) s' := w'.new _ had
          have pu2 := sl'.pu.mono st2.fs
          have rv : Rep R.K R.nm (upd F' ad (ExH cls dd ad)) (.exc xx.c xx.fs) (.ref ad) := by
            obtain ⟨h1, h2⟩ := rx.mono st2.fs
            refine ⟨ad, dd, rfl, by rw [upd_same, h1], ?_⟩
            rcases h2 with ⟨h3, h4⟩ | h2
            · exact .inl ⟨h3, h4⟩
            · exact .inr h2
          have hil : i < σ'.length := by rw [← sl'.pu.len]; exact hir
          refine ⟨.ref ad, List.getElem?_set_self hil, ?_⟩
          exact p _ _ _ w2 (st'.trans st2) (slots_nil (set_none_pu (set_some_pu (set_none_pu pu2 _) rv) _))
        · rw [if_neg (by rw [hb2]; exact Bool.false_ne_true)] at p
          exact p σ' F' H' cls dd w' st' sl' rx
      · rw [if_neg hcs] at p; exact p.elim
/-! ### new results -/
theorem df_lc {elt : Expr} {ifs : List Expr} {scope : Scope} {own : List (Str × Nat)} {it : Sl → M R.S (List D)} {gt : TG} {tgt : D → Sl → Option Sl} {t : Sl → M R.S Bool} (c : Cxt X R W n) (hi : PI X tg iter (tDI R W O it)) (ok : BlkOk X.N X.env.scope scope own) (hgs : TgSat R gt (own.map (·.2)) tgt)
    (hg : ∀ (s : Shared) (H : Hp) (C : Addr) (cl : List (Str × Addr)) (fp : List Addr), PG (X.blk s H scope (compEnvC scope cl C X.env) fp) tg gt)
    (ht : ∀ (s : Shared) (H : Hp) (C : Addr) (cl : List (Str × Addr)) (fp : List Addr), Cxt (X.blk s H scope (compEnvC scope cl C X.env) fp) R W0 n → PTs (X.blk s H scope (compEnvC scope cl C X.env) fp) ifs (tDT R W0 O t))
    (he : ∀ (s : Shared) (H : Hp) (C : Addr) (cl : List (Str × Addr)) (fp : List Addr), Cxt (X.blk s H scope (compEnvC scope cl C X.env) fp) R W0 n → PE (X.blk s H scope (compEnvC scope cl C X.env) fp) elt (tD R W0 O f)) (hs : ∀ x, foldedSetIterable iter X.env x = pure x := by intro _; rfl) :
    PE X (.ListComp elt [⟨tg, iter, ifs, 0⟩] scope pos) (tDF R W O (dLc it tgt t f)) :=
  pe_imp (pe_lc c.calm c.nd hi ok hg (fun s H C cl fp => ht s H C cl fp (c.blk _ _ _ _ _)) (fun s H C cl fp => he s H C cl fp (c.blk _ _ _ _ _)) hs) (sat_lcF hgs)
/-- a def whose result is new -/
def spF (R : Reg) (n : Nat) (g : List D → M R.S D) : Sp := fun vs H Q E => vs.length = n ∧ ∃ F s ds, Wd R F H s ∧ Reps R.K R.nm F ds vs ∧
  Post R F H (g ds s) (fun d _ F' H' => ∀ v, Fre R H F' H' d v → Q v H') (fun x _ F' H' => ∀ cls dd, RepX R.K R.nm F' x cls dd → E cls dd H')
def spPF (K : PySem.W.Frag) (n : Nat) (g : List D → M Unit D) : Sp := fun vs H Q E => ∃ nm, spF (R0 K nm) n g vs H Q E
def spTF (K : PySem.W.Frag) (n : Nat) (g : List D → M Nat D) : Sp := fun vs H Q E => ∃ T, spF (RT K T) n g vs H Q E
theorem spF_of {n : Nat} {g : List D → M R.S D} {vs : List V} {H : Hp} {Q : VK} {E : XK} (h : spD R n g vs H Q E) : spF R n g vs H Q E := by
  obtain ⟨hn, F, s, ds, w, rs, p⟩ := h
  refine ⟨hn, F, s, ds, w, rs, ?_⟩
  cases eg : g ds s with
  | ok d s' =>
    rw [eg] at p
    intro F' H' w' st' v fv
    obtain ⟨G, wG, stG, rG⟩ := fv.give w' st'
    exact p G H' wG stG v rG
  | exc x s' => rw [eg] at p; exact p
  | bot => rw [eg] at p; exact p
theorem fre_0 {nm : Nat → Option Addr} {K : PySem.W.Frag} (hK : R.K = K) (hnm : R.nm = nm) {F H F' H' : Hp} {s : R.S} {d : D} {v : V} (w : Wd R F H s) (h : Fre R H F' H' d v) : Fre (R0 K nm) H F' H' d v := by
  subst hK hnm
  cases d with
  | row ds => obtain ⟨a, e, h1, h2, h3, h4⟩ := h; exact ⟨a, e, h1, h2, fun z => z, h4⟩
  | tab ds => obtain ⟨a, e, h1, h2, h3, h4⟩ := h; exact ⟨a, e, h1, h2, fun z => z, h4⟩
  | _ => exact h
theorem fre_of_0 {F H F' H' : Hp} {s : R.S} {d : D} {v : V} (w : Wd R F H s) (h : Fre (R0 R.K R.nm) H F' H' d v) : Fre R H F' H' d v := by
  cases d with
  | row ds => obtain ⟨a, e, h1, h2, h3, h4⟩ := h; exact ⟨a, e, h1, h2, w.notMu h1, h4⟩
  | tab ds => obtain ⟨a, e, h1, h2, h3, h4⟩ := h; exact ⟨a, e, h1, h2, w.notMu h1, h4⟩
  | _ => exact h
theorem df_callP {k n : Nat} {g : List D → M Unit D} (c : Cxt X R W k) (h : Has X.prog X.w X.K X.mg X.base k x (spPF X.K n g)) (hg : Gl X x) (ha : PA X (e :: es) (tDA R W O fs)) (hdb : (x == ("__debug__" : Str)) = false := by decide)
    (he : starEach (e :: es) X.env = (false, eval e X.env) :: starEach es X.env := by rfl) (hpl : (backTo pos (starEach es X.env)).any (·.1) = false := by rfl) : PE X (.Call (.Name x p) (e :: es) [] pos) (tDF R W O (dCall n (fun ds => up (g ds)) fs)) := by
  obtain ⟨f, fd, ps, F, hm, hk, hb⟩ := h
  refine pe_imp (pe_callS F c.hr hg hm hk hb (fun σ => passAt c.tk σ) ha hdb he hpl) fun σ H Q h => ?_
  obtain ⟨F, ρ, s, w, pu, p⟩ := h
  refine ⟨F, ρ, s, w, pu, p.bnd.imp (fun ds s1 F1 H1 w1 st1 p1 vs rvs => ?_) fun _ _ _ _ _ _ z => z⟩
  by_cases hn : ds.length = n
  · rw [if_pos hn] at p1
    refine ⟨R.nm, by rw [rvs.length]; exact hn, F1, (), ds, ?_, ?_, ?_⟩
    · rw [← c.hK]; exact wd_0 w1
    · rw [← c.hK]; exact rvs
    · rw [← c.hK]
      have p2 := post_up (k := fun d F' H' => ∀ v, Fre R H F' H' d v → Q v H') (x := fun x F' H' => ∀ cls dd, RepX R.K R.nm F' x cls dd → W cls dd σ H') w1 p1
      exact p2.imp (fun d _ F' H' w' st' q v fv => q v ((fre_of_0 w1 fv).base st1.th)) fun _ _ _ _ _ _ z => z
  · rw [if_neg hn] at p1
    exact False.elim p1
end
/-! ### the law's draws -/
section
variable {X : Cx} {K : PySem.W.Frag} {T : Addr} {W : WX} {fr : Bool} {B O : List Nat} {pos apos cpos npos q1 : Pos} {i jj : Nat} {x : Str} {n : Nat} {p : Pos}
def isTown (r : Sl) (i : Nat) : Bool := match getS r i with
  | some (.obj 0) => true
  | _ => false
def sTown (i : Nat) : Sl → Mo Nat := fun r s => if isTown r i = true ∧ s < sizeLine then some (.next r, s + 1) else none
def dTown (i : Nat) : Sl → M Nat D := fun r s => if isTown r i = true then .ok (.int (s : Nat)) s else .bot
theorem town_at {O : List Nat} {F : Hp} {σ : L2.St} {r : Sl} (hO : i ∉ O) (pu : Pu (RT K T) O F σ r) (h : isTown r i = true) : σ[i]? = some (some (.ref T)) := by
  unfold isTown at h
  split at h
  · rename_i e
    obtain ⟨v, h1, a, h2, h3⟩ := pu.at_ i _ hO (getS_some e)
    have h2 : some T = some a := h2
    cases h2
    rw [h1, h3]
  · cases h
theorem ds_town (i : Nat) (hO : i ∉ O) (hN : X.N[i]? = some x) (hv : Vis X.env.scope x) (hd : (x == ("__debug__" : Str)) = false := by decide) (hcd : (x == ("__classdict__" : Str)) = false := by decide)
    (hbase : attributeBase (.Name x npos) "append" X.env (eval (.Name x npos) X.env) = eval (.Name x npos) X.env := by rfl)
    (hfew : ((backTo cpos (starEach [.Constant (.int 0) jj q1] X.env)).all (fun x => !x.1) && (backToKw cpos (keywordEach [] X.env)).all (fun x => x.1.isSome)
      && decide (([Expr.Constant (.int 0) jj q1] : List Expr).length + ([] : List Keyword).length + (if ([] : List Keyword).isEmpty then 0 else 1) < 30)) = true := by rfl)
    (hline : (apos.endLine == cpos.line) = true := by rfl) (hst : starEach [.Constant (.int 0) jj q1] X.env = (false, eval (.Constant (.int 0) jj q1) X.env) :: starEach [] X.env := by rfl) (hplain : (backTo cpos (starEach [] X.env)).any (·.1) = false := by rfl) (hs : swapsWith (.Call (.Attribute (.Name x npos) "append" apos) [.Constant (.int 0) jj q1] [] cpos) none pos.line X.env = pure false := by rfl) :
    PS X (.Expr (.Call (.Attribute (.Name x npos) "append" apos) [.Constant (.int 0) jj q1] [] cpos) pos) (tDS (RT K T) W fr B O O (sTown i)) :=
  ps_imp (ps_expr (pe_bm F.plainAttrs_list F.slot_list_append F.type_list_append mt_append (pe_var hN hv hd hcd) (pa_cons pe_int pa_nil hst) hbase hfew hline hst hplain) hs) fun E σ H h => by
  obtain ⟨F0, H0, F, r, s, w, st, sl, p⟩ := h
  have p : PostS (RT K T) fr F0 H0 (if isTown r i = true ∧ s < sizeLine then some (.next r, s + 1) else none) E W B O := p
  by_cases hh : isTown r i = true ∧ s < sizeLine
  · rw [if_pos hh] at p
    have h1 := town_at hO sl.pu hh.1
    obtain ⟨hT, hz⟩ := w.si
    refine ⟨_, h1, .inl ⟨rfl, _, SqL.of hT⟩, T, _, .int 0, rfl, rfl, hT, by rw [List.length_replicate]; exact hh.2, ?_⟩
    have nT : ∀ a, ¬ (RT K T).Mu a → a ≠ T := fun a h z => h z
    have fT : F T = none := w.mu T rfl
    refine p σ F _ ⟨fun a o q => ?_, w.mu, ⟨?_, ?_⟩⟩ ⟨st.fs, fun a o m q => ?_, st.nw, fun a q => ?_⟩ ⟨sl.pu, fun k d hk e => ?_, sl.sep⟩
    · rw [upd_ne fun z => by rw [z, fT] at q; cases q]; exact w.sub a o q
    · show upd H T _ T = _
      rw [upd_same, List.replicate_succ']
    · show s + 1 ≤ sizeLine
      exact hh.2
    · rw [upd_ne (nT a m)]; exact st.hs a o m q
    · by_cases e : a = T
      · rw [e, upd_same] at q; cases q
      · rw [upd_ne e] at q; exact st.th a q
    · obtain ⟨a, e1, e2⟩ := sl.ow k d hk e
      exact ⟨a, e1, e2.other (nT a e2.2.2.1)⟩
  · rw [if_neg hh] at p; exact p.elim
theorem de_lenT (i : Nat) (hO : i ∉ O) (hN : X.N[i]? = some x) (hv : Vis X.env.scope x) (hg : Gl X "len") (hm : X.mg "len" = none) (hd : (x == ("__debug__" : Str)) = false := by decide) (hcd : (x == ("__classdict__" : Str)) = false := by decide)
    (he : starEach [.Name x npos] X.env = (false, eval (.Name x npos) X.env) :: starEach [] X.env := by rfl) (hpl : (backTo pos (starEach [] X.env)).any (·.1) = false := by rfl) : PE X (.Call (.Name "len" p) [.Name x npos] [] pos) (tD (RT K T) W O (dTown i)) :=
  pe_imp (pe_callB call_len_seq hg hm (by decide +kernel) (pa_cons (pe_var hN hv hd hcd) pa_nil he) (by decide) (by decide) he hpl) fun σ H Q h => by
  obtain ⟨F, r, s, w, pu, p⟩ := h
  unfold dTown at p
  by_cases hh : isTown r i = true
  · rw [if_pos hh] at p
    obtain ⟨hT, hz⟩ := w.si
    refine ⟨_, town_at hO pu hh, T, _, rfl, .inl (SqL.of hT), ?_⟩
    rw [List.length_replicate]
    exact p F H w Stp.refl _ rfl
  · rw [if_neg hh] at p; exact p.elim
end
end Nw
set_option Elab.async false
set_option linter.all false
set_option maxRecDepth 100000
set_option maxHeartbeats 4000000
/-! Part Z: defs. -/
namespace Nw
open PySem PySem.Spec L2
section
variable {S : Type}
def startD (m : Nat) (ds : List D) : Sl := ds.map some ++ List.replicate (m - ds.length) none
def endK : Option (Flw × S) → Res S D
  | some (.rt d, s) => .ok d s
  | some (.next _, s) => .ok .non s
  | some (.thr x _, s) => .exc x s
  | _ => .bot
/-- what a def with m slots computes -/
def fnD (m : Nat) (g : Sl → Mo S) : List D → M S D := fun ds s => endK (g (startD m ds) s)
end
section
variable {R : Reg} {F H : Hp}
theorem start_pu {N : List Str} {ds : List D} {vs : List V} (rs : Reps R.K R.nm F ds vs) : Pu R [] F (start N vs) (startD N.length ds) := by
  have hl := rs.length
  refine ⟨?_, fun i d _ e => ?_⟩
  · unfold L2.start startD
    rw [List.length_append, List.length_append, List.length_map, List.length_map, List.length_replicate, List.length_replicate, hl]
  · unfold startD at e
    unfold L2.start
    by_cases hi : i < ds.length
    · rw [List.getElem?_append_left (by rw [List.length_map]; exact hi), List.getElem?_map] at e
      rw [List.getElem?_append_left (by rw [List.length_map, hl]; exact hi), List.getElem?_map]
      have e2 : ds[i]? = some d := by
        rw [List.getElem?_eq_getElem hi] at e ⊢
        simpa using e
      obtain ⟨v, h1, h2⟩ := rs.get e2
      exact ⟨v, by rw [h1]; rfl, h2⟩
    · rw [List.getElem?_append_right (by rw [List.length_map]; omega), List.length_map, List.getElem?_replicate] at e
      split at e <;> simp at e
end
section
variable {P : Program} {w : World} {K : PySem.W.Frag} {mg : Str → Option Value} {base : Heap} {x qual : Str} {params : Arguments} {body : List Stmt} {scope : Scope} {kws : List (Str × V)} {f : Addr} {fd : FuncData} {N ps : List Str} {k : Nat}
abbrev XO (P : Program) (w : World) (K : PySem.W.Frag) (mg : Str → Option Value) (base : Heap) (N : List Str) (qual : Str) (scope : Scope) (f : Addr) (cdv : Value) (A : Around) (outer : List Env) (s : Shared) (H : Hp) (E : XK) : Cx := cxOf (L2.CX P w) P w K mg base N qual scope f cdv A outer s H E
abbrev WO (E : XK) : WX := fun cls d _ H => E cls d H
/-- the body of a def, wherever it is called from -/
def BodyOk (P : Program) (w : World) (K : PySem.W.Frag) (mg : Str → Option Value) (base : Heap) (N : List Str) (qual : Str) (scope : Scope) (body : List Stmt) (k : Nat) (R : Reg) (fr : Bool) (O' : List Nat) (g : Sl → Mo R.S) : Prop :=
  ∀ (f : Addr) (cdv : Value) (A : Around) (outer : List Env) (s : Shared) (H : Hp) (E : XK), Cxt (XO P w K mg base N qual scope f cdv A outer s H E) R (WO E) k → PassesOwn (model P w) (XO P w K mg base N qual scope f cdv A outer s H E).A (XO P w K mg base N qual scope f cdv A outer s H E).env (XO P w K mg base N qual scope f cdv A outer s H E).xe →
    PSs (XO P w K mg base N qual scope f cdv A outer s H E) body (tDS R (WO E) fr [] [] O' g)
theorem body_run {R : Reg} {fr : Bool} {O' : List Nat} {g : Sl → Mo R.S} {vs : List V} {H F : Hp} {s' : R.S} {Q : VK} {E : XK} {ds : List D} (hw : Wd R F H s') (rs : Reps R.K R.nm F ds vs)
    (p : Post R F H (fnD N.length g ds s') (fun d _ F' H' => ∀ v, RetOk fr R H F' H' d v → Q v H') (fun x _ F' H' => ∀ cls dd, RepX R.K R.nm F' x cls dd → E cls dd H')) : tDS R (WO E) fr [] [] O' g { nx := fun _ H' => Q .non H', rt := Q } (start N vs) H := by
  refine ⟨F, H, F, startD N.length ds, s', hw, Stp.refl, slots_nil (start_pu rs), ?_⟩
  unfold fnD at p
  cases e : g (startD N.length ds) s' with
  | none => rw [e] at p; exact p
  | some q =>
    obtain ⟨fl, s2⟩ := q
    rw [e] at p
    cases fl with
    | next r => exact fun σ F' H' w' st' _ => p F' H' w' st' .non (by cases fr <;> exact rfl)
    | rt d => exact fun v F' H' w' st' rv => p F' H' w' st' v rv
    | brk r => exact p.elim
    | cnt r => exact p.elim
    | thr xx r => exact fun σ F' H' cls dd w' st' _ rx => p F' H' w' st' cls dd rx
theorem fn_run (F : FunD K x qual params body scope [] kws f fd) (S : FnScope N ps scope) {sp : Sp} (len : ∀ vs H Q E, sp vs H Q E → vs.length = ps.length)
    (hb : ∀ vs H Q E, sp vs H Q E → ∃ (R : Reg) (fr : Bool) (O' : List Nat) (g : Sl → Mo R.S), R.K = K ∧ BodyOk P w K mg base N qual scope body k R fr O' g ∧ tDS R (WO E) fr [] [] O' g { nx := fun _ H' => Q .non H', rt := Q } (start N vs) H) : FnOk P w K mg base (L2.CX P w) (k + 1) f fd ps sp := by
  refine F.ok S len fun cdv A outer s H vs Q E hr hsp => ?_
  obtain ⟨R, fr, O', g, hK, hB, ht⟩ := hb vs H Q E hsp
  exact ⟨_, hB f cdv A outer s H E ⟨hK, takes_of rfl rfl rfl rfl, hr, S.nd, rfl⟩ (passes_of rfl), ht⟩
theorem fn_P (F : FunD K x qual params body scope [] kws f fd) (S : FnScope N ps scope) {O' : List Nat} {g : Sl → Mo Unit} (hb : ∀ nm, BodyOk P w K mg base N qual scope body k (R0 K nm) false O' g) : FnOk P w K mg base (L2.CX P w) (k + 1) f fd ps (spP K ps.length (fnD N.length g)) :=
  fn_run F S (fun vs H Q E h => by obtain ⟨nm, hn, _⟩ := h; exact hn) fun vs H Q E h => by
    obtain ⟨nm, hn, G, s', ds, hw, rs, p⟩ := h
    exact ⟨R0 K nm, false, O', g, rfl, hb nm, body_run hw rs p⟩
theorem fn_PF (F : FunD K x qual params body scope [] kws f fd) (S : FnScope N ps scope) {O' : List Nat} {g : Sl → Mo Unit} (hb : ∀ nm, BodyOk P w K mg base N qual scope body k (R0 K nm) true O' g) : FnOk P w K mg base (L2.CX P w) (k + 1) f fd ps (spPF K ps.length (fnD N.length g)) :=
  fn_run F S (fun vs H Q E h => by obtain ⟨nm, hn, _⟩ := h; exact hn) fun vs H Q E h => by
    obtain ⟨nm, hn, G, s', ds, hw, rs, p⟩ := h
    exact ⟨R0 K nm, true, O', g, rfl, hb nm, body_run hw rs p⟩
theorem fn_T (F : FunD K x qual params body scope [] kws f fd) (S : FnScope N ps scope) {O' : List Nat} {g : Sl → Mo Nat} (hb : ∀ T, BodyOk P w K mg base N qual scope body k (RT K T) false O' g) : FnOk P w K mg base (L2.CX P w) (k + 1) f fd ps (spT K ps.length (fnD N.length g)) :=
  fn_run F S (fun vs H Q E h => by obtain ⟨nm, hn, _⟩ := h; exact hn) fun vs H Q E h => by
    obtain ⟨T, hn, G, s', ds, hw, rs, p⟩ := h
    exact ⟨RT K T, false, O', g, rfl, hb T, body_run hw rs p⟩
theorem fn_TF (F : FunD K x qual params body scope [] kws f fd) (S : FnScope N ps scope) {O' : List Nat} {g : Sl → Mo Nat} (hb : ∀ T, BodyOk P w K mg base N qual scope body k (RT K T) true O' g) : FnOk P w K mg base (L2.CX P w) (k + 1) f fd ps (spTF K ps.length (fnD N.length g)) :=
  fn_run F S (fun vs H Q E h => by obtain ⟨nm, hn, _⟩ := h; exact hn) fun vs H Q E h => by
    obtain ⟨T, hn, G, s', ds, hw, rs, p⟩ := h
    exact ⟨RT K T, true, O', g, rfl, hb T, body_run hw rs p⟩
/-- a promise of nothing -/
theorem fn_none {sp : Sp} (h : ∀ vs H Q E, ¬ sp vs H Q E) : FnOk P w K mg base (L2.CX P w) k f fd ps sp := ⟨fun vs H Q E z => (h vs H Q E z).elim, fun _ _ _ _ _ _ vs Q E _ _ _ _ z => (h _ _ _ _ z).elim⟩
def gBot {S : Type} : List D → M S D := fun _ => bot
theorem not_P {n : Nat} (vs : List V) (H : Hp) (Q : VK) (E : XK) : ¬ spP K n gBot vs H Q E := fun ⟨_, _, _, _, _, _, _, p⟩ => p
theorem not_PF {n : Nat} (vs : List V) (H : Hp) (Q : VK) (E : XK) : ¬ spPF K n gBot vs H Q E := fun ⟨_, _, _, _, _, _, _, p⟩ => p
theorem not_T {n : Nat} (vs : List V) (H : Hp) (Q : VK) (E : XK) : ¬ spT K n gBot vs H Q E := fun ⟨_, _, _, _, _, _, _, p⟩ => p
theorem not_TF {n : Nat} (vs : List V) (H : Hp) (Q : VK) (E : XK) : ¬ spTF K n gBot vs H Q E := fun ⟨_, _, _, _, _, _, _, p⟩ => p
theorem Has.imp {sp sp' : Sp} (h : Has P w K mg base k x sp) (i : ∀ vs H Q E, sp' vs H Q E → sp vs H Q E) : Has P w K mg base k x sp' := by
  obtain ⟨f, fd, ps, F, hm, hk, hb⟩ := h
  exact ⟨f, fd, ps, F.imp i, hm, hk, hb⟩
theorem Has.ofPF {n : Nat} {g : List D → M Unit D} (h : Has P w K mg base k x (spPF K n g)) : Has P w K mg base k x (spP K n g) := h.imp fun vs H Q E ⟨nm, h⟩ => ⟨nm, spF_of h⟩
theorem Has.ofTF {n : Nat} {g : List D → M Nat D} (h : Has P w K mg base k x (spTF K n g)) : Has P w K mg base k x (spT K n g) := h.imp fun vs H Q E ⟨nm, h⟩ => ⟨nm, spF_of h⟩
end
section
variable {X : Cx} {K : PySem.W.Frag} {T : Addr} {W : WX} {O : List Nat} {e : Expr} {es : List Expr} {fs : Sl → M Nat (List D)} {pos : Pos} {x : Str} {p : Pos}
theorem df_callT {k n : Nat} {g : List D → M Nat D} (c : Cxt X (RT K T) W k) (h : Has X.prog X.w X.K X.mg X.base k x (spTF X.K n g)) (hg : Gl X x) (ha : PA X (e :: es) (tDA (RT K T) W O fs)) (hdb : (x == ("__debug__" : Str)) = false := by decide)
    (he : starEach (e :: es) X.env = (false, eval e X.env) :: starEach es X.env := by rfl) (hpl : (backTo pos (starEach es X.env)).any (·.1) = false := by rfl) : PE X (.Call (.Name x p) (e :: es) [] pos) (tDF (RT K T) W O (dCall n g fs)) := by
  obtain ⟨f, fd, ps, F, hm, hk, hb⟩ := h
  have hK : K = X.K := c.hK
  subst hK
  refine pe_imp (pe_callS F c.hr hg hm hk hb (fun σ => passAt c.tk σ) ha hdb he hpl) fun σ H Q h => ?_
  obtain ⟨F, ρ, s, w, pu, p⟩ := h
  refine ⟨F, ρ, s, w, pu, p.bnd.imp (fun ds s1 F1 H1 w1 st1 p1 vs rvs => ?_) fun _ _ _ _ _ _ z => z⟩
  by_cases hn : ds.length = n
  · rw [if_pos hn] at p1
    exact ⟨T, by rw [rvs.length]; exact hn, F1, s1, ds, w1, rvs, p1.imp (fun d s2 F' H' w' st' q v fv => q v (fv.base st1.th)) fun _ _ _ _ _ _ z => z⟩
  · rw [if_neg hn] at p1
    exact False.elim p1
end
end Nw
set_option Elab.async false
set_option linter.all false
set_option maxRecDepth 100000
set_option maxHeartbeats 4000000
/-! Part AA: a table beside the empty one. -/
namespace Nw
open PySem PySem.Spec L2
def eqTD (neg : Bool) : D → D → Option D
  | .tab a, .tab [] => some (.bl (if neg then !a.isEmpty else a.isEmpty))
  | _, _ => none
def rEqT0 (neg : Bool) : R2 := fun x y H Q => ∃ p q kvs, x = .ref p ∧ y = .ref q ∧ Rd H p (.dK kvs) ∧ Rd H q (.dK []) ∧ Q (.bl (if neg then !kvs.isEmpty else kvs.isEmpty)) H
section
variable {X : Cx} {R : Reg} {W : WX}
theorem op_eqT (hu : X.A.units + 64 < cLine) (neg : Bool) : OpR X (compareOp (if neg then .NotEq else .Eq)) (rEqT0 neg) := by
  intro pins s σ H x y v u Q I rx ry h
  obtain ⟨p, q, kvs, rfl, rfl, h1, h2, k⟩ := h
  cases rx
  cases ry
  obtain ⟨_, lo1, vs1, rel1, d1⟩ := dk_rd I.hok h1
  obtain ⟨_, lo2, vs2, rel2, d2⟩ := dk_rd I.hok h2
  cases rel2
  have hl : kvs.length = vs1.length := rel1.length
  have hits : vs1.length = ([] : List (Key × Value)).length → PySem.W.KeqHits X.A.in1 s ([] : List (Key × Value)) vs1 true := fun e => by
    cases vs1 with
    | nil => exact .nil
    | cons a b => cases e
  have ee : (vs1.length == ([] : List (Key × Value)).length && true) = kvs.isEmpty := by
    rw [Bool.and_true]
    cases kvs with
    | nil => cases vs1 with
      | nil => rfl
      | cons a b => cases hl
    | cons a b => cases vs1 with
      | nil => cases hl
      | cons a b => rfl
  cases neg with
  | false => exact PySem.W.keq_eq lo1 lo2 d1 d2 (by omega) hits ⟨.bl kvs.isEmpty, H, I, by rw [ee]; rfl, k⟩
  | true => exact PySem.W.keq_ne lo1 lo2 d1 d2 (by omega) hits ⟨.bl (!kvs.isEmpty), H, I, by rw [ee]; rfl, k⟩
theorem sat_eqT (neg : Bool) : OpSat R (rEqT0 neg) (eqTD neg) := fun x y d e d' F H s Q w rx ry h k => by
  unfold eqTD at h
  split at h
  · rename_i kvs
    cases h
    obtain ⟨a, ws, rfl, h1, _, h3⟩ := rx
    obtain ⟨b, us, rfl, h4, _, h6⟩ := ry
    rw [show us = [] from h6] at h4
    refine ⟨a, b, ws, rfl, rfl, w.sub.dK h1, w.sub.dK h4, ?_⟩
    have e : ws.isEmpty = kvs.isEmpty := by
      have := h3.length
      cases ws <;> cases kvs <;> first | rfl | cases this
    rw [e]
    exact k _ F H w Stp.refl rfl
  · cases h
theorem ck_eqT {n : Nat} (c : Cxt X R W n) : CmpOk X R .Eq (eqTD false) := ⟨_, op_eqT c.hr.units false, sat_eqT false⟩
theorem ck_neT {n : Nat} (c : Cxt X R W n) : CmpOk X R .NotEq (eqTD true) := ⟨_, op_eqT c.hr.units true, sat_eqT true⟩
end
end Nw
set_option Elab.async false
set_option linter.all false
set_option maxRecDepth 100000
set_option maxHeartbeats 4000000
/-! Part BB: the law itself. -/
namespace Nw
open PySem PySem.Spec L2
section
variable {P : Program} {w : World} {K : PySem.W.Frag} {mg : Str → Option Value} {base : Heap} {k : Nat} {f : Addr} {fd : FuncData} {ps : List Str}
theorem fn_cx0 {sp : Sp} (F : FnOk P w K mg base (L2.CX P w) k f fd ps sp) (h : ∀ vs H Q E, sp vs H Q E → sp vs H Q E0) : FnOk P w K mg base CX0 k f fd ps sp :=
  ⟨F.len, fun A outer s H args us vs Q E hr e0 b r hsp => codeAny_mono (F.run A outer s H args us vs Q E0 hr e0 b r (h _ _ _ _ hsp)) fun rr s' hh => by
    cases rr with
    | ok fl => cases fl <;> exact hh
    | error e =>
      obtain ⟨_, _, _, _, _, _, _, _, _, _, _, _, z⟩ := (show L2.CX P w outer H s E0 e s' from hh)
      exact z.elim⟩
/-- the script, as the law gets it -/
def scriptD (ns : List Int) : D := .kro (ns.map D.int)
def spLaw (K : PySem.W.Frag) (m : Nat) : Sp := fun vs H Q _ => ∃ (a : Addr) (ns : List Int), vs = [.ref a] ∧ ns.length ≤ m ∧ SqL K H a (ns.map V.int) ∧ ∀ H', Q (.bl true) H'
/-- the law's slots behind town = [] -/
def lawSl (n : Nat) (ns : List Int) : Sl := (startD n [scriptD ns]).set 1 (some (.obj 0))
theorem fn_law {qual x : Str} {params : Arguments} {body rest : List Stmt} {scope : Scope} {kws : List (Str × V)} {N : List Str} {m : Nat} {q1 q2 q3 : Pos} {g : Sl → Mo Nat} (F : FunD K x qual params body scope [] kws f fd) (S : FnScope N ["script"] scope) (hb : body = .Assign [.Name "town" q1] (.List [] q2) q3 :: rest) (hN : N[1]? = some ("town" : Str))
    (hx : L2.Loc scope "town") (hr : ∀ T, BodyOk P w K mg base N qual scope rest k (RT K T) false [] g) (hm : m ≤ sizeLine)
    (hsw : ∀ f cdv A outer s H E, swapsWith (.List [] q2) (some (.Name "town" q1)) q3.line (XO P w K mg base N qual scope f cdv A outer s H E).env = pure false)
    (hg : ∀ ns : List Int, ns.length ≤ m → ∃ s', g (lawSl N.length ns) 0 = some (.rt (.bl true), s')) : FnOk P w K mg base CX0 (k + 1) f fd ["script"] (spLaw K m) := by
  refine fn_cx0 (F.ok S (fun vs H Q E h => ?_) fun cdv A outer s H vs Q E hrm hsp => ?_) fun vs H Q E h => h
  · obtain ⟨a, ns, rfl, _⟩ := h
    rfl
  · obtain ⟨a, ns, rfl, hl, hs, hQ⟩ := hsp
    have cx : ∀ T, Cxt (XO P w K mg base N qual scope f cdv A outer s H E) (RT K T) (WO E) k := fun T => ⟨rfl, takes_of rfl rfl rfl rfl, hrm, S.nd, rfl⟩
    refine ⟨tSeq (tAsg (tLst tNil) (gName 1)) (fun D σ H1 => ∃ T, tDS (RT K T) (WO E) false [] [] [] g D σ H1), ?_, ?_⟩
    · rw [hb]
      exact pss_cons (ps_set (X := XO P w K mg base N qual scope f cdv A outer s H E) S.nd hN hx (pe_lst pa_nil) (hsw _ _ _ _ _ _ _) (.inl rfl)) ⟨fun pins s1 σ H1 D I ⟨T, h⟩ => (hr T f cdv A outer s H E (cx T) (passes_of rfl)).run pins s1 σ H1 D I h⟩
    · obtain ⟨s', hs'⟩ := hg ns hl
      refine ⟨Nat.zero_le _, fun p hp => ⟨p, H, upd H p (.lst []), H, lawSl N.length ns, 0, ?_, Stp.refl, ?_, ?_⟩⟩
      · exact ⟨fun b o q => .inl (by rw [upd_ne (ne_of_none q hp)]; exact q), fun b m => by rw [show b = p from m]; exact hp, upd_same, Nat.zero_le _⟩
      · refine slots_nil (set_some_pu (start_pu (ds := [scriptD ns]) ⟨.ref a, [], rfl, ⟨a, _, rfl, hs, by rw [List.length_map]; exact Nat.le_trans hl hm, reps_ints ns⟩, rfl⟩) ⟨p, rfl, rfl⟩)
      · rw [hs']
        intro v F' H' w' st' rv
        rw [show v = .bl true from rv]
        exact hQ H'
end
end Nw
set_option Elab.async false
set_option linter.all false
set_option maxRecDepth 100000
set_option maxHeartbeats 4000000
/-! Part CC: more statements and methods. -/
namespace Nw
open PySem PySem.Spec L2
section
variable {X : Cx} {R : Reg} {W : WX} {fr : Bool} {O O' B : List Nat} {a b e o tg iter : Expr} {es : List Expr} {f g fk fv : Sl → M R.S D} {c : Sl → M R.S Bool} {fs : Sl → M R.S (List D)} {pos p apos cpos npos : Pos} {n i : Nat} {x : Str}
/-- x.extend(e), x an own list, e a list -/
theorem ds_ext (i : Nat) (hO : i ∈ O) (hN : X.N[i]? = some x) (hv : Vis X.env.scope x) (he : PE X e (tD R W O f)) (hd : (x == ("__debug__" : Str)) = false := by decide) (hcd : (x == ("__classdict__" : Str)) = false := by decide)
    (hbase : attributeBase (.Name x npos) "extend" X.env (eval (.Name x npos) X.env) = eval (.Name x npos) X.env := by rfl)
    (hfew : ((backTo cpos (starEach [e] X.env)).all (fun x => !x.1) && (backToKw cpos (keywordEach [] X.env)).all (fun x => x.1.isSome)
      && decide (([e] : List Expr).length + ([] : List Keyword).length + (if ([] : List Keyword).isEmpty then 0 else 1) < 30)) = true := by rfl)
    (hline : (apos.endLine == cpos.line) = true := by rfl) (hst : starEach [e] X.env = (false, eval e X.env) :: starEach [] X.env := by rfl) (hplain : (backTo cpos (starEach [] X.env)).any (·.1) = false := by rfl) (hs : swapsWith (.Call (.Attribute (.Name x npos) "extend" apos) [e] [] cpos) none pos.line X.env = pure false := by rfl) :
    PS X (.Expr (.Call (.Attribute (.Name x npos) "extend" apos) [e] [] cpos) pos) (tDS R W fr B O O (sOwn1 "list" i extD f)) :=
  ps_imp (ps_expr (pe_bm F.plainAttrs_list F.slot_list_extend F.type_list_extend mt_extend (pe_var hN hv hd hcd) (pa_cons he pa_nil hst) hbase hfew hline hst hplain) hs) fun E σ H h => by
  obtain ⟨F0, H0, F, r, s, w, st, sl, p⟩ := h
  obtain ⟨d, eg, p⟩ := opt_post p
  obtain ⟨d0, eg0, e2⟩ := bind_some eg
  obtain ⟨u, eu, e3⟩ := map_some e2
  have e3 : d0 = d := e3
  subst e3
  clear eg e2
  have eg := eg0
  obtain ⟨ad, h1, h2⟩ := sl.ow i d0 hO (getS_some eg)
  cases d0 with
  | row xs =>
    obtain ⟨ws0, e10, e20, e30⟩ := h2.2.2.2
    refine ⟨_, h1, .inl ⟨rfl, ws0, SqL.of e10⟩, F, r, s, w, sl.pu, (postS_x w st sl p).imp (fun v s1 F1 H1 w1 st1 q vv rv => ?_) fun _ _ _ _ _ _ z => z⟩
    obtain ⟨w2, st2, sl2, p2⟩ := q
    obtain ⟨d', ed, p4⟩ := put_post p2
    have h3 := h2.step st1
    obtain ⟨ws, e1, e2, e3⟩ := h3.2.2.2
    cases v with
    | row ys =>
      have ed : (if xs.length + ys.length ≤ sizeLine then some (D.row (xs ++ ys)) else none) = some d' := ed
      obtain ⟨bd, us, rfl, f1, f2, f3⟩ := rv
      by_cases hz : xs.length + ys.length ≤ sizeLine
      · rw [if_pos hz] at ed
        cases ed
        refine ⟨ad, bd, ws, us, rfl, rfl, e1, w2.sub.lst f1, by rw [e3.length, f3.length]; exact hz, ?_⟩
        obtain ⟨a1, a2, a3⟩ := own_write (o := .lst (ws ++ us)) w2 st2 sl2 hO (getS_some eg) h1 h3 (d' := .row (xs ++ ys)) ⟨_, rfl, by rw [List.length_append]; exact hz, e3.append f3⟩
        exact p4 σ F1 _ a1 a2 a3
      · rw [if_neg hz] at ed; cases ed
    | _ => cases ed
  | tab xs => cases eu
  | _ => exact h2.2.2.2.elim
/-! ### d.get(k), d.get(k, x) -/
def get1D : D → List D → Option D
  | .tab kvs, [k] => (keyD k).map fun k => (valD kvs k).getD .non
  | _, _ => none
def get2D : D → List D → Option D
  | .tab kvs, [k, x] => (keyD k).map fun k => (valD kvs k).getD x
  | _, _ => none
theorem mt_get1 (hu : X.A.units + 1 < cLine) : MtR X "dict.get" (fun x xs H Q => ∃ a y ov, x = .ref a ∧ xs = [y] ∧ DGet H a y ov ∧ Q (ov.getD .non) H) := by
  intro pins s σ H x xs v us Q I rx rxs h
  obtain ⟨a, y, ov, rfl, rfl, g, q⟩ := h
  cases rx
  obtain ⟨u, rfl, ru⟩ := rxs.one
  exact d_get1 hu I g ru fun w' s' I' rw' => ⟨_, H, I', rw', q⟩
theorem mt_get2 (hu : X.A.units + 1 < cLine) : MtR X "dict.get" (fun x xs H Q => ∃ a y z ov, x = .ref a ∧ xs = [y, z] ∧ DGet H a y ov ∧ Q (ov.getD z) H) := by
  intro pins s σ H x xs v us Q I rx rxs h
  obtain ⟨a, y, z, ov, rfl, rfl, g, q⟩ := h
  cases rx
  obtain ⟨u, u2, rfl, ru, ru2⟩ := rxs.two
  exact d_get2 hu I g ru ru2 fun w' s' I' rw' => ⟨_, H, I', rw', q⟩
theorem get_rep {F H : Hp} {kvs : List (Key × D)} {ws : List (Key × V)} {k : Key} {dz : D} {z : V} (rk : RepsK R.K R.nm F kvs ws) (rz : Rep R.K R.nm F dz z) : Rep R.K R.nm F ((valD kvs k).getD dz) ((valV ws k).getD z) := by
  rcases repsK_val k rk with ⟨h1, h2⟩ | ⟨d, v, h1, h2, h3⟩
  · rw [h1, h2]; exact rz
  · rw [h1, h2]; exact h3
theorem sat_get1 : MtSat R (fun x xs H Q => ∃ a y ov, x = .ref a ∧ xs = [y] ∧ DGet H a y ov ∧ Q (ov.getD .non) H) get1D := fun x xs d ds d' F H s Q w rx rs h k => by
  unfold get1D at h
  split at h
  · rename_i kvs kk
    obtain ⟨key, ek, rfl⟩ := map_some h
    obtain ⟨a, ws, rfl, h1, _, h3⟩ := rx
    obtain ⟨y, ys, rfl, ry, e2⟩ := rs
    rw [show ys = [] from e2]
    obtain ⟨q1, q2⟩ := keyD_ok ry ek
    exact ⟨a, y, valV ws key, rfl, rfl, .inl ⟨ws, key, w.sub.dK h1, q1, rfl⟩, k _ F H w Stp.refl (get_rep (H := H) h3 rfl)⟩
  · cases h
theorem sat_get2 : MtSat R (fun x xs H Q => ∃ a y z ov, x = .ref a ∧ xs = [y, z] ∧ DGet H a y ov ∧ Q (ov.getD z) H) get2D := fun x xs d ds d' F H s Q w rx rs h k => by
  unfold get2D at h
  split at h
  · rename_i kvs kk dz
    obtain ⟨key, ek, rfl⟩ := map_some h
    obtain ⟨a, ws, rfl, h1, _, h3⟩ := rx
    obtain ⟨y, ys, rfl, ry, z, zs, rfl, rz, e2⟩ := rs
    rw [show zs = [] from e2]
    obtain ⟨q1, q2⟩ := keyD_ok ry ek
    exact ⟨a, y, z, valV ws key, rfl, rfl, .inl ⟨ws, key, w.sub.dK h1, q1, rfl⟩, k _ F H w Stp.refl (get_rep (H := H) h3 rz)⟩
  · cases h
end
end Nw
set_option Elab.async false
set_option linter.all false
set_option maxRecDepth 100000
set_option maxHeartbeats 4000000
/-! Part DD: several names at once. -/
namespace Nw
open PySem PySem.Spec L2
def setAll : Sl → List Nat → List D → Sl
  | r, i :: is, d :: ds => setAll (r.set i (some d)) is ds
  | r, _, _ => r
def tgT (is : List Nat) : D → Sl → Option Sl := fun d r => match d with
  | .tup ds => if ds.length = is.length then some (setAll r is ds) else none
  | _ => none
def gNms : List Nat → TGs
  | [] => gNil
  | i :: is => gCons (gName i) (gNms is)
section
variable {R : Reg} {F H : Hp}
theorem setAt_refl {σ : L2.St} {r : Sl} : SetAt R F [] σ σ r r := ⟨rfl, rfl, fun _ _ => ⟨rfl, rfl⟩, fun j d h => absurd h (by simp)⟩
theorem SetAt.trans {i : Nat} {is : List Nat} {σ σ1 σ2 : L2.St} {r r1 r2 : Sl} (a : SetAt R F [i] σ σ1 r r1) (b : SetAt R F is σ1 σ2 r1 r2) : SetAt R F (i :: is) σ σ2 r r2 where
  len := b.len.trans a.len
  lenr := b.lenr.trans a.lenr
  off := fun j hj => by
    obtain ⟨h1, h2⟩ := b.off j fun z => hj (List.mem_cons_of_mem _ z)
    obtain ⟨h3, h4⟩ := a.off j fun z => hj (by rw [List.mem_singleton.mp z]; exact List.mem_cons_self)
    exact ⟨h1.trans h3, h2.trans h4⟩
  on := fun j d hj e => by
    by_cases hb : j ∈ is
    · exact b.on j d hb e
    · obtain ⟨h1, h2⟩ := b.off j hb
      rw [h2] at e
      rw [h1]
      rcases List.mem_cons.mp hj with hj | hj
      · exact a.on j d (by rw [hj]; exact List.mem_singleton.mpr rfl) e
      · exact absurd hj hb
theorem tgs_names : ∀ (is : List Nat) (ds : List D) (vs : List V) (σ : L2.St) (r : Sl) (Q : L2.St → Hp → Prop), Reps R.K R.nm F ds vs → r.length = σ.length → ds.length = is.length → (∀ σ', SetAt R F is σ σ' r (setAll r is ds) → Q σ' H) → gNms is vs σ H Q
  | [], [], vs, σ, r, Q, rs, hl, _, k => ⟨rs, k σ setAt_refl⟩
  | i :: is, d :: ds, vs, σ, r, Q, rs, hl, hn, k => by
    obtain ⟨v, ws, rfl, rv, rws⟩ := rs
    have s1 : SetAt R F [i] σ (σ.set i (some v)) r (r.set i (some d)) := setAt_one hl rv
    exact ⟨v, ws, rfl, tgs_names is ds ws (σ.set i (some v)) (r.set i (some d)) Q rws (by rw [List.length_set, List.length_set]; exact hl) (by simpa using hn) fun σ' s2 => k σ' (s1.trans s2)⟩
  | [], _ :: _, _, _, _, _, _, _, hn, _ => by simp at hn
  | _ :: _, [], _, _, _, _, _, _, hn, _ => by simp at hn
theorem tg_names {K : PySem.W.Frag} (is : List Nat) : TgSat R (gTup K is.length (gNms is)) is (tgT is) := fun v d σ r r' F H Q sb rv hl e k => by
  cases d with
  | tup ds =>
    have e : (if ds.length = is.length then some (setAll r is ds) else none) = some r' := e
    by_cases hn : ds.length = is.length
    · rw [if_pos hn] at e
      cases e
      obtain ⟨a, vs, rfl, h1, _, h3⟩ := rv
      exact ⟨a, vs, rfl, SqT.of (sb.tup h1), by rw [h3.length, hn], tgs_names is ds vs σ r Q h3 hl hn k⟩
    · rw [if_neg hn] at e; cases e
  | _ => cases e
end
section
variable {X : Cx} {R : Reg} {W : WX} {fr : Bool} {O O' B : List Nat} {e tg o : Expr} {f fe : Sl → M R.S D} {fs : Sl → M R.S (List D)} {pos apos cpos : Pos} {n : Nat} {es : List Expr}
/-- a, b = e -/
theorem ds_asg {gt : TG} {vs : List Nat} {tgt : D → Sl → Option Sl} (hg : PG X tg gt) (hgs : TgSat R gt vs tgt) (he : PE X e (tD R W O fe)) (h1 : ∀ j ∈ O', j ∈ O ∧ j ∉ vs) (h2 : ∀ j ∈ O, j ∉ vs → j ∈ O') (hs : swapsWithSole [tg] e pos.line X.env = pure false := by rfl) (hw : swappedStores [tg] e X.env = pure none := by rfl) (ha : (assignEach [tg] X.env).map (·.2) = [assign tg X.env] := by rfl) :
    PS X (.Assign [tg] e pos) (tDS R W fr B O O' (sAsg tgt fe)) := ps_imp (ps_asg he hg hs hw ha) (sat_asg hgs h1 h2)
/-- d.get(k), d.get(k, x) -/
theorem de_get1 (c : Cxt X R W n) (ho : PE X o (tD R W O f)) (ha : PA X [e] (tDA R W O fs))
    (hbase : attributeBase o "get" X.env (eval o X.env) = eval o X.env := by rfl)
    (hfew : ((backTo cpos (starEach [e] X.env)).all (fun x => !x.1) && (backToKw cpos (keywordEach [] X.env)).all (fun x => x.1.isSome)
      && decide (([e] : List Expr).length + ([] : List Keyword).length + (if ([] : List Keyword).isEmpty then 0 else 1) < 30)) = true := by rfl)
    (hline : (apos.endLine == cpos.line) = true := by rfl) (hst : starEach [e] X.env = (false, eval e X.env) :: starEach [] X.env := by rfl) (hplain : (backTo cpos (starEach [] X.env)).any (·.1) = false := by rfl) :
    PE X (.Call (.Attribute o "get" apos) [e] [] cpos) (tD R W O (dMt "dict" get1D f fs)) := de_mt PySem.F.plainAttrs_dict PySem.F.slot_dict_get PySem.F.type_dict_get (mt_get1 (by have := c.hr.units; omega)) c.hK sat_get1 ho ha hbase hfew hline hst hplain
theorem de_get2 {e2 : Expr} (c : Cxt X R W n) (ho : PE X o (tD R W O f)) (ha : PA X [e, e2] (tDA R W O fs))
    (hbase : attributeBase o "get" X.env (eval o X.env) = eval o X.env := by rfl)
    (hfew : ((backTo cpos (starEach [e, e2] X.env)).all (fun x => !x.1) && (backToKw cpos (keywordEach [] X.env)).all (fun x => x.1.isSome)
      && decide (([e, e2] : List Expr).length + ([] : List Keyword).length + (if ([] : List Keyword).isEmpty then 0 else 1) < 30)) = true := by rfl)
    (hline : (apos.endLine == cpos.line) = true := by rfl) (hst : starEach [e, e2] X.env = (false, eval e X.env) :: starEach [e2] X.env := by rfl) (hplain : (backTo cpos (starEach [e2] X.env)).any (·.1) = false := by rfl) :
    PE X (.Call (.Attribute o "get" apos) [e, e2] [] cpos) (tD R W O (dMt "dict" get2D f fs)) := de_mt PySem.F.plainAttrs_dict PySem.F.slot_dict_get PySem.F.type_dict_get (mt_get2 (by have := c.hr.units; omega)) c.hK sat_get2 ho ha hbase hfew hline hst hplain
end
end Nw
set_option Elab.async false
set_option linter.all false
set_option maxRecDepth 100000
set_option maxHeartbeats 4000000
/-! Part EE: copies of tables. -/
namespace Nw
open PySem PySem.Spec L2
section
variable {X : Cx} {R : Reg} {W : WX} {O : List Nat} {o : Expr} {f : Sl → M R.S D} {apos cpos : Pos} {n : Nat}
theorem mt_copyD : MtR X "dict.copy" (fun x xs H Q => ∃ a kvs, x = .ref a ∧ xs = [] ∧ Rd H a (.dK kvs) ∧ ∀ p, H p = none → Q (.ref p) (upd H p (.dK kvs))) := by
  intro pins s σ H x xs v us Q I rx rxs h
  obtain ⟨a, kvs, rfl, rfl, hd, q⟩ := h
  cases rx
  cases rxs
  obtain ⟨z, lo, vs, rel, dd⟩ := dk_rd I.hok hd
  have hm : (s.heap.objs.size == sysModules) = false := beq_eq_false_iff_ne.mpr (Nat.ne_of_gt I.big)
  refine call_meetsIn PySem.F.slot_dict_copy dd.typeIs PySem.F.entry_dict_copy (PySem.F.args_dict_copy_1 _) (meets_dict_copy (mixKind X.prog X.w) a lo) ⟨vs, dd, by rw [← rel.length]; exact z, fun h' d' _ hs => ?_⟩
  exact ⟨.ref s.heap.objs.size, upd H s.heap.objs.size (.dK kvs), I.laid (t' := s.toks) hs (Nat.le_refl _)
    (show ObjOk X.prog X.w _ _ _ (.dK kvs) from ⟨z, hm, vs, rel, d'⟩), rfl, q _ (I.hok.fresh (Nat.le_refl _))⟩
def copyTD : D → Option D
  | .tab kvs => some (.tab kvs)
  | _ => none
theorem df_copy (c : Cxt X R W n) (ho : PE X o (tD R W O f)) (hbase : attributeBase o "copy" X.env (eval o X.env) = eval o X.env := by rfl) (hline : (apos.endLine == cpos.line) = true := by rfl) :
    PE X (.Call (.Attribute o "copy" apos) [] [] cpos) (tDF R W O (dUn copyTD f)) :=
  pe_imp (pe_bw0 PySem.F.plainAttrs_dict PySem.F.slot_dict_copy PySem.F.type_dict_copy mt_copyD ho hbase hline) fun σ H Q h => by
    obtain ⟨F, ρ, s, w, pu, p⟩ := h
    refine ⟨F, ρ, s, w, pu, p.bnd.imp (fun d s1 F1 H1 w1 st1 p1 v rv => ?_) fun _ _ _ _ _ _ z => z⟩
    obtain ⟨d', e', k⟩ := p1.lift
    cases d with
    | tab kvs =>
      cases e'
      obtain ⟨a, ws, rfl, h1, h2, h3⟩ := rv
      have hr := w1.sub.dK h1
      refine ⟨.inr ⟨rfl, a, ws, rfl, hr⟩, a, ws, rfl, rfl, hr, fun q hq => ?_⟩
      obtain ⟨g1, g2, g3⟩ := fre_tab w1 st1 hq h2 h3
      exact k F1 _ g1 (Stp.newH _ hq) _ g3
    | _ => cases e'
end
end Nw
set_option Elab.async false
set_option linter.all false
set_option maxRecDepth 100000
set_option maxHeartbeats 4000000
/-! Part FF: max, min. -/
namespace Nw
open PySem PySem.Spec L2
def maxL : Int → List Int → Int
  | m, [] => m
  | m, x :: r => maxL (if x > m then x else m) r
def minL : Int → List Int → Int
  | m, [] => m
  | m, x :: r => minL (if x < m then x else m) r
theorem maxL_spec : ∀ (r : List Int) (m : Int), (maxL m r = m ∨ maxL m r ∈ r) ∧ m ≤ maxL m r ∧ ∀ y ∈ r, y ≤ maxL m r
  | [], m => ⟨.inl rfl, Int.le_refl _, fun y hy => by cases hy⟩
  | x :: r, m => by
    obtain ⟨h1, h2, h3⟩ := maxL_spec r (if x > m then x else m)
    have e : maxL m (x :: r) = maxL (if x > m then x else m) r := rfl
    rw [e]
    by_cases hx : x > m
    · rw [if_pos hx] at h1 h2 h3 ⊢
      refine ⟨?_, by omega, fun y hy => ?_⟩
      · rcases h1 with h1 | h1
        · rw [h1]; exact .inr List.mem_cons_self
        · exact .inr (List.mem_cons_of_mem _ h1)
      · rcases List.mem_cons.mp hy with rfl | hy
        · exact h2
        · exact h3 y hy
    · rw [if_neg hx] at h1 h2 h3 ⊢
      refine ⟨h1.imp id (List.mem_cons_of_mem _), h2, fun y hy => ?_⟩
      rcases List.mem_cons.mp hy with rfl | hy
      · omega
      · exact h3 y hy
theorem minL_spec : ∀ (r : List Int) (m : Int), (minL m r = m ∨ minL m r ∈ r) ∧ minL m r ≤ m ∧ ∀ y ∈ r, minL m r ≤ y
  | [], m => ⟨.inl rfl, Int.le_refl _, fun y hy => by cases hy⟩
  | x :: r, m => by
    obtain ⟨h1, h2, h3⟩ := minL_spec r (if x < m then x else m)
    have e : minL m (x :: r) = minL (if x < m then x else m) r := rfl
    rw [e]
    by_cases hx : x < m
    · rw [if_pos hx] at h1 h2 h3 ⊢
      refine ⟨?_, by omega, fun y hy => ?_⟩
      · rcases h1 with h1 | h1
        · rw [h1]; exact .inr List.mem_cons_self
        · exact .inr (List.mem_cons_of_mem _ h1)
      · rcases List.mem_cons.mp hy with rfl | hy
        · exact h2
        · exact h3 y hy
    · rw [if_neg hx] at h1 h2 h3 ⊢
      refine ⟨h1.imp id (List.mem_cons_of_mem _), h2, fun y hy => ?_⟩
      rcases List.mem_cons.mp hy with rfl | hy
      · omega
      · exact h3 y hy
def maxD : List D → Option D
  | [.row ds] => (intsD ds).bind fun ns => match ns with | [] => none | n :: r => some (.int (maxL n r))
  | [.int i, .int j] => some (.int (if j > i then j else i))
  | _ => none
def minD : List D → Option D
  | [.row ds] => (intsD ds).bind fun ns => match ns with | [] => none | n :: r => some (.int (minL n r))
  | [.int i, .int j] => some (.int (if j < i then j else i))
  | _ => none
section
variable {X : Cx} {R : Reg} {W : WX} {O : List Nat} {e : Expr} {es : List Expr} {fs : Sl → M R.S (List D)} {pos : Pos} {n : Nat}
theorem call_maxA (hc : X.calm = true) : CallR X (.builtin "max") (fun xs H Q => rMax X.K xs H Q ∨ ∃ i j, xs = [.int i, .int j] ∧ Q (.int (if j > i then j else i)) H) := fun pins s σ H xs us Q I rs q => q.elim (cr_max hc pins s σ H xs us Q I rs) (call_max2 hc pins s σ H xs us Q I rs)
theorem call_minA (hc : X.calm = true) : CallR X (.builtin "min") (fun xs H Q => rMin X.K xs H Q ∨ ∃ i j, xs = [.int i, .int j] ∧ Q (.int (if j < i then j else i)) H) := fun pins s σ H xs us Q I rs q => q.elim (cr_min hc pins s σ H xs us Q I rs) (call_min2 hc pins s σ H xs us Q I rs)
theorem sat_max : CallSat R (fun xs H Q => rMax R.K xs H Q ∨ ∃ i j, xs = [.int i, .int j] ∧ Q (.int (if j > i then j else i)) H) maxD := fun xs ds d' F H s Q w rs h k => by
  unfold maxD at h
  split at h
  · rename_i ds
    obtain ⟨ns, e1, h⟩ := bind_some h
    cases ns with
    | nil => cases h
    | cons a r =>
      cases h
      rw [intsD_some e1] at rs
      obtain ⟨v, ws, rfl, ⟨p, vs, rfl, h1, _, h2⟩, e2⟩ := rs
      rw [show ws = [] from e2]
      refine .inl ⟨p, a :: r, rfl, by rw [← reps_int h2]; exact SqL.of (w.sub.lst h1), Nat.succ_pos _, fun m hm hall => ?_⟩
      obtain ⟨s1, s2, s3⟩ := maxL_spec r a
      have e3 : m = maxL a r := by
        have g1 : maxL a r ≤ m := by
          rcases s1 with s1 | s1
          · rw [s1]; exact hall a List.mem_cons_self
          · exact hall _ (List.mem_cons_of_mem _ s1)
        have g2 : m ≤ maxL a r := by
          rcases List.mem_cons.mp hm with rfl | hm
          · exact s2
          · exact s3 m hm
        omega
      exact k _ F H w Stp.refl (by rw [e3]; rfl)
  · cases h
    obtain ⟨v, ws, rfl, rfl, u, us, rfl, rfl, e2⟩ := rs
    rw [show us = [] from e2]
    exact .inr ⟨_, _, rfl, k _ F H w Stp.refl rfl⟩
  · cases h
theorem sat_min : CallSat R (fun xs H Q => rMin R.K xs H Q ∨ ∃ i j, xs = [.int i, .int j] ∧ Q (.int (if j < i then j else i)) H) minD := fun xs ds d' F H s Q w rs h k => by
  unfold minD at h
  split at h
  · rename_i ds
    obtain ⟨ns, e1, h⟩ := bind_some h
    cases ns with
    | nil => cases h
    | cons a r =>
      cases h
      rw [intsD_some e1] at rs
      obtain ⟨v, ws, rfl, ⟨p, vs, rfl, h1, _, h2⟩, e2⟩ := rs
      rw [show ws = [] from e2]
      refine .inl ⟨p, a :: r, rfl, by rw [← reps_int h2]; exact SqL.of (w.sub.lst h1), Nat.succ_pos _, fun m hm hall => ?_⟩
      obtain ⟨s1, s2, s3⟩ := minL_spec r a
      have e3 : m = minL a r := by
        have g1 : m ≤ minL a r := by
          rcases s1 with s1 | s1
          · rw [s1]; exact hall a List.mem_cons_self
          · exact hall _ (List.mem_cons_of_mem _ s1)
        have g2 : minL a r ≤ m := by
          rcases List.mem_cons.mp hm with rfl | hm
          · exact s2
          · exact s3 m hm
        omega
      exact k _ F H w Stp.refl (by rw [e3]; rfl)
  · cases h
    obtain ⟨v, ws, rfl, rfl, u, us, rfl, rfl, e2⟩ := rs
    rw [show us = [] from e2]
    exact .inr ⟨_, _, rfl, k _ F H w Stp.refl rfl⟩
  · cases h
theorem de_max {p : Pos} (c : Cxt X R W n) (hg : Gl X "max") (hm : X.mg "max" = none) (ha : PA X (e :: es) (tDA R W O fs)) (he : starEach (e :: es) X.env = (false, eval e X.env) :: starEach es X.env := by rfl) (hpl : (backTo pos (starEach es X.env)).any (·.1) = false := by rfl) :
    PE X (.Call (.Name "max" p) (e :: es) [] pos) (tD R W O (dAll maxD fs)) := de_callB (call_maxA c.calm) (by rw [← c.hK]; exact sat_max) hg hm (by decide +kernel) ha (he := he) (hpl := hpl)
theorem de_min {p : Pos} (c : Cxt X R W n) (hg : Gl X "min") (hm : X.mg "min" = none) (ha : PA X (e :: es) (tDA R W O fs)) (he : starEach (e :: es) X.env = (false, eval e X.env) :: starEach es X.env := by rfl) (hpl : (backTo pos (starEach es X.env)).any (·.1) = false := by rfl) :
    PE X (.Call (.Name "min" p) (e :: es) [] pos) (tD R W O (dAll minD fs)) := de_callB (call_minA c.calm) (by rw [← c.hK]; exact sat_min) hg hm (by decide +kernel) ha (he := he) (hpl := hpl)
end
end Nw
set_option Elab.async false
set_option linter.all false
set_option maxRecDepth 100000
set_option maxHeartbeats 4000000
/-! Part GG: try without a name. -/
namespace Nw
open PySem PySem.Spec L2
section
variable {S : Type}
def tryO (cs : List Cl) (c' : Cl) (g : Sl → Mo S) : Option (Flw × S) → Option (Flw × S)
  | some (.thr x r, s) => if x.c ∈ cs then (if subC x.c c' = true then g r s else some (.thr x r, s)) else none
  | some (.next r, s) => some (.next r, s)
  | some (.rt d, s) => some (.rt d, s)
  | some (.brk r, s) => some (.brk r, s)
  | some (.cnt r, s) => some (.cnt r, s)
  | none => none
def sTryO (cs : List Cl) (c' : Cl) (f g : Sl → Mo S) : Sl → Mo S := fun r s => tryO cs c' g (f r s)
end
section
variable {X : Cx} {R : Reg} {W : WX} {fr : Bool} {B : List Nat} {fb fg : Sl → Mo R.S} {pos np pos' : Pos} {n : Nat} {x : Str} {body suite : List Stmt} {b₀ : Stmt}
theorem ds_tryO {cs : List Cl} {c' : Cl} (cx : Cxt X R W n) (xf : XF X.K cs) (hc' : c' ∈ cs) (hx : c'.name = x) (hs : X.stack = X.env :: X.outer) (hf : X.env.frame = some X.env.locals)
    (hg : Gl X x) (hm : X.mg x = some (.ref (eA X.K c')))
    (hb : ∀ (W' : WX) (pn : List (Addr × Obj)) (xe : Value → Shared → Prop), Cxt (X.tr pn xe) R W' n → PassesOwn (model X.prog X.w) X.A X.env xe → PSs (X.tr pn xe) body (tDS R W' fr B [] [] fb))
    (hsu : ∀ (a : Addr) (oe : Obj) (pn : List (Addr × Obj)), PSs (X.suite a ((a, oe) :: pn)) (b₀ :: suite) (tDS R W fr B [] [] fg)) (hdb : (x == ("__debug__" : Str)) = false := by decide) :
    PS X (.Try body [.ExceptHandler (some (.Name x np)) none (b₀ :: suite) pos'] [] [] pos) (tDS R W fr B [] [] (sTryO cs c' fb fg)) := by
  refine ps_imp (ps_try_only hs hf ⟨hg, hdb, .inl hm⟩ cx.tk (tb := fun W' => tDS R W' fr B [] [] fb) (fun W' pn xe tk po => hb W' pn xe (cx.tr tk) po) (fun a oe cls d pn _ _ => hsu a oe pn)) fun E σ H h => ?_
  obtain ⟨F0, H0, F, r, s, w, st, sl, p⟩ := h
  refine ⟨F0, H0, F, r, s, w, st, sl, ?_⟩
  unfold sTryO at p
  cases ef : fb r s with
  | none => rw [ef] at p; exact p
  | some q =>
    obtain ⟨fl, s'⟩ := q
    rw [ef] at p
    cases fl with
    | next r' => exact p
    | rt d => exact p
    | brk r' => exact p
    | cnt r' => exact p
    | thr xx r' =>
      have p : PostS R fr F0 H0 (if xx.c ∈ cs then (if subC xx.c c' = true then fg r' s' else some (.thr xx r', s')) else none) E W B [] := p
      by_cases hcs : xx.c ∈ cs
      · rw [if_pos hcs] at p
        intro σ' F' H' cls dd w' st' sl' rx
        have hcls : cls = .ref (eA X.K xx.c) := by rw [rx.1, cx.hK]
        refine ⟨subC xx.c c', by rw [hcls]; exact xf.exm _ hcs _ hc', fun hb2 ad had => ?_, fun hb2 => ?_⟩
        · rw [if_pos hb2] at p
          exact ⟨F0, H0, F', r', s', w', st', sl', p⟩
        · rw [if_neg (by rw [hb2]; exact Bool.false_ne_true)] at p
          exact p σ' F' H' cls dd w' st' sl' rx
      · rw [if_neg hcs] at p; exact p.elim
end
end Nw
set_option Elab.async false
set_option linter.all false
set_option maxRecDepth 100000
set_option maxHeartbeats 4000000
/-! Part HH: a comprehension into a local name. -/
namespace Nw
open PySem PySem.Spec L2
section
variable {X : Cx} {R : Reg} {W : WX} {fr : Bool} {O O' B : List Nat} {elt iter tg : Expr} {ifs : List Expr} {scope : Scope} {own : List (Str × Nat)} {it : Sl → M R.S (List D)} {g : TG} {tgt : D → Sl → Option Sl} {t : Sl → M R.S Bool} {f : Sl → M R.S D} {n i : Nat} {y : Str} {py pos spos : Pos}
theorem ds_setLc (c : Cxt X R W n) (i : Nat) (hy : X.N[i]? = some y) (hyl : X.env.scope.names.lookup y = some .local) (hi : PI X tg iter (tDI R W O it)) (ok : BlkOk X.N X.env.scope scope own) (hgs : TgSat R g (own.map (·.2)) tgt)
    (hg : ∀ (s : Shared) (H : Hp) (C : Addr) (cl : List (Str × Addr)) (fp : List Addr), PG (X.blk s H scope (compEnvC scope cl C X.env) fp) tg g)
    (ht : ∀ (s : Shared) (H : Hp) (C : Addr) (cl : List (Str × Addr)) (fp : List Addr), Cxt (X.blk s H scope (compEnvC scope cl C X.env) fp) R W0 n → PTs (X.blk s H scope (compEnvC scope cl C X.env) fp) ifs (tDT R W0 O t))
    (he : ∀ (s : Shared) (H : Hp) (C : Addr) (cl : List (Str × Addr)) (fp : List Addr), Cxt (X.blk s H scope (compEnvC scope cl C X.env) fp) R W0 n → PE (X.blk s H scope (compEnvC scope cl C X.env) fp) elt (tD R W0 O f))
    (h1 : ∀ j ∈ O', j ∈ O ∧ j ∉ [i]) (h2 : ∀ j ∈ O, j ∉ [i] → j ∈ O') (hsw : swapsWith (.ListComp elt [⟨tg, iter, ifs, 0⟩] scope pos) (some (.Name y py)) spos.line X.env = pure true := by rfl) (hs : ∀ x, foldedSetIterable iter X.env x = pure x := by intro _; rfl) :
    PS X (.Assign [.Name y py] (.ListComp elt [⟨tg, iter, ifs, 0⟩] scope pos) spos) (tDS R W fr B O O' (sAsg (tgN i) (dLc it tgt t f))) :=
  ps_imp (ps_setLc c.calm c.nd hy hyl hsw hi ok hg (fun s H C cl fp => ht s H C cl fp (c.blk _ _ _ _ _)) (fun s H C cl fp => he s H C cl fp (c.blk _ _ _ _ _)) hs) fun E σ H h => sat_lc hgs σ H _ (sat_asg tg_name h1 h2 E σ H h)
end
end Nw
set_option Elab.async false
set_option linter.all false
set_option maxRecDepth 100000
set_option maxHeartbeats 4000000
/-! Part II: a result that may be new. -/
namespace Nw
open PySem PySem.Spec L2
section
variable {X : Cx} {R : Reg} {W : WX} {fr : Bool} {O O1 O' B : List Nat} {e : Expr} {rest : List Stmt} {f : Sl → M R.S D} {g : Sl → Mo R.S} {pos pos' : Pos} {i : Nat} {x : Str}
theorem pss_or2 {st : List Stmt} {t t' : TS} (h : PSs X st t) (h' : PSs X st t') : PSs X st (fun D σ H => t D σ H ∨ t' D σ H) := ⟨fun pins s σ H D I q => q.elim (h.run pins s σ H D I) (h'.run pins s σ H D I)⟩
theorem dss_setM (i : Nat) (hN : X.N.Nodup) (hi : X.N[i]? = some x) (hx : Loc X.env.scope x) (he : PE X e (tDF R W O f)) (hiO : i ∉ O) (hO : i ∈ O1) (h1 : ∀ j ∈ O1, j = i ∨ j ∈ O) (h2 : ∀ j ∈ O, j ≠ i → j ∈ O1)
    (ha : PSs X rest (tDS R W fr B O1 O' g)) (hb : PSs X rest (tDS R W fr B O O' g)) (hs : swapsWith e (some (.Name x pos')) pos.line X.env = pure false := by rfl) (hf : X.fn x = true ∨ X.env.scope.names.lookup x = some .local := by first | exact .inl rfl | exact .inr rfl | assumption) :
    PSs X (.Assign [.Name x pos'] e pos :: rest) (tDS R W fr B O O' (sSeq (sAsg (tgN i) f) g)) := pss_imp (pss_cons (ps_set hN hi hx he hs hf) (pss_or2 ha hb)) fun E σ H h => by
  obtain ⟨F0, H0, F, r, s, w, st, sl, p⟩ := h
  have ep : sSeq (sAsg (tgN i) f) g r s = liftX (f r) r (fun d s => g (r.set i (some d)) s) s := by
    unfold sSeq sAsg liftX
    cases f r s <;> rfl
  rw [ep] at p
  refine ⟨F, r, s, w, sl.pu, (postS_x w st sl p).imp (fun d s1 F1 H1 w1 st1 q v fv => ?_) fun _ _ _ _ _ _ z => z⟩
  obtain ⟨w2, st2, sl2, p2⟩ := q
  cases er : isRT d with
  | true =>
    obtain ⟨q, rfl, hq⟩ := fv.own er
    have hqq : OwnAt R H0 F1 H1 q d := ⟨st.th q hq.1, hq.2⟩
    refine .inl ⟨F0, H0, F1, _, s1, w2, st2, sl2.setO hO h1 h2 hqq fun j d' ad hj ne e1 e2 ea => ?_, p2⟩
    subst ea
    obtain ⟨ad', e3, h4⟩ := sl.ow j d' hj e1
    rw [e2] at e3
    cases e3
    obtain ⟨o, ho⟩ := h4.there
    rw [hq.1] at ho
    cases ho
  | false =>
    have rv : Rep R.K R.nm F1 d v := by
      cases d with
      | row ds => cases er
      | tab ds => cases er
      | _ => exact fv
    exact .inr ⟨F0, H0, F1, _, s1, w2, st2, sl2.setAt (setAt_one sl2.pu.len rv) (fun j hj => ⟨hj, fun z => hiO (by rw [← List.mem_singleton.mp z]; exact hj)⟩) fun j hj _ => hj, p2⟩
end
end Nw
set_option Elab.async false
set_option linter.all false
set_option maxRecDepth 100000
set_option maxHeartbeats 4000000
/-! Part JJ: sorted(set(list)), keys that are texts or ints. -/
namespace Nw
open PySem PySem.Spec L2 PyProof.Rows
/-! ### a set of keys that can be walked -/
def kyM (e : Int × Value) : Key := match e.2 with | .int k _ => .inl k | .str x _ => .inr x | _ => .inl 0
def GdM (w : World) (e : Int × Value) : Prop := keyIs (kyM e) e.2 = true ∧ e.1 = keyH w (kyM e)
def SetM (w : World) (h : Heap) (a : Addr) (L : List Key) : Prop :=
  ∃ o es ep t, h.get? a = some o ∧ o.ExactSet ∧ o.data = .set es ep t ∧ (∀ e ∈ es.toList, GdM w e) ∧ (es.toList.map kyM).Nodup ∧ (∀ k, k ∈ L ↔ k ∈ es.toList.map kyM) ∧
    es.size < scanBound ∧ t.fits es.size = true ∧ es.size ≤ L.length ∧ Ris t.place.toList ∧ (w.params.followText "set-order" = true ∨ t.led = true)
section
variable {P : Program} {w : World} {h h' : Heap} {a : Addr} {L : List Key}
theorem SetM.at (R : SetM w h a L) (k : ∀ o, h.get? a = some o → h'.get? a = some o) : SetM w h' a L := by
  obtain ⟨o, es, ep, t, ho, r⟩ := R; exact ⟨o, es, ep, t, k o ho, r⟩
theorem kyM_of {k : Key} {v : Value} {i : Int} (h : keyIs k v = true) : kyM (i, v) = k := by
  rcases keyIs_shape h with ⟨j, t, rfl, rfl⟩ | ⟨x, t, rfl, rfl⟩ <;> rfl
theorem gdM_el {l : List (Int × Value)} (g : ∀ e ∈ l, GdM w e) : ElemsOf (mixKind P w) l := fun e he => by
  obtain ⟨h1, h2⟩ := g e he
  refine ⟨⟨kyM e, h1, h2⟩, ?_⟩
  rcases keyIs_shape h1 with ⟨j, t, _, e2⟩ | ⟨x, t, _, e2⟩ <;> rw [e2] <;> rfl
theorem gdM_is {e : Int × Value} (g : GdM w e) (k : Key) : (mixKind P w).is k e.2 = true ↔ kyM e = k := by
  constructor
  · intro q
    obtain ⟨i, v⟩ := e
    exact kyM_of q
  · intro q
    rw [← q]; exact g.1
theorem gdM_mem {l : List (Int × Value)} (g : ∀ e ∈ l, GdM w e) (k : Key) : k ∈ l.map kyM ↔ ∃ e ∈ l, (mixKind P w).is k e.2 = true := by
  rw [List.mem_map]
  exact ⟨fun ⟨e, he, q⟩ => ⟨e, he, (gdM_is (g e he) k).2 q⟩, fun ⟨e, he, q⟩ => ⟨e, he, (gdM_is (g e he) k).1 q⟩⟩
end
section
variable {P : Program} {w : World} {A : Around} {E : Value → Shared → Prop} {s : Shared} {a : Addr} {L : List Key}
theorem setM_tail {g : Bool → Sem Unit} (hg : ∀ (b : Bool) (s₁ : Shared) (Q' : Unit → Shared → Prop), Q' () s₁ → wpAny (model P w) A (g b) Q' E s₁)
    {o : Obj} {es : Array (Int × Value)} {ep : Nat} {t : SetTable} (ho : s.heap.get? a = some o) (hex : o.ExactSet) (hd : o.data = .set es ep t)
    {es1 : Array (Int × Value)} {t2 : SetTable} {L' : List Key} (g1 : ∀ e ∈ es1.toList, GdM w e) (nd1 : (es1.toList.map kyM).Nodup) (m1 : ∀ k, k ∈ L' ↔ k ∈ es1.toList.map kyM) (hz1 : es1.size ≤ L'.length)
    (hb1 : es1.size < scanBound) (hf2 : t2.fits es1.size = true) (hr : Ris t2.place.toList) (hl : w.params.followText "set-order" = true ∨ t2.led = true) {wasDummy : Bool} {R : Option Bool → Shared → Prop}
    (hR : ∀ h', Heap.SameBut a s.heap h' → SetM w h' a L' → R (some true) { s with heap := h' }) :
    wpAny (model P w) A (do
        storeSet a es1 t2
        if (!wasDummy && t2.tooFull) = true then do
            g (relayAll t2 es1 (SetTable.grown es1.size)).2.2
            storeSet a (relayAll t2 es1 (SetTable.grown es1.size)).1 (relayAll t2 es1 (SetTable.grown es1.size)).2.1
            pure (some true)
          else pure (some true)) R E s := by
  refine wpAny_bind (wpAny_storeSet_of ho hd ?_ (fits_of_scanBound hb1))
  have ho1 := store_at (es' := es1) (t' := t2) ho hd
  have sb1 := Heap.SameBut.update s.heap a (Obj.putSet es1 t2)
  split
  · have pm := relayAll_perm t2 es1 (SetTable.grown es1.size)
    have hf3 := relayAll_fits t2 es1 (SetTable.grown es1.size)
    have hr3 := relayAll_ris t2 es1 (SetTable.grown es1.size)
    have hl3 := relayAll_led t2 es1 (SetTable.grown es1.size)
    generalize relayAll t2 es1 (SetTable.grown es1.size) = Z at pm hf3 hr3 hl3 ⊢
    obtain ⟨es2, t3, gave⟩ := Z
    dsimp only at pm hf3 hr3 hl3 ⊢
    have hsz : es2.size = es1.size := by rw [← Array.length_toList, pm.length_eq, Array.length_toList]
    have hb2 : es2.size < scanBound := by rw [hsz]; exact hb1
    refine wpAny_bind (hg _ _ _ ?_)
    refine wpAny_bind (wpAny_storeSet_of ho1 rfl ?_ (fits_of_scanBound hb2))
    have ho2 := store_at (es' := es2) (t' := t3) ho1 rfl
    refine wpAny_pure (hR _ (sb1.trans (Heap.SameBut.update _ a _)) ?_)
    exact ⟨_, es2, _, t3, ho2, hex, rfl, fun e he => g1 e (pm.mem_iff.mp he), (pm.map kyM).nodup_iff.mpr nd1, fun k => (m1 k).trans (pm.map kyM).mem_iff.symm, hb2, hf3, by rw [hsz]; exact hz1, hr3,
      hl.imp id fun z => by rw [hl3]; exact z⟩
  · exact wpAny_pure (hR _ sb1 ⟨_, es1, _, t2, ho1, hex, rfl, g1, nd1, m1, hb1, hf2, hz1, hr, hl⟩)
theorem setM_add {k : Key} {v : Value} {Q : Bool → Shared → Prop} (R : SetM w s.heap a L) (hkey : keyIs k v = true) (room : L.length + 1 < scanBound)
    (hQ : ∀ h' b, Heap.SameBut a s.heap h' → SetM w h' a (L ++ [k]) → Q b { s with heap := h' }) :
    wpAny (model P w) A (setAddHashed a v ((mixKind P w).hash k)) Q E s := by
  obtain ⟨o, es, ep, t, ho, hex, hd, g, nd, hm, hb, hf, hn, hr, hl⟩ := R
  have hsc : v.scannable = true := by rcases keyIs_shape hkey with ⟨j, t, _, e2⟩ | ⟨x, t, _, e2⟩ <;> rw [e2] <;> rfl
  have hel : ElemsOf (mixKind P w) es.toList := gdM_el g
  unfold setAddHashed setAddHashedIn
  refine wpAny_holding (wpAny_bind (wpAny_setState_of ho hd hf ?_))
  dsimp only
  rw [byScan_of hsc hb hel]
  simp only [↓reduceIte]
  unfold setAddByScan
  refine wpAny_bind (wpAny_bind (wpAny_rule ?_))
  refine wpAny_bind (wpAny_setScan_of (knd := mixKind P w) hkey ho hd hf hel ?_)
  cases hfi : List.findIdx? (fun e => (mixKind P w).is k e.2) es.toList with
  | some j =>
    dsimp only
    obtain ⟨hj, pj, _⟩ := List.findIdx?_eq_some_iff_getElem.mp hfi
    have hkL : k ∈ L := (hm k).2 ((gdM_mem (P := P) g k).2 ⟨es.toList[j], List.getElem_mem hj, pj⟩)
    refine wpAny_pure (wpAny_pure ?_)
    exact hQ s.heap _ (Heap.SameBut.refl a s.heap) ⟨o, es, ep, t, ho, hex, hd, g, nd, fun i => by
      rw [← hm i, List.mem_append, List.mem_singleton]
      exact ⟨fun z => z.elim id (fun e => e ▸ hkL), .inl⟩, hb, hf, by rw [List.length_append]; exact Nat.le_trans hn (Nat.le_add_right _ _), hr, hl⟩
  | none =>
    dsimp only
    have hnk : k ∉ es.toList.map kyM := fun z => by
      obtain ⟨e, he, q⟩ := (gdM_mem (P := P) g k).1 z
      have c := List.findIdx?_eq_none_iff.mp hfi e he
      rw [q] at c; cases c
    have hgw : ∀ (b : Bool) {s₁ : Shared} {Q' : Unit → Shared → Prop}, Q' () s₁ → wpAny (model P w) A (match b with | true => rule "set.scan.the-table-gave-way" | false => pure ()) Q' E s₁ :=
      fun b s₁ Q' q => by cases b <;> first | exact wpAny_pure q | exact wpAny_rule q
    have pm := layNew_perm t es ((mixKind P w).hash k) v
    have hf1 := layNew_fits t es ((mixKind P w).hash k) v
    have hr1 := layNew_ris t es ((mixKind P w).hash k) v hr
    have hl1 := layNew_led t es ((mixKind P w).hash k) v
    generalize layNew t es ((mixKind P w).hash k) v = Z at pm hf1 hr1 hl1 ⊢
    obtain ⟨es1, t1, wasDummy, gave⟩ := Z
    dsimp only at pm hf1 hr1 hl1 ⊢
    rw [Array.toList_push] at pm
    have pc : es1.toList.Perm (((mixKind P w).hash k, v) :: es.toList) := pm.trans (List.perm_append_singleton _ _)
    have pk : (es1.toList.map kyM).Perm (k :: es.toList.map kyM) := by
      have q := pc.map kyM
      rw [List.map_cons, kyM_of hkey] at q
      exact q
    have g1 : ∀ e ∈ es1.toList, GdM w e := fun e he => by
      rcases List.mem_cons.mp (pc.mem_iff.mp he) with z | z
      · rw [z]
        refine ⟨?_, ?_⟩
        · rw [kyM_of hkey]; exact hkey
        · rw [kyM_of hkey]; rfl
      · exact g e z
    have nd1 : (es1.toList.map kyM).Nodup := pk.nodup_iff.mpr (List.nodup_cons.mpr ⟨hnk, nd⟩)
    have m1 : ∀ i, i ∈ L ++ [k] ↔ i ∈ es1.toList.map kyM := fun i => by
      rw [List.mem_append, List.mem_singleton, hm i, pk.mem_iff, List.mem_cons]
      exact Or.comm
    have hsz : es1.size = es.size + 1 := by rw [← Array.length_toList, pc.length_eq, List.length_cons, Array.length_toList]
    have hz1 : es1.size ≤ (L ++ [k]).length := by rw [hsz, List.length_append]; exact Nat.succ_le_succ hn
    have hb1 : es1.size < scanBound := by rw [hsz]; omega
    have hled : w.params.followText "set-order" = true ∨ t1.led = true := hl.imp id fun z => by rw [hl1]; exact z
    refine wpAny_bind (hgw _ ?_)
    split
    · refine wpAny_bind ?_
      rw [hashByValue_scannable 8 hsc]
      refine wpAny_pure ?_
      refine setM_tail ?_ ho hex hd g1 nd1 m1 hz1 hb1 ?_ ?_ ?_ ?_
      · intro b s₁ Q' q; cases b <;> first | exact wpAny_pure q | exact wpAny_rule q
      · first | (split <;> first | exact hf1 | exact SetTable.fits_plain_off hf1) | exact hf1
      · first | (split <;> exact hr1) | exact hr1
      · first | (split <;> exact hled) | exact hled
      · intro h' sb r; dsimp only; exact wpAny_pure (hQ h' _ sb r)
    · refine wpAny_bind (wpAny_pure ?_)
      simp only [↓reduceIte]
      refine setM_tail ?_ ho hex hd g1 nd1 m1 hz1 hb1 hf1 hr1 hled ?_
      · intro b s₁ Q' q; cases b <;> first | exact wpAny_pure q | exact wpAny_rule q
      · intro h' sb r; dsimp only; exact wpAny_pure (hQ h' _ sb r)
theorem setM_fresh {h : Heap} {a : Addr} (w : World) (ho : h.get? a = some { cls := .type "set", dict := none, data := .set #[] 0 (.fresh 0 0 (!w.params.followText "set-order")) }) : SetM w h a [] :=
  ⟨_, #[], 0, _, ho, ⟨rfl, rfl, rfl⟩, rfl, (fun e he => by simp at he), (by simp), (fun k => by simp), (by decide), (by rfl), Nat.le_refl _, List.Pairwise.nil, by
    show _ ∨ (!w.params.followText "set-order") = true
    cases w.params.followText "set-order"
    · exact .inr rfl
    · exact .inl rfl⟩
theorem setM_loop {I : Addr} {fp wr : List Addr} {G : Array GenState → Array GenState → Prop} {n : Nat} {Pv : Nat → Value → Prop} {St : Nat → Shared → Prop} {R : Result → Shared → Prop}
    (W : WalksS P w A.in1 I fp wr G n Pv St) (S : Addr) (hSf : S ∉ fp) (ks : List Key) (hn : n = ks.length) (hb : ks.length + 1 < scanBound) (hval : ∀ i v, Pv i v → ∃ k, ks[i]? = some k ∧ keyIs k v = true) :
    ∀ (k i : Nat) (s : Shared), n - i = k → i ≤ n → St i s → SetM w s.heap S (ks.take i) → (∀ s', Moved (S :: wr) G s s' → SetM w s'.heap S ks → R (.ok (.ret .none)) s') →
      codeAny (model P w) A (.builtin "set.update.loop" ⟨[.ref S, .ref I], []⟩) R s := by
  have hSw : S ∉ wr := fun h => hSf (W.sub _ h)
  have hsub : ∀ b ∈ wr, b ∈ S :: wr := fun b hb => List.mem_cons_of_mem _ hb
  intro k
  induction k with
  | zero =>
    intro i s hk' hi hst hS hR
    have hin : i = n := by omega
    subst hin
    refine codeAny_builtin F.entry_set_update_loop ?_
    rw [Around.under_plainId F.plain_set_update_loop _]
    show wpAny _ A.in1 (pyNext (.ref I) >>= _) _ _ s
    refine wpAny_bind (W.done s _ _ hst fun s' hm => ?_)
    show wpAny _ A.in1 (PySem.ret Value.none) _ _ s'
    rw [hn, List.take_length] at hS
    exact wpAny_pure (hR s' (hm.mono hsub) (hS.at fun o e => hm.heap S o hSw e))
  | succ k ih =>
    intro i s hk' hi hst hS hR
    have hlt : i < n := by omega
    refine codeAny_builtin F.entry_set_update_loop ?_
    rw [Around.under_plainId F.plain_set_update_loop _]
    show wpAny _ A.in1 (pyNext (.ref I) >>= _) _ _ s
    refine wpAny_bind (W.item i s _ _ hlt hst fun v s' hP hst' hm => ?_)
    obtain ⟨p, hp, hkv⟩ := hval i v hP
    have hS' : SetM w s'.heap S (ks.take i) := hS.at fun o e => hm.heap S o hSw e
    show wpAny _ A.in1 (holding [v] (setAdd S v) >>= _) _ _ s'
    refine wpAny_bind (wpAny_holding ?_)
    unfold setAdd
    refine wpAny_holding ?_
    refine wpAny_bind ((mixKind P w).pyHash (k := p) hkv ?_)
    refine setM_add (s := { s' with toks := s'.toks + 1 }) hS' hkv (by rw [List.length_take]; omega) fun h' b hsb hS2 => ?_
    rw [show ks.take i ++ [p] = ks.take (i + 1) by rw [List.take_succ, hp]; rfl] at hS2
    refine wpAny_pure ⟨plainId_quiet F.plain_set_update_loop _, ih (i + 1) _ (by omega) hlt (W.frame _ s' _ _ hst' (Nat.le_add_right _ _) fun b hb o e => ?_) hS2 fun s'' hm'' hS'' => ?_⟩
    · rw [hsb.2 b (fun h : b = S => hSf (by rw [← h]; exact hb))]; exact e
    · refine hR s'' (Moved.trans W.gtrans ((hm.mono hsub).then_heap (Nat.le_add_right _ _) fun b o hb e => ?_) hm'') hS''
      rw [hsb.2 b (fun h : b = S => hb (by rw [h]; exact List.mem_cons_self))]; exact e
theorem call_setM {l : Addr} {items : Array Value} (ks : List Key) {Q : Value → Shared → Prop} (hh : A.handled = none) (hl : s.heap.IsList l items) (hit : ∀ (i : Nat) (v : Value), items[i]? = some v → ∃ k, ks[i]? = some k ∧ keyIs k v = true) (hisz : items.size = ks.length)
    (hb : ks.length + 1 < scanBound)
    (h : ∀ (h' : Heap) (tk : Nat), SetM w h' s.heap.objs.size ks → (∀ b o, s.heap.get? b = some o → h'.get? b = some o) → Q (.ref s.heap.objs.size) { s with heap := h', toks := tk }) :
    wpAny (model P w) A (call (.type "set") [.ref l]) Q E s := by
  obtain ⟨c, tl, hmro⟩ := F.called_set.mro
  have hmade := F.called_set.made
  have hsub := F.called_set.sub
  refine wpAny_call (codeAny_of_tree ?_)
  show wpAny _ _ (callAny (.type "set") _) _ _ _
  refine wpAny_pure ⟨Code.quiet_builtin _ (by decide +kernel), codeAny_builtin F.entry_type_call ?_⟩
  rw [Around.under_plain (weight_type_call_type "set" [.ref l] []) rfl]
  have h1 := F.called_set.notType
  have h2 := F.called_set.canCreate
  have hct := F.typeCall_set_1 (.ref l)
  repeat (any_goals (first | assumption | wp_step))
  refine codeAny_mono (code_set_led1 (.ref l) (E := E) (Q₁ := fun obj s₁ => obj = .ref s.heap.objs.size ∧ s₁ = { s with heap := s.heap.push { cls := .type "set", dict := none, data := .set #[] 0 (.fresh 0 0 (!w.params.followText "set-order")) } }) ⟨rfl, rfl⟩) fun r s₁ hr => ?_
  cases r with
  | error e => exact hr
  | ok fl =>
    cases fl with
    | ret obj =>
      obtain ⟨rfl, rfl⟩ := hr
      have hS : (s.heap.push { cls := .type "set", dict := none, data := .set #[] 0 (.fresh 0 0 (!w.params.followText "set-order")) }).get? s.heap.objs.size = some { cls := .type "set", dict := none, data := .set #[] 0 (.fresh 0 0 (!w.params.followText "set-order")) } := Heap.get?_push_size _ rfl
      have hT : Shared.TypeIs { s with heap := s.heap.push { cls := .type "set", dict := none, data := .set #[] 0 (.fresh 0 0 (!w.params.followText "set-order")) } } (.ref s.heap.objs.size) "set" := ⟨_, hS, rfl⟩
      have hli := F.called_set.init.lookup
      have hbi := F.called_set.init.bind (.ref s.heap.objs.size)
      repeat (any_goals (first | assumption | wp_step))
      refine codeAny_mono (codeAny_call_builtin (R := wants (fun r s₂ => r = .none ∧ ∃ h' tk, s₂ = { s with heap := h', toks := tk } ∧ SetM w h' s.heap.objs.size ks ∧ (∀ b o, s.heap.get? b = some o → h'.get? b = some o)) E) F.called_set.init.plain F.entry_set_init (check_set_init_1 hT ?_)) fun r₂ s₂ hr₂ => ?_
      · obtain ⟨ol, hol, hcl, nl, hdl⟩ := hl
        obtain ⟨ocls, odict, odata, oslots⟩ := ol
        simp only at hcl hdl
        subst hcl; subst hdl
        have hol' : (s.heap.push { cls := .type "set", dict := none, data := .set #[] 0 (.fresh 0 0 (!w.params.followText "set-order")) }).get? l = some { cls := .type "list", dict := odict, data := .seq items nl, slots := oslots } := Heap.get?_push_of_some _ hol
        have hsls := F.sub_list_set
        have hslf := F.sub_list_frozenset
        have hne : (Value.type "list" == Value.type "dict") = false := by decide
        have hl1 : (s.heap.push { cls := .type "set", dict := none, data := .set #[] 0 (.fresh 0 0 (!w.params.followText "set-order")) }).IsList l items := ⟨_, hol', rfl, nl, rfl⟩
        unfold Builtin.«set.__init__» noKeywords Builtin.Frozenset.updateFrom
        generalize hPI : pyIter = PI
        wp_walk
        subst hPI
        refine wpAny_pyIter_list hl1 ?_
        refine wpAny_bind (wpAny_runValue ?_)
        have hlS : l < s.heap.objs.size := Heap.lt_size hol
        have hh3 : A.in1.in1.in1.handled = none := by simp [hh]
        have hneI : l ≠ (s.heap.push { cls := .type "set", dict := none, data := .set #[] 0 (.fresh 0 0 (!w.params.followText "set-order")) }).objs.size := by
          rw [Heap.size_push]; exact Nat.ne_of_lt (Nat.lt_succ_of_lt hlS)
        have hSf : s.heap.objs.size ∉ [(s.heap.push { cls := .type "set", dict := none, data := .set #[] 0 (.fresh 0 0 (!w.params.followText "set-order")) }).objs.size, l] := by
          rw [Heap.size_push]; simp only [List.mem_cons, List.mem_singleton, List.not_mem_nil, or_false, not_or]
          exact ⟨Nat.ne_of_lt (Nat.lt_succ_self _), Nat.ne_of_gt hlS⟩
        refine setM_loop ((Walks.list hh3 _ l hneI items).toS) s.heap.objs.size hSf ks hisz hb hit (items.size - 0) 0 _ (by omega) (Nat.zero_le _)
          ⟨⟨_, Heap.get?_push_size _ rfl, rfl, rfl⟩, (hl1.push _)⟩ ?hS0 ?hR
        case hS0 => exact setM_fresh w (Heap.get?_push_of_some _ hS)
        case hR =>
          intro s' hm hS'
          have hkp : ∀ b o, s.heap.get? b = some o → s'.heap.get? b = some o := fun b o e => by
            have hb : b < s.heap.objs.size := Heap.lt_size e
            refine hm.heap b o ?_ (Heap.get?_push_of_some _ (Heap.get?_push_of_some _ e))
            intro z
            rcases List.mem_cons.mp z with z | z
            · exact absurd hb (by rw [z]; exact Nat.lt_irrefl _)
            · have hz := List.mem_singleton.mp z
              rw [hz, Heap.size_push] at hb
              exact absurd hb (Nat.not_lt_of_le (Nat.le_succ _))
          obtain ⟨h', g2, d', tk', os'⟩ := s'
          have eg : g2 = s.gens := hm.gens
          have ed : d' = s.drawn := hm.drawn
          have eo : os' = s.os := hm.os
          subst eg; subst ed; subst eo
          show wpAny _ _ _ _ _ _
          refine wpAny_pure ?_
          show wpAny _ _ (PySem.ret Value.none) _ _ _
          exact wpAny_pure ⟨rfl, h', tk', rfl, hS', hkp⟩
      · cases r₂ with
        | error e => exact hr₂
        | ok fl₂ =>
          cases fl₂ with
          | ret r =>
            obtain ⟨rfl, h', tk, rfl, hS', hk'⟩ := hr₂
            repeat (any_goals (first | assumption | wp_step))
            exact h _ _ hS' hk'
          | _ => exact hr₂.elim
    | _ => exact hr.elim
/-- sorted: all texts -/
theorem sortedM_txt {xs : List Str} {Q : Value → Shared → Prop} (R : SetM w s.heap a (xs.map Sum.inr)) (hh : A.handled = none) (hz : xs.length ≤ sizeLine)
    (hQ : ∀ s' p (out : Array Value) (c : Nat) (ys : List Str), (∀ b o, s.heap.get? b = some o → s'.heap.get? b = some o) → s'.gens = s.gens → s'.os = s.os → s.heap.objs.size ≤ p →
      s'.heap.get? p = some (seqObj "list" out c) → StrsAre out.toList ys → ys.Nodup → (∀ x, x ∈ ys ↔ x ∈ xs) → sortedS ys = true → ys.length ≤ xs.length → Q (.ref p) s') :
    wpAny (model P w) A (call (.builtin "sorted") [.ref a]) Q E s := by
  obtain ⟨o, es, ep, t, ho, hex, hd, g, nd, hm, hb, hf, hn, hr, hl⟩ := R
  rw [List.length_map] at hn
  refine Calls.call_function_entry kind_sorted plain_sorted entry_sorted (args_sorted1 _) ?_
  unfold Builtin.«sorted»
  refine wpAny_bind (m := checkCount "sorted" 1 1 _) (wpAny_pure ?_)
  refine wpAny_bind (collect_set (A := A.in1) hh ⟨o, ho, hex.1, hd⟩ hf hb hr hl fun s1 vs k1 hz1 g1 o1 pm => ?_)
  have hvl : vs.length ≤ xs.length := by rw [pm.length_eq, List.length_map, Array.length_toList]; exact hn
  have hes : ∀ e ∈ es.toList, ∃ x tk, kyM e = Sum.inr x ∧ e.2 = Value.str x tk := fun e he => by
    have h1 := (hm (kyM e)).2 (List.mem_map_of_mem he)
    obtain ⟨x, _, hx⟩ := List.mem_map.mp h1
    have h2 := (g e he).1
    rw [← hx] at h2
    rcases keyIs_shape h2 with ⟨j, t, e1, e2⟩ | ⟨y, t, e1, e2⟩
    · cases e1
    · cases e1; exact ⟨x, t, hx.symm, e2⟩
  have hS : ∀ l : List (Int × Value), (∀ e ∈ l, ∃ x tk, kyM e = Sum.inr x ∧ e.2 = Value.str x tk) → ∃ ys, StrsAre (l.map (·.2)) ys ∧ l.map kyM = ys.map Sum.inr := by
    intro l
    induction l with
    | nil => intro _; exact ⟨[], .nil, rfl⟩
    | cons e l ih =>
      intro hl2
      obtain ⟨ys, h1, h2⟩ := ih fun e he => hl2 e (List.mem_cons_of_mem _ he)
      obtain ⟨x, tk, h3, h4⟩ := hl2 e List.mem_cons_self
      refine ⟨x :: ys, ?_, ?_⟩
      · rw [List.map_cons, h4]; exact .cons x tk h1
      · rw [List.map_cons, List.map_cons, h2, h3]
  obtain ⟨ys0, hy1, hy2⟩ := hS es.toList hes
  have hv : ∃ zs, StrsAre vs zs ∧ zs.Perm ys0 := by
    have q : ∀ (a b : List Value) (zs : List Str), a.Perm b → StrsAre b zs → ∃ ws, StrsAre a ws ∧ ws.Perm zs := by
      intro a b zs p
      have p' := p.symm
      clear p
      induction p' generalizing zs with
      | nil => intro h; cases h; exact ⟨[], .nil, .nil⟩
      | @cons x l1 l2 p ih =>
        intro h
        cases h with
        | cons x tk hr => obtain ⟨ws, h1, h2⟩ := ih _ hr; exact ⟨x :: ws, .cons x tk h1, h2.cons x⟩
      | @swap x y l =>
        intro h
        cases h with
        | cons x1 t1 hr =>
          cases hr with
          | cons x2 t2 hr2 => exact ⟨x2 :: x1 :: _, .cons x2 t2 (.cons x1 t1 hr2), .swap _ _ _⟩
      | trans p1 p2 ih1 ih2 =>
        intro h
        obtain ⟨ws, h1, h2⟩ := ih1 _ h
        obtain ⟨us, h3, h4⟩ := ih2 _ h1
        exact ⟨us, h3, h4.trans h2⟩
    exact q _ _ _ pm hy1
  obtain ⟨zs, hzs, hzp⟩ := hv
  refine wpAny_bind (wpAny_newList ?_ (Nat.le_trans hvl hz))
  have hoL : (s1.heap.push (seqObj "list" vs.toArray 0)).get? s1.heap.objs.size = some (seqObj "list" vs.toArray 0) := Heap.get?_push_size _ rfl
  refine wpAny_bind (wpAny_holding (wpAny_call_entry slot_list_sort ⟨_, hoL, rfl⟩ entry_list_sort (list_sort_treeKAny strKind_oneLt hoL hzs.keysOf (fun v₁ v₂ rest e => keyKind_strs (by rw [← e]; exact hzs)) (Nat.le_trans hvl hz) fun st' hp hs => ⟨_, rfl, ?_⟩) (args_list_sort _)))
  obtain ⟨ys, g1', g2', g3'⟩ := sorted_out_str hzs hp hs
  obtain ⟨c, hc⟩ := sortedHeap_at (vs := vs) (out := (arrOf st').map (·.2)) hoL
  have pn : ys.Perm ys0 := g2'.trans hzp
  have ndy : ys0.Nodup := by rw [hy2] at nd; exact List.Pairwise.of_map Sum.inr (fun _ _ hne e => hne (congrArg Sum.inr e)) nd
  refine wpAny_pure ⟨_, rfl, hQ _ s1.heap.objs.size _ c ys (fun b u e => ?_) g1 o1 hz1 hc g1' (pn.nodup_iff.mpr ndy) (fun x => ?_) g3' ?_⟩
  · have q := k1 b u e
    have hlt := Heap.lt_size q
    show (sortedHeap (s1.heap.push (seqObj "list" vs.toArray 0)) s1.heap.objs.size vs _).get? b = some u
    rw [sortedHeap_old (Nat.ne_of_lt hlt) (by rw [size_push']; exact Nat.lt_succ_of_lt hlt)]
    exact Heap.get?_push_of_some _ q
  · rw [pn.mem_iff]
    have h1 := hm (Sum.inr x)
    rw [hy2] at h1
    constructor
    · intro h2
      obtain ⟨y, hy, e⟩ := List.mem_map.mp (h1.2 (List.mem_map_of_mem h2))
      cases e; exact hy
    · intro h2
      obtain ⟨y, hy, e⟩ := List.mem_map.mp (h1.1 (List.mem_map_of_mem h2))
      cases e; exact hy
  · have h1 := congrArg List.length hy2
    rw [List.length_map, List.length_map, Array.length_toList] at h1
    rw [pn.length_eq, ← h1]; exact hn
end
end Nw
set_option Elab.async false
set_option linter.all false
set_option maxRecDepth 100000
set_option maxHeartbeats 4000000
/-! Part KK: sorted(set(e)) on plain data; a module's tables and lists. -/
namespace Nw
open PySem PySem.Spec L2
def ddS : List Str → List Str
  | [] => []
  | x :: r => if x ∈ r then ddS r else x :: ddS r
theorem ddS_mem : ∀ (l : List Str) (x : Str), x ∈ ddS l ↔ x ∈ l
  | [], x => Iff.rfl
  | y :: r, x => by
    unfold ddS
    split
    · rename_i h
      rw [ddS_mem r x, List.mem_cons]
      exact ⟨.inr, fun z => z.elim (fun e => e ▸ h) id⟩
    · rw [List.mem_cons, List.mem_cons, ddS_mem r x]
theorem ddS_nodup : ∀ (l : List Str), (ddS l).Nodup
  | [] => List.nodup_nil
  | y :: r => by
    unfold ddS
    split
    · exact ddS_nodup r
    · rename_i h
      exact List.nodup_cons.mpr ⟨fun z => h ((ddS_mem r y).mp z), ddS_nodup r⟩
theorem ddS_len : ∀ (l : List Str), (ddS l).length ≤ l.length
  | [] => Nat.le_refl _
  | y :: r => by
    unfold ddS
    split
    · exact Nat.le_succ_of_le (ddS_len r)
    · exact Nat.succ_le_succ (ddS_len r)
theorem perm_of_mem {l m : List Str} (h1 : l.Nodup) (h2 : m.Nodup) (h : ∀ x, x ∈ l ↔ x ∈ m) : l.Perm m := (List.perm_ext_iff_of_nodup h1 h2).mpr h
/-- sorted(set(e)) -/
def sortSetD : D → Option D
  | .row ds => (strsD ds).bind fun xs => if xs.length + 1 < PySem.scanBound then some (.row ((sortS (ddS xs)).map D.str)) else none
  | _ => none
def SetMO (w : World) (a : Addr) (L : List Key) : HO := .ext fun h => SetM w h a L
section
variable {X : Cx}
theorem setMO_new {w : World} {P : Program} {H : Hp} {h : Heap} {a : Addr} {L : List Key} (R : SetM w h a L) : ObjOk P w H h a (SetMO w a L) := by
  have ⟨o, _, _, _, ho, _⟩ := R
  exact ⟨R, ⟨o, ho⟩, fun h1 h2 p k => SetM.at p k⟩
theorem setMO_get {pins : List (Addr × Obj)} {σ : L2.St} {H : Hp} {s : Shared} {a : Addr} {L : List Key} (I : Inv X pins σ H s) (ha : H a = some (SetMO X.w a L)) : SetM X.w s.heap a L := (I.hok a _ ha).1
def rSetM (K : PySem.W.Frag) (w : World) : List V → Hp → VK → Prop := fun vs H Q => ∃ (l : Addr) (xs : List Str), vs = [V.ref l] ∧ SqL K H l (xs.map V.str) ∧ xs.length + 1 < PySem.scanBound ∧ ∀ p, H p = none → Q (.ref p) (upd H p (SetMO w p (xs.map Sum.inr)))
theorem cr_setM (hc : X.calm = true) : CallR X (.type "set") (rSetM X.K X.w) := by
  intro pins s σ H vs us Q I r h
  obtain ⟨l, xs, rfl, hl, hb, q⟩ := h
  rw [Vals.ref1 r]
  obtain ⟨its, r1, ⟨ob, m, ho1, ho2, ho3, ho4⟩, hz⟩ := I.list hl
  have hlen := r1.length
  rw [List.length_map] at hlen
  refine call_setM (P := X.prog) (xs.map Sum.inr) (I.ok.hd hc) ⟨ob, ho1, ho2, m, ho4⟩ (fun i v hv => ?_) (by rw [List.length_map, List.size_toArray, hlen]) (by rw [List.length_map]; exact hb) fun h' tk hS hk => ?_
  · have hv' : its[i]? = some v := by rw [← hv, List.getElem?_toArray]
    have hi : i < xs.length := by
      have := (List.getElem?_eq_some_iff.mp hv').1
      omega
    have e1 : (xs.map V.str)[i]? = some (V.str xs[i]) := by rw [List.getElem?_map, List.getElem?_eq_getElem hi]; rfl
    obtain ⟨u, hu1, hu2⟩ := r1.get e1
    rw [hv'] at hu1
    cases hu1
    obtain ⟨t, rfl⟩ := hu2
    exact ⟨Sum.inr xs[i], by rw [List.getElem?_map, List.getElem?_eq_getElem hi]; rfl, keyIs_str _ _⟩
  · exact ⟨.ref s.heap.objs.size, upd H s.heap.objs.size (SetMO X.w s.heap.objs.size (xs.map Sum.inr)), I.laid (t' := tk) hk (Nat.le_refl _) (setMO_new hS), rfl, q _ (I.hok.fresh (Nat.le_refl _))⟩
def rSortM (w : World) : List V → Hp → VK → Prop := fun vs H Q => ∃ (a : Addr) (xs : List Str), vs = [V.ref a] ∧ H a = some (SetMO w a (xs.map Sum.inr)) ∧ xs.length ≤ sizeLine ∧ ∀ p, H p = none → Q (.ref p) (upd H p (.lst ((sortS (ddS xs)).map V.str)))
theorem cr_sortM (hc : X.calm = true) : CallR X (.builtin "sorted") (rSortM X.w) := by
  intro pins s σ H vs us Q I r h
  obtain ⟨a, xs, rfl, ha, hz, q⟩ := h
  rw [Vals.ref1 r]
  refine sortedM_txt (P := X.prog) (setMO_get I ha) (I.ok.hd hc) hz fun s' p out c ys k g o hp hg hi hnd hmem hs hl => ?_
  have hlen : (ys.map V.str).length ≤ sizeLine := by rw [List.length_map]; exact Nat.le_trans hl hz
  have hn : H p = none := I.hok.fresh hp
  have J : Inv X pins σ (upd H p (.lst (ys.map V.str))) { s with heap := s'.heap, gens := s'.gens, drawn := s'.drawn, toks := s'.toks } :=
    I.call (ch := []) (Un.laid k hp hn) (I.hok.laid k hp ⟨hlen, out.toList, c, vals_of_strs hi, hg⟩) (by rw [g]; exact I.bare) (fun _ z => nomatch z)
  have e : s' = { s with heap := s'.heap, gens := s'.gens, drawn := s'.drawn, toks := s'.toks } := by
    cases s'
    cases s
    cases o
    rfl
  rw [e]
  have hu : ys = sortS (ddS xs) := sortS_uniq (perm_of_mem hnd (ddS_nodup xs) fun x => (hmem x).trans (ddS_mem xs x).symm) hs
  rw [hu] at J
  exact ⟨.ref p, _, J, rfl, q p hn⟩
end
section
variable {X : Cx} {R : Reg} {W : WX} {O : List Nat} {a e o : Expr} {f g : Sl → M R.S D} {pos p p2 pos2 apos cpos : Pos} {n : Nat}
theorem de_sortSet (c : Cxt X R W n) (hg : Gl X "sorted") (hm : X.mg "sorted" = none) (hg2 : Gl X "set") (hm2 : X.mg "set" = none) (he : PE X e (tD R W O f))
    (h1 : starEach [e] X.env = (false, eval e X.env) :: starEach [] X.env := by rfl) (h2 : starEach [.Call (.Name "set" p2) [e] [] pos2] X.env = (false, eval (.Call (.Name "set" p2) [e] [] pos2) X.env) :: starEach [] X.env := by rfl)
    (hpl : (backTo pos (starEach [] X.env)).any (·.1) = false := by rfl) (hpl2 : (backTo pos2 (starEach [] X.env)).any (·.1) = false := by rfl) :
    PE X (.Call (.Name "sorted" p) [.Call (.Name "set" p2) [e] [] pos2] [] pos) (tD R W O (dUn sortSetD f)) :=
  pe_imp (pe_callB (cr_sortM c.calm) hg hm (by decide +kernel) (pa_cons (pe_callTy (cr_setM c.calm) hg2 hm2 (by decide +kernel) (pa_cons he pa_nil h1) (by decide) (by decide) h1 hpl2) pa_nil h2) (by decide) (by decide) h2 hpl) fun σ H Q h => by
    obtain ⟨F, ρ, s, w, pu, p⟩ := h
    refine ⟨F, ρ, s, w, pu, p.bnd.imp (fun d s1 F1 H1 w1 st1 p1 v rv => ?_) fun _ _ _ _ _ _ z => z⟩
    obtain ⟨d', e0, k⟩ := p1.lift
    clear p1
    cases d with
    | row ds =>
      have e' : ((strsD ds).bind fun xs => if xs.length + 1 < PySem.scanBound then some (D.row ((sortS (ddS xs)).map D.str)) else none) = some d' := e0
      clear e0
      cases ex : strsD ds with
      | none => rw [ex] at e'; cases e'
      | some xs =>
        rw [ex] at e'
        have e3 : (if xs.length + 1 < PySem.scanBound then some (D.row ((sortS (ddS xs)).map D.str)) else none) = some d' := e'
        have hds := strsD_some ex
        clear e' ex
        subst hds
        by_cases hb : xs.length + 1 < PySem.scanBound
        · rw [if_pos hb] at e3
          cases e3
          obtain ⟨a, vs, rfl, q1, q2, q3⟩ := rv
          rw [List.length_map] at q2
          have hxs : ∀ x ∈ xs, x.length ≤ sizeLine := by
            have gen : ∀ (l : List Str) (us : List V), Reps R.K R.nm F1 (l.map D.str) us → ∀ x ∈ l, x.length ≤ sizeLine := by
              intro l
              induction l with
              | nil => intro us _ x hx; cases hx
              | cons y l ih =>
                intro us r x hx
                obtain ⟨v, ws, _, hv, hw⟩ := r
                rcases List.mem_cons.mp hx with rfl | hx
                · exact hv.2
                · exact ih ws hw x hx
            exact gen xs vs q3
          have hvs : vs = xs.map V.str := by
            have gen : ∀ (l : List Str) (us : List V), Reps R.K R.nm F1 (l.map D.str) us → us = l.map V.str := by
              intro l
              induction l with
              | nil => intro us r; exact r
              | cons y l ih =>
                intro us r
                obtain ⟨v, ws, rfl, hv, hw⟩ := r
                rw [ih ws hw, hv.1]; rfl
            exact gen xs vs q3
          subst hvs
          have hsl : SqL X.K H1 a (xs.map V.str) := SqL.of (w1.sub.lst q1)
          refine ⟨a, xs, rfl, hsl, hb, fun q hq => ?_⟩
          have st2 : Stp R F1 H1 F1 (upd H1 q (SetMO X.w q (xs.map Sum.inr))) := Stp.newH _ hq
          have w2 : Wd R F1 (upd H1 q (SetMO X.w q (xs.map Sum.inr))) s1 := w1.newH _ hq
          refine ⟨q, xs, rfl, upd_same, q2, fun q' hq' => ?_⟩
          refine new_row w2 ?_ (reps_strs _ fun x hx => hxs x ?_) hq' fun v F' H' w' st' r' => k F' H' w' (st2.trans st') v r'
          · rw [List.length_map, (sortS_perm _).length_eq]
            exact Nat.le_trans (ddS_len xs) q2
          · exact (ddS_mem xs x).mp ((sortS_perm _).mem_iff.mp hx)
        · rw [if_neg hb] at e3; cases e3
    | _ => cases e0
end
/-! ### a module's table of numbers, by texts -/
def entI (e : DictEntry) : Option (Str × Int) := match e.key, e.val with
  | .str x _, .int i _ => some (x, i)
  | _, _ => none
def tabB (K : PySem.W.Frag) (a : Addr) (kvs : List (Str × Int)) : Bool := match K.lookup a with
  | some ⟨_, _, .dict es _, _⟩ => decide (es.toList.map entI = kvs.map some)
  | _ => false
def assI : List (Str × Int) → Str → Option Int
  | [], _ => none
  | (k, i) :: r, x => if k = x then some i else assI r x
def KTab (K : PySem.W.Frag) (w : World) (a : Addr) (kvs : List (Str × Int)) : Prop := ∃ es n, KDict K w a es n ∧ ∀ x, match assI kvs x with
  | none => findBy Value.isStrOf es x = none
  | some i => ∃ t, findBy Value.isStrOf es x = some (.int i t)
theorem find_entI : ∀ (l : List DictEntry) (kvs : List (Str × Int)), l.map entI = kvs.map some → ∀ x, match assI kvs x with
    | none => (l.find? fun e => Value.isStrOf x e.key).map (·.val) = none
    | some i => ∃ t, (l.find? fun e => Value.isStrOf x e.key).map (·.val) = some (.int i t)
  | [], [], _, x => rfl
  | [], _ :: _, h, x => by cases h
  | _ :: _, [], h, x => by cases h
  | e :: l, (k, i) :: kvs, h, x => by
    have h1 : entI e :: l.map entI = some (k, i) :: kvs.map some := h
    injection h1 with h2 h3
    have ih := find_entI l kvs h3 x
    obtain ⟨hh, ek, ev⟩ := e
    cases ek with
    | str y t =>
      cases ev with
      | int j t2 =>
        cases h2
        show match (if k = x then some i else assI kvs x) with
          | none => (List.find? (fun e => Value.isStrOf x e.key) (⟨hh, .str k t, .int i t2⟩ :: l)).map (·.val) = none
          | some j => ∃ t', (List.find? (fun e => Value.isStrOf x e.key) (⟨hh, .str k t, .int i t2⟩ :: l)).map (·.val) = some (.int j t')
        by_cases hx : k = x
        · subst hx
          rw [if_pos rfl]
          refine ⟨t2, ?_⟩
          rw [List.find?_cons_of_pos (by simp [Value.isStrOf])]
          rfl
        · rw [if_neg hx, List.find?_cons_of_neg (by simp [Value.isStrOf, hx])]
          exact ih
      | _ => cases h2
    | _ => cases ev <;> cases h2
theorem ktab_of {K : PySem.W.Frag} {w : World} {a : Addr} {kvs : List (Str × Int)} (h : ∃ es n, KDict K w a es n) (hb : tabB K a kvs = true) : KTab K w a kvs := by
  obtain ⟨es, n, kd⟩ := h
  refine ⟨es, n, kd, fun x => ?_⟩
  unfold tabB at hb
  rw [kd.at_] at hb
  have h2 := find_entI es.toList kvs (of_decide_eq_true hb) x
  unfold findBy
  rw [← Array.find?_toList]
  exact h2
def kgetD (kvs : List (Str × Int)) : List D → Option D
  | [.str x, d] => some (match assI kvs x with | some i => .int i | none => d)
  | _ => none
section
variable {X : Cx} {R : Reg} {W : WX} {O : List Nat} {e1 e2 : Expr} {fs : Sl → M R.S (List D)} {pos np apos cpos : Pos} {n : Nat}
theorem kd_tyis {pins : List (Addr × Obj)} {σ : L2.St} {H : Hp} {s : Shared} {d : Addr} {es : Array DictEntry} {n : Nat} (D : KDict X.K X.w d es n) (I : Inv X pins σ H s) :
    s.TypeIs (.ref d) "dict" ∧ ∀ a, Value.ref d = .ref a → ∃ ob, s.heap.get? a = some ob ∧ ob.dict = none := by
  refine ⟨kd_type D I, fun a e => ?_⟩
  cases e
  exact ⟨_, I.kIn _ _ D.at_, rfl⟩
theorem de_kget {x : Str} {a : Addr} {kvs : List (Str × Int)} (c : Cxt X R W n) (hk : KTab X.K X.w a kvs) (hg : Gl X x) (hm : X.mg x = some (.ref a)) (ha : PA X [e1, e2] (tDA R W O fs)) (hd : (x == ("__debug__" : Str)) = false := by decide)
    (hbase : attributeBase (.Name x np) "get" X.env (eval (.Name x np) X.env) = eval (.Name x np) X.env := by rfl)
    (hfew : ((backTo cpos (starEach [e1, e2] X.env)).all (fun x => !x.1) && (backToKw cpos (keywordEach [] X.env)).all (fun x => x.1.isSome)
      && decide (([e1, e2] : List Expr).length + ([] : List Keyword).length + (if ([] : List Keyword).isEmpty then 0 else 1) < 30)) = true := by rfl)
    (hline : (apos.endLine == cpos.line) = true := by rfl) (hs : starEach [e1, e2] X.env = (false, eval e1 X.env) :: starEach [e2] X.env := by rfl) (hplain : (backTo cpos (starEach [e2] X.env)).any (·.1) = false := by rfl) :
    PE X (.Call (.Attribute (.Name x np) "get" apos) [e1, e2] [] cpos) (tD R W O (dAll (kgetD kvs) fs)) := by
  obtain ⟨es, m, D, hf⟩ := hk
  have ho : PE X (.Name x np) (tC (.ref a)) := pe_glob hg hm rfl hd
  refine ⟨fun pins s σ H Q I h => ?_⟩
  obtain ⟨F, ρ, st, w, pu, p⟩ := h
  refine wpAny_Call_method_late hbase hfew hline rfl (thn (ho.run pins s σ H (fun v H1 => v = .ref a ∧ H1 = H) I ⟨rfl, rfl⟩) fun v s1 ⟨x1, H1, I1, r1, e1, e2⟩ => ?_)
  subst e1 e2
  cases r1
  obtain ⟨h1, h2⟩ := kd_tyis D I1
  refine ⟨"dict", "dict.get", PySem.F.plainAttrs_dict, PySem.F.slot_dict_get, PySem.F.type_dict_get, h1, h2, ?_⟩
  have hA := ha.run cpos pins s1 σ H1 (fun vs H2 => ∃ z y v', vs = [V.str z, y] ∧ (match assI kvs z with | none => v' = y | some i => v' = .int i) ∧ Q v' H2) I1 ⟨F, ρ, st, w, pu, p.bnd.imp (fun ds s2 F2 H2 w2 st2 p2 vs rv => by
    obtain ⟨d', e', k⟩ := p2.lift
    unfold kgetD at e'
    split at e'
    · rename_i z dd
      cases e'
      obtain ⟨u1, us, rfl, ru1, u2, us2, rfl, ru2, e3⟩ := rv
      rw [show us2 = [] from e3, ru1.1]
      cases q : assI kvs z with
      | none =>
        rw [q] at k
        exact ⟨z, u2, u2, rfl, by rw [q], k F2 H2 w2 Stp.refl _ ru2⟩
      | some i =>
        rw [q] at k
        exact ⟨z, u2, .int i, rfl, by rw [q], k F2 H2 w2 Stp.refl _ rfl⟩
    · cases e') fun _ _ _ _ _ _ z => z⟩
  rw [hs] at hA ⊢
  refine Calls.callWith_builtin (by show (false || (backTo cpos (starEach [e2] X.env)).any (·.1)) = false; rw [hplain] <;> rfl) (Calls.evalArgs_plain ?_)
  refine thn hA fun us s2 ⟨vs, H2, I2, r2, z, y, v', ev, hv, q2⟩ => ?_
  subst ev
  obtain ⟨uz, uy, rfl, ruz, ruy⟩ := r2.two
  obtain ⟨t, rfl⟩ := ruz
  refine call_meetsIn PySem.F.slot_dict_get (kd_tyis D I2).1 PySem.F.entry_dict_get (PySem.F.args_dict_get_3 _ _ _) (meets_dict_get_default (strKind X.prog X.w) a (strKind_is X.prog X.w z t) D.low uy) ⟨_, PySem.W.mapOf_K (prog := X.prog) I2.kIn D.at_ D.lit, ?_⟩
  have hz := hf z
  cases q : assI kvs z with
  | none =>
    rw [q] at hz hv
    rw [hz]
    cases hv
    exact ⟨y, H2, I2.tok _, ruy, q2⟩
  | some i =>
    rw [q] at hz hv
    obtain ⟨t2, hz⟩ := hz
    rw [hz]
    cases hv
    exact ⟨.int i, H2, I2.tok _, ⟨t2, rfl⟩, q2⟩
end
/-! ### a module's list of texts -/
def lstB (K : PySem.W.Frag) (a : Addr) (xs : List Str) : Bool := match K.lookup a with
  | some ⟨.type c, none, .seq its _, _⟩ => decide (c = "list") && decide (its.toList.map (fun v => match v with | .str x _ => some x | _ => none) = xs.map some)
  | _ => false
def KLst (K : PySem.W.Frag) (a : Addr) (xs : List Str) : Prop := ∃ (o : Obj) (its : Array Value) (n : Nat), K.lookup a = some o ∧ o.cls = .type "list" ∧ o.dict = none ∧ o.data = .seq its n ∧ its.size = xs.length ∧ Vals (xs.map V.str) its.toList
theorem klst_of {K : PySem.W.Frag} {a : Addr} {xs : List Str} (h : lstB K a xs = true) : KLst K a xs := by
  unfold lstB at h
  split at h
  · rename_i c its m sl q
    have h1 := (Bool.and_eq_true _ _).mp h
    have h2 := of_decide_eq_true h1.1
    have h3 := of_decide_eq_true h1.2
    subst h2
    have gen : ∀ (l : List Value) (ys : List Str), l.map (fun v => match v with | .str x _ => some x | _ => none) = ys.map some → Vals (ys.map V.str) l := by
      intro l
      induction l with
      | nil => intro ys h; cases ys with
        | nil => exact .nil
        | cons _ _ => cases h
      | cons v l ih =>
        intro ys h
        cases ys with
        | nil => cases h
        | cons y ys =>
          rw [List.map_cons, List.map_cons] at h
          injection h with h4 h5
          cases v with
          | str x t =>
            cases h4
            exact .cons ⟨t, rfl⟩ (ih ys h5)
          | _ => cases h4
    have hl := congrArg List.length h3
    rw [List.length_map, List.length_map, Array.length_toList] at hl
    exact ⟨_, its, m, q, rfl, rfl, rfl, hl, gen _ _ h3⟩
  · cases h
theorem de_klst {X : Cx} {R : Reg} {W : WX} {O : List Nat} {x : Str} {a : Addr} {xs : List Str} {pos : Pos} (hK : R.K = X.K) (hk : KLst X.K a xs) (hz : xs.length ≤ sizeLine) (hx : ∀ y ∈ xs, y.length ≤ sizeLine) (hg : Gl X x) (hm : X.mg x = some (.ref a)) (hd : (x == ("__debug__" : Str)) = false := by decide) :
    PE X (.Name x pos) (tD R W O (dC (.kro (xs.map D.str)))) := by
  refine de_c _ (pe_glob (v := .ref a) hg hm rfl hd) fun F => ?_
  obtain ⟨o, its, n, h1, h2, h3, h4, h5, h6⟩ := hk
  exact ⟨a, xs.map V.str, rfl, .inr ⟨o, its, n, by rw [hK]; exact h1, h2, h3, h4, by rw [h5]; exact hz, h6⟩, by rw [List.length_map]; exact hz, reps_strs xs hx⟩
end Nw
set_option Elab.async false
set_option linter.all false
set_option maxRecDepth 100000
set_option maxHeartbeats 4000000
/-! Part LL: a chain of three comparisons; a comprehension over a table's keys into a local name. -/
namespace Nw
open PySem PySem.Spec L2 PyProof.Rows
section
variable {X : Cx} {R : Reg} {W : WX} {O : List Nat} {a b c d : Expr} {f g h i : Sl → M R.S D} {ta tb tc td : TE} {pos : Pos}
def tChain3 (r r' r'' : R2) (ta tb tc td : TE) : TE := fun σ H Q => ta σ H fun x H1 => tb σ H1 fun y H2 => r x y H2 fun z H3 => ∃ k, z = .bl k ∧
  (if k = true then (tc σ H3 fun u H4 => r' y u H4 fun z2 H5 => ∃ k2, z2 = .bl k2 ∧ (if k2 = true then td σ H5 fun w' H6 => r'' u w' H6 Q else Q (.bl false) H5)) else Q (.bl false) H3)
theorem pe_chain3 {o o' o'' : CmpOp} {r r' r'' : R2} (ho : OpR X (compareOp o) r) (ho' : OpR X (compareOp o') r') (ho'' : OpR X (compareOp o'') r'') (ha : PE X a ta) (hb : PE X b tb) (hc : PE X c tc) (hd : PE X d td)
    (hm : lastMarks [o, o', o''] [b, c, d] = false := by with_unfolding_all rfl) : PE X (.Compare a [o, o', o''] [b, c, d] pos) (tChain3 r r' r'' ta tb tc td) := by
  refine ⟨fun pins s σ H Q I h => ?_⟩
  refine Compare_chain (thn (ha.run pins s σ H _ I h) fun v s1 ⟨x, H1, I1, r1, q1⟩ => chain_link (thn (hb.run pins s1 σ H1 _ I1 q1) fun u s2 ⟨y, H2, I2, r2, q2⟩ =>
    thn (ho pins s2 σ H2 x y v u _ I2 r1 r2 q2) fun e s3 ⟨z, H3, I3, r3, k, ez, q3⟩ => ?_)) hm
  subst ez
  cases r3
  refine wpAny_truthy_bool ?_
  cases k with
  | false => exact ite_ff ⟨.bl false, H3, I3, rfl, q3⟩
  | true =>
    refine ite_tt (chain_link (thn (hc.run pins s3 σ H3 _ I3 q3) fun w' s4 ⟨z', H4, I4, r4, q4⟩ => thn (ho' pins s4 σ H4 y z' u w' _ I4 r2 r4 q4) fun e5 s5 ⟨z5, H5, I5, r5, k5, e6, q5⟩ => ?_))
    subst e6
    cases r5
    refine wpAny_truthy_bool ?_
    cases k5 with
    | false => exact ite_ff ⟨.bl false, H5, I5, rfl, q5⟩
    | true => exact ite_tt (chain_last (thn (hd.run pins s5 σ H5 _ I5 q5) fun w6 s6 ⟨z6, H6, I6, r6, q6⟩ => ho'' pins s6 σ H6 z' z6 w' w6 Q I6 r4 r6 q6))
def dChain3 {S : Type} (op op' op'' : D → D → Option D) (f g h i : Sl → M S D) : Sl → M S D := fun r => bnd (f r) fun x => bnd (g r) fun y => bnd (lift ((op x y).bind isBl)) fun b => if b = true then (bnd (h r) fun z => bnd (lift ((op' y z).bind isBl)) fun b' => if b' = true then bnd (i r) fun u => lift (op'' z u) else ret (.bl false)) else ret (.bl false)
theorem sat_chain3 {r r' r'' : R2} {op op' op'' : D → D → Option D} (hs : OpSat R r op) (hs' : OpSat R r' op') (hs'' : OpSat R r'' op'') (σ : L2.St) (H : Hp) (Q : VK) (p : tD R W O (dChain3 op op' op'' f g h i) σ H Q) : tChain3 r r' r'' (tD R W O f) (tD R W O g) (tD R W O h) (tD R W O i) σ H Q := by
  obtain ⟨F, ρ, s, w, pu, p⟩ := p
  refine ⟨F, ρ, s, w, pu, p.bnd.imp (fun d s1 F1 H1 w1 st1 p1 v rv => ?_) fun _ _ _ _ _ _ z => z⟩
  refine ⟨F1, ρ, s1, w1, pu.mono st1.fs, p1.bnd.imp (fun e s2 F2 H2 w2 st2 p2 u ru => ?_) fun _ _ _ _ _ _ z => z⟩
  obtain ⟨b, eb, p3⟩ := p2.bnd.lift
  cases eo : op d e with
  | none => rw [eo] at eb; cases eb
  | some z =>
    rw [eo] at eb
    cases z <;> try cases eb
    refine hs v u d e _ F2 H2 s2 _ w2 (rv.mono st2.fs) ru eo fun v' F3 H3 w3 st3 r3 => ?_
    refine ⟨b, r3, ?_⟩
    have p4 := p3 F3 H3 w3 st3
    cases b with
    | false => rw [if_neg Bool.false_ne_true] at p4 ⊢; exact p4 F3 H3 w3 Stp.refl _ rfl
    | true =>
      rw [if_pos rfl] at p4 ⊢
      have pu3 := (pu.mono (st1.fs.trans st2.fs)).mono st3.fs
      refine ⟨F3, ρ, s2, w3, pu3, p4.bnd.imp (fun e' s5 F5 H5 w5 st5 p5 u' ru' => ?_) fun _ _ _ _ _ _ z => z⟩
      obtain ⟨b, eb, p6⟩ := p5.bnd.lift
      cases eo : op' e e' with
      | none => rw [eo] at eb; cases eb
      | some z =>
        rw [eo] at eb
        cases z <;> try cases eb
        refine hs' u u' e e' _ F5 H5 s5 _ w5 ((ru.mono st3.fs).mono st5.fs) ru' eo fun v' F6 H6 w6 st6 r6 => ?_
        refine ⟨b, r6, ?_⟩
        have p7 := p6 F6 H6 w6 st6
        cases b with
        | false => rw [if_neg Bool.false_ne_true] at p7 ⊢; exact p7 F6 H6 w6 Stp.refl _ rfl
        | true =>
          rw [if_pos rfl] at p7 ⊢
          refine ⟨F6, ρ, s5, w6, (pu3.mono st5.fs).mono st6.fs, p7.bnd.imp (fun e8 s8 F8 H8 w8 st8 p8 u8 ru8 => ?_) fun _ _ _ _ _ _ z => z⟩
          obtain ⟨d9, e9, k⟩ := p8.lift
          exact hs'' u' u8 e' e8 d9 F8 H8 s8 Q w8 ((ru'.mono st6.fs).mono st8.fs) ru8 e9 fun v' F' H' w' st' r' => k F' H' w' st' v' r'
theorem de_chain3 {o o' o'' : CmpOp} {op op' op'' : D → D → Option D} (k : CmpOk X R o op) (k' : CmpOk X R o' op') (k'' : CmpOk X R o'' op'') (ha : PE X a (tD R W O f)) (hb : PE X b (tD R W O g)) (hc : PE X c (tD R W O h)) (hd : PE X d (tD R W O i)) (hm : lastMarks [o, o', o''] [b, c, d] = false := by with_unfolding_all rfl) :
    PE X (.Compare a [o, o', o''] [b, c, d] pos) (tD R W O (dChain3 op op' op'' f g h i)) := let ⟨_, h1, h2⟩ := k.ok; let ⟨_, h3, h4⟩ := k'.ok; let ⟨_, h5, h6⟩ := k''.ok; pe_imp (pe_chain3 h1 h3 h5 ha hb hc hd hm) (sat_chain3 h2 h4 h6)
end
section
variable {X : Cx} {R : Reg} {W : WX} {fr : Bool} {O O' B : List Nat} {elt iter tg : Expr} {ifs : List Expr} {scope : Scope} {own : List (Str × Nat)} {g : TG} {tgt : D → Sl → Option Sl} {t : Sl → M R.S Bool} {f : Sl → M R.S D} {n i : Nat} {y : Str} {py pos spos : Pos}
theorem ds_setLcW {gk : D → Option (List D)} (hgt : ∀ d l, gk d = some l → ∃ kvs, d = .tab kvs) (hO : i ∉ O) (c : Cxt X R W n) (i2 : Nat) (hy : X.N[i2]? = some y) (hyl : X.env.scope.names.lookup y = some .local) (hi : PI X tg iter (fun σ H Q => Lk i σ H ∧ tDI R W O (fun r => bnd (dVar i r) fun x => lift (gk x)) σ H Q)) (ok : BlkOk X.N X.env.scope scope own) (hgs : TgSat R g (own.map (·.2)) tgt)
    (hg : ∀ (s : Shared) (H : Hp) (C : Addr) (cl : List (Str × Addr)) (fp : List Addr), PG (X.blk s H scope (compEnvC scope cl C X.env) fp) tg g)
    (ht : ∀ (s : Shared) (H : Hp) (C : Addr) (cl : List (Str × Addr)) (fp : List Addr), Cxt (X.blk s H scope (compEnvC scope cl C X.env) fp) R W0 n → PTs (X.blk s H scope (compEnvC scope cl C X.env) fp) ifs (tDT R W0 O t))
    (he : ∀ (s : Shared) (H : Hp) (C : Addr) (cl : List (Str × Addr)) (fp : List Addr), Cxt (X.blk s H scope (compEnvC scope cl C X.env) fp) R W0 n → PE (X.blk s H scope (compEnvC scope cl C X.env) fp) elt (tD R W0 O f))
    (h1 : ∀ j ∈ O', j ∈ O ∧ j ∉ [i2]) (h2 : ∀ j ∈ O, j ∉ [i2] → j ∈ O') (hsw : swapsWith (.ListComp elt [⟨tg, iter, ifs, 0⟩] scope pos) (some (.Name y py)) spos.line X.env = pure true := by rfl) (hs : ∀ x, foldedSetIterable iter X.env x = pure x := by intro _; rfl) :
    PS X (.Assign [.Name y py] (.ListComp elt [⟨tg, iter, ifs, 0⟩] scope pos) spos) (tDS R W fr B O O' (sAsg (tgN i2) (dLc (fun r => bnd (dVar i r) fun x => lift (gk x)) tgt t f))) := by
  have base := ps_setLc (pos := pos) (py := py) (spos := spos) c.calm c.nd hy hyl hsw hi ok hg (fun s H C cl fp => ht s H C cl fp (c.blk _ _ _ _ _)) (fun s H C cl fp => he s H C cl fp (c.blk _ _ _ _ _)) hs
  refine ps_imp (ps_or2 base (ps_lk base)) fun E σ H h => ?_
  have h' := sat_asg (W := W) (tg_name (i := i2)) h1 h2 E σ H h
  have h'' := h'
  obtain ⟨F, r, s, w, pu, p⟩ := h''
  obtain ⟨kvs, l, a, ws, e1, el, e2, e3, e4, _⟩ := slot_tab hgt hO w pu p.bnd
  rcases w.sub.dK e2 with q | ⟨ob, q⟩
  · refine .inr ⟨a, _, q, mut_dK, fun od => ⟨lk_now e1 upd_same, ?_⟩⟩
    exact sat_lc hgs σ _ _ ⟨F, r, s, w.lock e2, pu, p.from (Stp.refl.lock e2 q)⟩
  · exact .inl ⟨lk_now e1 q, sat_lc hgs σ H _ h'⟩
end
end Nw
set_option Elab.async false
set_option linter.all false
set_option maxRecDepth 100000
set_option maxHeartbeats 4000000
/-! Part MM: an own table that is read while it grows. -/
namespace Nw
open PySem PySem.Spec L2
/-- an expression that may read the own thing in slot i -/
def tDw (R : Reg) (W : WX) (O : List Nat) (i : Nat) (f : Sl → M R.S D) : TE := fun σ H Q => ∃ F r s, Wd R F H s ∧ Pu R O F σ r ∧ (∀ d, r[i]? = some (some d) → ∃ ad H0, σ[i]? = some (some (.ref ad)) ∧ OwnAt R H0 F H ad d) ∧ Post R F H (f r s) (fun d _ F' H' => ∀ v, Rep R.K R.nm F' d v → Q v H') (fun x _ F' H' => ∀ cls dd, RepX R.K R.nm F' x cls dd → W cls dd σ H')
section
variable {X : Cx} {R : Reg} {W : WX} {fr : Bool} {O B : List Nat} {a b e e1 e2 : Expr} {f g fk fv : Sl → M R.S D} {fs : Sl → M R.S (List D)} {pos npos apos cpos : Pos} {n i : Nat} {x : Str}
theorem de_wk (h : PE X e (tD R W O f)) : PE X e (tDw R W O i f) := pe_imp h fun σ H Q ⟨F, r, s, w, pu, _, p⟩ => ⟨F, r, s, w, pu, p⟩
theorem de_getO (i : Nat) (c : Cxt X R W n) (hN : X.N[i]? = some x) (hv : Vis X.env.scope x) (ha : PA X [e1, e2] (tDA R W O fs)) (hd : (x == ("__debug__" : Str)) = false := by decide) (hcd : (x == ("__classdict__" : Str)) = false := by decide)
    (hbase : attributeBase (.Name x npos) "get" X.env (eval (.Name x npos) X.env) = eval (.Name x npos) X.env := by rfl)
    (hfew : ((backTo cpos (starEach [e1, e2] X.env)).all (fun x => !x.1) && (backToKw cpos (keywordEach [] X.env)).all (fun x => x.1.isSome)
      && decide (([e1, e2] : List Expr).length + ([] : List Keyword).length + (if ([] : List Keyword).isEmpty then 0 else 1) < 30)) = true := by rfl)
    (hline : (apos.endLine == cpos.line) = true := by rfl) (hst : starEach [e1, e2] X.env = (false, eval e1 X.env) :: starEach [e2] X.env := by rfl) (hplain : (backTo cpos (starEach [e2] X.env)).any (·.1) = false := by rfl) :
    PE X (.Call (.Attribute (.Name x npos) "get" apos) [e1, e2] [] cpos) (tDw R W O i (dMt "dict" get2D (dVar i) fs)) :=
  pe_imp (pe_bw PySem.F.plainAttrs_dict PySem.F.slot_dict_get PySem.F.type_dict_get (mt_get2 (by have := c.hr.units; omega)) (pe_var hN hv hd hcd) ha hbase hfew hline hst hplain) fun σ H Q h => by
    obtain ⟨F, r, s, w, pu, ow, p⟩ := h
    obtain ⟨d, e, p1⟩ := Post.lift0 (m := getS r i) p
    obtain ⟨u, eu, p2⟩ := p1.lift0
    obtain ⟨ad, H0, h1, h2⟩ := ow d (getS_some e)
    cases d with
    | tab kvs =>
      obtain ⟨ws, q1, q2, q3⟩ := h2.2.2.2
      refine ⟨_, h1, .inr ⟨rfl, ad, ws, rfl, .inl q1⟩, F, r, s, w, pu, p2.bnd.imp (fun ds s1 F1 H1 w1 st1 p3 vs rvs => ?_) fun _ _ _ _ _ _ z => z⟩
      obtain ⟨d', e', k⟩ := p3.lift
      obtain ⟨ws2, q4, q5, q6⟩ := (h2.step st1).2.2.2
      unfold get2D at e'
      split at e'
      · rename_i kvs' kk dz heq
        cases heq
        obtain ⟨key, ek, rfl⟩ := map_some e'
        obtain ⟨y, ys, rfl, ry, z, zs, rfl, rz, e2⟩ := rvs
        rw [show zs = [] from e2]
        obtain ⟨k1, k2⟩ := keyD_ok ry ek
        exact ⟨ad, y, z, valV ws2 key, rfl, rfl, .inl ⟨ws2, key, .inl q4, k1, rfl⟩, k F1 H1 w1 Stp.refl _ (get_rep (H := H1) q6 rz)⟩
      · cases e'
    | _ => cases eu
theorem sat_opW {r : R2} {op : D → D → Option D} (hs : OpSat R r op) (σ : L2.St) (H : Hp) (Q : VK) (h : tDw R W O i (dOp op f g) σ H Q) : tOp r (tDw R W O i f) (tD R W O g) σ H Q := by
  obtain ⟨F, ρ, s, w, pu, ow, p⟩ := h
  refine ⟨F, ρ, s, w, pu, ow, p.bnd.imp (fun d s1 F1 H1 w1 st1 p1 v rv => ?_) fun _ _ _ _ _ _ z => z⟩
  refine ⟨F1, ρ, s1, w1, pu.mono st1.fs, p1.bnd.imp (fun e s2 F2 H2 w2 st2 p2 u ru => ?_) fun _ _ _ _ _ _ z => z⟩
  obtain ⟨d', e', k⟩ := p2.lift
  exact hs v u d e d' F2 H2 s2 Q w2 (rv.mono st2.fs) ru e' fun v' F' H' w' st' r' => k F' H' w' st' v' r'
theorem de_addW (hK : R.K = X.K) (ha : PE X a (tDw R W O i f)) (hb : PE X b (tD R W O g)) : PE X (.BinOp a .Add b pos) (tDw R W O i (dOp addD f g)) := pe_imp (pe_op op_addA ha hb) (sat_opW (sat_add X.K))
theorem ds_setTw (i : Nat) {pos' : Pos} (cx : Cxt X R W n) (hO : i ∈ O) (hN : X.N[i]? = some x) (hv : Vis X.env.scope x) (hk : PE X b (tD R W O fk)) (he : PE X e (tDw R W O i fv)) (hs : swapsWith e (some (.Subscript (.Name x npos) b pos')) pos.line X.env = pure false := by rfl) (hd : (x == ("__debug__" : Str)) = false := by decide) (hcd : (x == ("__classdict__" : Str)) = false := by decide) :
    PS X (.Assign [.Subscript (.Name x npos) b pos'] e pos) (tDS R W fr B O O (sOwn2 i setTD fk fv)) := ps_imp (ps_dput (by have := cx.hr.units; omega) (pe_var hN hv hd hcd) hk he hs) fun E σ H h => by
  obtain ⟨F0, H0, F, r, s, w, st, sl, p⟩ := h
  refine ⟨F, r, s, w, sl.pu, (fun d hd => by obtain ⟨ad, h1, h2⟩ := sl.ow i d hO hd; exact ⟨ad, _, h1, h2⟩), (postS_x w st sl p).imp (fun v s1 F1 H1 w1 st1 q vv rv => ?_) fun _ _ _ _ _ _ z => z⟩
  obtain ⟨w2, st2, sl2, p2⟩ := q
  obtain ⟨d, eg, p2⟩ := opt_post p2
  obtain ⟨ad, h1, h2⟩ := sl2.ow i d hO (getS_some eg)
  refine ⟨_, h1, F1, r, s1, w2, sl2.pu, (postS_x w2 st2 sl2 p2).imp (fun k s3 F3 H3 w3 st3 q kv rk => ?_) fun _ _ _ _ _ _ z => z⟩
  obtain ⟨w4, st4, sl4, p4⟩ := q
  obtain ⟨d', ed, p4⟩ := put_post p4
  have h3 := h2.step st3
  cases d with
  | tab kvs =>
    obtain ⟨kk, ek, ed⟩ := bind_some (show (keyD k).bind (fun k => if kvs.length < sizeLine then some (D.tab (putD kvs k v)) else none) = some d' from ed)
    by_cases hz : kvs.length < sizeLine
    · rw [if_pos hz] at ed
      cases ed
      obtain ⟨ws, e1, e2, e3⟩ := h3.2.2.2
      obtain ⟨k1, k2⟩ := keyD_ok rk ek
      refine ⟨ad, upd H3 ad (.dK (putK ws kk vv)), rfl, ?_, ?_⟩
      · rw [k1]; exact DPut.k e1 (by rw [e3.length]; exact hz)
      · obtain ⟨a1, a2, a3⟩ := own_write (o := .dK (putK ws kk vv)) w4 st4 sl4 hO (getS_some eg) h1 h3 (d' := .tab (putD kvs kk v)) ⟨_, rfl, by have := putD_length kvs kk v; omega, e3.put k2 (rv.mono st3.fs)⟩
        exact p4 σ F3 _ a1 a2 a3
    · rw [if_neg hz] at ed; cases ed
  | _ => exact absurd ed (by simp [setTD])
end
end Nw
set_option Elab.async false
set_option linter.all false
set_option maxRecDepth 100000
set_option maxHeartbeats 4000000
namespace Nw
open PySem PySem.Spec L2
def top (i : Nat) : Stmt := PySem.Challenge.pw_nestways_k91_whole_least_shape.main.body.getD i (.Pass ⟨0, 0, 0, 0⟩)
abbrev s_kind_of : Stmt := top 12
abbrev s_is_sign : Stmt := top 13
abbrev s_is_word : Stmt := top 14
abbrev s_is_thing : Stmt := top 15
abbrev s_inner_things : Stmt := top 16
abbrev s_look_thing : Stmt := top 17
abbrev s_is_entry : Stmt := top 23
abbrev s_is_table_shape : Stmt := top 24
abbrev s_is_shape : Stmt := top 25
abbrev s_look_shape : Stmt := top 26
abbrev s_is_table_fit : Stmt := top 27
abbrev s_is_fit : Stmt := top 28
abbrev s_fits_shape : Stmt := top 29
abbrev s_shape_of_rows : Stmt := top 30
abbrev s_shape_of_tables : Stmt := top 31
abbrev s_shape_of_kind : Stmt := top 32
abbrev s_shape_of : Stmt := top 33
abbrev s_least_shape : Stmt := top 34
abbrev s__law_cell : Stmt := top 36
abbrev s__law_mix : Stmt := top 37
abbrev s__law_draw : Stmt := top 38
abbrev s__law_pick : Stmt := top 39
abbrev s__law_refusal : Stmt := top 40
abbrev s__law_kind : Stmt := top 41
abbrev s__law_few : Stmt := top 42
abbrev s__law_fits : Stmt := top 43
abbrev s__law_least : Stmt := top 44
abbrev s__law_entries : Stmt := top 45
abbrev s__law_told : Stmt := top 46
abbrev s_law : Stmt := top 47
structure Den where
  kind_of : List D → M Unit D
  is_sign : List D → M Unit D
  is_word : List D → M Unit D
  is_thing : List D → M Unit D
  inner_things : List D → M Unit D
  look_thing : List D → M Unit D
  is_entry : List D → M Unit D
  is_table_shape : List D → M Unit D
  is_shape : List D → M Unit D
  look_shape : List D → M Unit D
  is_table_fit : List D → M Unit D
  is_fit : List D → M Unit D
  fits_shape : List D → M Unit D
  shape_of_rows : List D → M Unit D
  shape_of_tables : List D → M Unit D
  shape_of_kind : List D → M Unit D
  shape_of : List D → M Unit D
  least_shape : List D → M Unit D
  _law_cell : List D → M Unit D
  _law_mix : List D → M Unit D
  _law_draw : List D → M Nat D
  _law_pick : List D → M Nat D
  _law_refusal : List D → M Unit D
  _law_kind : List D → M Unit D
  _law_few : List D → M Nat D
  _law_fits : List D → M Unit D
  _law_least : List D → M Unit D
  _law_entries : List D → M Unit D
  _law_told : List D → M Unit D
def b_kind_of (d : Den) : Sl → Mo Unit := (sSeq (sIf (dTst (dUn (isND false) (dVar 0)) isBl) (sRet (dC (.str "none"))) sNil)
    (sSeq (sIf (dTst (dUn (isiD "bool") (dVar 0)) truD) (sRet (dC (.str "truth"))) sNil)
    (sSeq (sIf (dTst (dUn (isiD "int") (dVar 0)) truD) (sRet (dC (.str "number"))) sNil)
    (sSeq (sIf (dTst (dUn (isiD "str") (dVar 0)) truD) (sRet (dC (.str "word"))) sNil)
    (sRet (dIf (dTst (dUn (isiD "list") (dVar 0)) truD) (dC (.str "row")) (dC (.str "table"))))))))
def b_is_sign (d : Den) : Sl → Mo Unit := (sRet (dAnd (dChain leD ltD (dC (.int 32)) (dAll ordD (dCons (dVar 0) dNil)) (dC (.int 127))) (dOp neD (dAll ordD (dCons (dVar 0) dNil)) (dC (.int 37)))))
def b_is_word (d : Den) : Sl → Mo Unit := (sRet (dAnd (dOp leD (dAll lenD (dCons (dVar 0) dNil)) (dC (.int 60))) (dAll allD (dCons (dLc (dItems (dVar 0)) (tgN 1) dYes (dCall 1 (fun ds => up (d.is_sign ds)) (dCons (dVar 1) dNil))) dNil))))
def b_is_thing (d : Den) : Sl → Mo Unit := (sSeq (sAsg (tgN 2) (dCall 1 (fun ds => up (d.kind_of ds)) (dCons (dVar 0) dNil)))
    (sSeq (sIf (dTst (dOp eqD (dVar 2) (dC (.str "number"))) isBl) (sRet (dOp leD (dAll absD (dCons (dVar 0) dNil)) (dC (.int 999999999999999)))) sNil)
    (sSeq (sIf (dTst (dOp eqD (dVar 2) (dC (.str "word"))) isBl) (sRet (dCall 1 (fun ds => up (d.is_word ds)) (dCons (dVar 0) dNil))) sNil)
    (sSeq (sIf (dTst (dOp (inD true) (dVar 2) (dAll tupD (dCons (dC (.str "row")) (dCons (dC (.str "table")) dNil)))) isBl) (sRet (dC (.bl true))) sNil)
    (sSeq (sIf (tOrD (dTst (dOp eqD (dVar 1) (dC (.int 12))) isBl) (tAndD (dTst (dOp eqD (dVar 2) (dC (.str "table"))) isBl) (tNotD (dTst (dAll allD (dCons (dLc (fun r => bnd (dVar 0 r) fun x => lift (keysD x)) (tgN 4) dYes (dCall 1 (fun ds => up (d.is_word ds)) (dCons (dVar 4) dNil))) dNil)) truD)))) (sRet (dC (.bl false))) sNil)
    (sRet (dAll allD (dCons (dLc (dItems (dCall 1 (fun ds => up (d.inner_things ds)) (dCons (dVar 0) dNil))) (tgN 3) dYes (dCall 2 (fun ds => up (d.is_thing ds)) (dCons (dVar 3) (dCons (dOp addD (dVar 1) (dC (.int 1))) dNil)))) dNil))))))))
def b_inner_things (d : Den) : Sl → Mo Unit := (sSeq (sIf (dTst (dOp eqD (dCall 1 (fun ds => up (d.kind_of ds)) (dCons (dVar 0) dNil)) (dC (.str "row"))) isBl) (sRet (dAll listD (dCons (dVar 0) dNil))) sNil)
    (sRet (dIf (dTst (dOp eqD (dCall 1 (fun ds => up (d.kind_of ds)) (dCons (dVar 0) dNil)) (dC (.str "table"))) isBl) (dLc (dItems (dUn sortKD (dVar 0))) (tgN 1) dYes (dOp ixD (dVar 0) (dVar 1))) (dAll rowD dNil))))
def b_look_thing (d : Den) : Sl → Mo Unit := (sIf (tNotD (dTst (dCall 2 (fun ds => up (d.is_thing ds)) (dCons (dVar 0) (dCons (dC (.int 0)) dNil))) truD)) (sRaise .BadThing) sNil)
def b_is_entry (d : Den) : Sl → Mo Unit := (sRet (dAnd (dOp eqD (dAll lenD (dCons (dVar 0) dNil)) (dC (.int 3))) (dAnd (dCall 1 (fun ds => up (d.is_word ds)) (dCons (dOp ixD (dVar 0) (dC (.int 0))) dNil)) (dAnd (dCall 2 (fun ds => up (d.is_shape ds)) (dCons (dOp ixD (dVar 0) (dC (.int 1))) (dCons (dVar 1) dNil))) (dOp (inD false) (dOp ixD (dVar 0) (dC (.int 2))) (dAll tupD (dCons (dC (.bl true)) (dCons (dC (.bl false)) dNil))))))))
def b_is_table_shape (d : Den) : Sl → Mo Unit := (sSeq (sIf (tNotD (dTst (dAll allD (dCons (dLc (dItems (dOp ixD (dVar 0) (dC (.int 1)))) (tgN 3) dYes (dCall 2 (fun ds => up (d.is_entry ds)) (dCons (dVar 3) (dCons (dOp addD (dVar 1) (dC (.int 1))) dNil)))) dNil)) truD)) (sRet (dC (.bl false))) sNil)
    (sSeq (sAsg (tgN 2) (dLc (dItems (dOp ixD (dVar 0) (dC (.int 1)))) (tgN 3) dYes (dOp ixD (dVar 3) (dC (.int 0)))))
    (sRet (dAnd (dOp eqD (dVar 2) (dUn sortSetD (dVar 2))) (dOr (dUn (isND false) (dOp ixD (dVar 0) (dC (.int 2)))) (dCall 2 (fun ds => up (d.is_shape ds)) (dCons (dOp ixD (dVar 0) (dC (.int 2))) (dCons (dOp addD (dVar 1) (dC (.int 1))) dNil))))))))
def b_is_shape (d : Den) : Sl → Mo Unit := (sSeq (sIf (tOrD (tNotD (dTst (dVar 0) truD)) (tOrD (dTst (dOp neD (dAll lenD (dCons (dVar 0) dNil)) (dAll (kgetD [("any", 1), ("none", 1), ("truth", 1), ("number", 3), ("word", 2), ("row", 4), ("table", 3), ("or", 2)]) (dCons (dOp ixD (dVar 0) (dC (.int 0))) (dCons (dC (.int 0)) dNil)))) isBl) (dTst (dOp gtD (dVar 1) (dC (.int 30))) isBl))) (sRet (dC (.bl false))) sNil)
    (sSeq (sIf (dTst (dOp eqD (dOp ixD (dVar 0) (dC (.int 0))) (dC (.str "number"))) isBl) (sRet (dChain3 leD leD leD (dUn negD (dC (.int 999999999999999))) (dOp ixD (dVar 0) (dC (.int 1))) (dOp ixD (dVar 0) (dC (.int 2))) (dC (.int 999999999999999)))) sNil)
    (sSeq (sIf (dTst (dOp eqD (dOp ixD (dVar 0) (dC (.int 0))) (dC (.str "word"))) isBl) (sRet (dChain leD leD (dC (.int 0)) (dOp ixD (dVar 0) (dC (.int 1))) (dC (.int 60)))) sNil)
    (sSeq (sIf (dTst (dOp eqD (dOp ixD (dVar 0) (dC (.int 0))) (dC (.str "row"))) isBl) (sRet (dAnd (dChain3 leD leD leD (dC (.int 0)) (dOp ixD (dVar 0) (dC (.int 2))) (dOp ixD (dVar 0) (dC (.int 3))) (dC (.int 1000000))) (dCall 2 (fun ds => up (d.is_shape ds)) (dCons (dOp ixD (dVar 0) (dC (.int 1))) (dCons (dOp addD (dVar 1) (dC (.int 1))) dNil))))) sNil)
    (sSeq (sIf (dTst (dOp eqD (dOp ixD (dVar 0) (dC (.int 0))) (dC (.str "table"))) isBl) (sRet (dCall 2 (fun ds => up (d.is_table_shape ds)) (dCons (dVar 0) (dCons (dVar 1) dNil)))) sNil)
    (sRet (dOr (dOp neD (dOp ixD (dVar 0) (dC (.int 0))) (dC (.str "or"))) (dAll allD (dCons (dLc (dItems (dOp ixD (dVar 0) (dC (.int 1)))) (tgN 2) dYes (dCall 2 (fun ds => up (d.is_shape ds)) (dCons (dVar 2) (dCons (dOp addD (dVar 1) (dC (.int 1))) dNil)))) dNil)))))))))
def b_look_shape (d : Den) : Sl → Mo Unit := (sIf (tNotD (dTst (dCall 2 (fun ds => up (d.is_shape ds)) (dCons (dVar 0) (dCons (dC (.int 0)) dNil))) truD)) (sRaise .BadThing) sNil)
def b_is_table_fit (d : Den) : Sl → Mo Unit := (sSeq (sAsg (tgN 2) (dLc (dItems (dOp ixD (dVar 0) (dC (.int 1)))) (tgN 7) dYes (dOp ixD (dVar 7) (dC (.int 0)))))
    (sSeq (sFor (dItems (dOp ixD (dVar 0) (dC (.int 1)))) (tgT [3, 4, 5]) (sIf (tOrD (tAndD (dTst (dOp (inD false) (dVar 3) (dVar 1)) isBl) (tNotD (dTst (dCall 2 (fun ds => up (d.is_fit ds)) (dCons (dVar 4) (dCons (dOp ixD (dVar 1) (dVar 3)) dNil))) truD))) (tAndD (dTst (dVar 5) truD) (dTst (dOp (inD true) (dVar 3) (dVar 1)) isBl))) (sRet (dC (.bl false))) sNil))
    (sSeq (sAsg (tgN 6) (dLc (fun r => bnd (dVar 1 r) fun x => lift (keysD x)) (tgN 3) (dTst (dOp (inD true) (dVar 3) (dVar 2)) isBl) (dVar 3)))
    (sRet (dAll allD (dCons (dLc (dItems (dVar 6)) (tgN 3) dYes (dAnd (dUn (isND true) (dOp ixD (dVar 0) (dC (.int 2)))) (dCall 2 (fun ds => up (d.is_fit ds)) (dCons (dOp ixD (dVar 0) (dC (.int 2))) (dCons (dOp ixD (dVar 1) (dVar 3)) dNil))))) dNil))))))
def b_is_fit (d : Den) : Sl → Mo Unit := (sSeq (sAsg (tgN 2) (dOp ixD (dVar 0) (dC (.int 0))))
    (sSeq (sIf (dTst (dOp eqD (dVar 2) (dC (.str "any"))) isBl) (sRet (dC (.bl true))) sNil)
    (sSeq (sIf (dTst (dOp eqD (dVar 2) (dC (.str "or"))) isBl) (sRet (dAll anyD (dCons (dLc (dItems (dOp ixD (dVar 0) (dC (.int 1)))) (tgN 3) dYes (dCall 2 (fun ds => up (d.is_fit ds)) (dCons (dVar 3) (dCons (dVar 1) dNil)))) dNil))) sNil)
    (sSeq (sIf (dTst (dOp neD (dCall 1 (fun ds => up (d.kind_of ds)) (dCons (dVar 1) dNil)) (dVar 2)) isBl) (sRet (dC (.bl false))) sNil)
    (sSeq (sIf (dTst (dOp eqD (dVar 2) (dC (.str "number"))) isBl) (sRet (dChain leD leD (dOp ixD (dVar 0) (dC (.int 1))) (dVar 1) (dOp ixD (dVar 0) (dC (.int 2))))) sNil)
    (sSeq (sIf (dTst (dOp eqD (dVar 2) (dC (.str "word"))) isBl) (sRet (dOp leD (dAll lenD (dCons (dVar 1) dNil)) (dOp ixD (dVar 0) (dC (.int 1))))) sNil)
    (sSeq (sIf (dTst (dOp eqD (dVar 2) (dC (.str "row"))) isBl) (sRet (dAnd (dChain leD leD (dOp ixD (dVar 0) (dC (.int 2))) (dAll lenD (dCons (dVar 1) dNil)) (dOp ixD (dVar 0) (dC (.int 3)))) (dAll allD (dCons (dLc (dItems (dVar 1)) (tgN 3) dYes (dCall 2 (fun ds => up (d.is_fit ds)) (dCons (dOp ixD (dVar 0) (dC (.int 1))) (dCons (dVar 3) dNil)))) dNil)))) sNil)
    (sRet (dOr (dOp neD (dVar 2) (dC (.str "table"))) (dCall 2 (fun ds => up (d.is_table_fit ds)) (dCons (dVar 0) (dCons (dVar 1) dNil))))))))))))
def b_fits_shape (d : Den) : Sl → Mo Unit := (sSeq (sDrop (dCall 1 (fun ds => up (d.look_shape ds)) (dCons (dVar 0) dNil)))
    (sSeq (sDrop (dCall 1 (fun ds => up (d.look_thing ds)) (dCons (dVar 1) dNil)))
    (sRet (dCall 2 (fun ds => up (d.is_fit ds)) (dCons (dVar 0) (dCons (dVar 1) dNil))))))
def b_shape_of_rows (d : Den) : Sl → Mo Unit := (sSeq (sAsgO 1 (dAll rowD dNil))
    (sSeq (sFor (dItems (dVar 0)) (tgN 2) (sOwn1 "list" 1 extD (dVar 2)))
    (sSeq (sAsg (tgN 3) (dLc (dItems (dVar 0)) (tgN 2) dYes (dAll lenD (dCons (dVar 2) dNil))))
    (sRet (dAll tupD (dCons (dC (.str "row")) (dCons (dCall 1 (fun ds => up (d.shape_of ds)) (dCons (dVar 1) dNil)) (dCons (dAll minD (dCons (dVar 3) dNil)) (dCons (dAll maxD (dCons (dVar 3) dNil)) dNil)))))))))
def b_shape_of_tables (d : Den) : Sl → Mo Unit := (sSeq (sAsgO 1 (dAll rowD dNil))
    (sSeq (sFor (dItems (dVar 0)) (tgN 2) (sOwn1 "list" 1 extD (dUn listKD (dVar 2))))
    (sSeq (sAsgO 3 (dAll rowD dNil))
    (sSeq (sFor (dItems (dUn sortSetD (dVar 1))) (tgN 4) (sSeq (sAsg (tgN 5) (dLc (dItems (dVar 0)) (tgN 2) (dTst (dOp (inD false) (dVar 4) (dVar 2)) isBl) (dOp ixD (dVar 2) (dVar 4))))
    (sOwn1 "list" 3 appD (dAll tupD (dCons (dVar 4) (dCons (dCall 1 (fun ds => up (d.shape_of ds)) (dCons (dVar 5) dNil)) (dCons (dOp eqD (dAll lenD (dCons (dVar 5) dNil)) (dAll lenD (dCons (dVar 0) dNil))) dNil)))))))
    (sRet (dAll tupD (dCons (dC (.str "table")) (dCons (dAll tupleD (dCons (dVar 3) dNil)) (dCons (dC .non) dNil)))))))))
def b_shape_of_kind (d : Den) : Sl → Mo Unit := (sSeq (sIf (dTst (dOp eqD (dVar 0) (dC (.str "number"))) isBl) (sRet (dAll tupD (dCons (dC (.str "number")) (dCons (dAll minD (dCons (dVar 1) dNil)) (dCons (dAll maxD (dCons (dVar 1) dNil)) dNil))))) sNil)
    (sSeq (sIf (dTst (dOp eqD (dVar 0) (dC (.str "word"))) isBl) (sRet (dAll tupD (dCons (dC (.str "word")) (dCons (dAll maxD (dCons (dLc (dItems (dVar 1)) (tgN 2) dYes (dAll lenD (dCons (dVar 2) dNil))) dNil)) dNil)))) sNil)
    (sSeq (sIf (dTst (dOp eqD (dVar 0) (dC (.str "row"))) isBl) (sRet (dCall 1 (fun ds => up (d.shape_of_rows ds)) (dCons (dVar 1) dNil))) sNil)
    (sRet (dIf (dTst (dOp eqD (dVar 0) (dC (.str "table"))) isBl) (dCall 1 (fun ds => up (d.shape_of_tables ds)) (dCons (dVar 1) dNil)) (dAll tupD (dCons (dVar 0) dNil)))))))
def b_shape_of (d : Den) : Sl → Mo Unit := (sSeq (sAsgO 1 (dAll rowD dNil))
    (sSeq (sFor (dItems (dC (.kro ((["none", "truth", "number", "word", "row", "table"] : List Str).map D.str)))) (tgN 2) (sSeq (sAsg (tgN 3) (dLc (dItems (dVar 0)) (tgN 4) (dTst (dOp eqD (dCall 1 (fun ds => up (d.kind_of ds)) (dCons (dVar 4) dNil)) (dVar 2)) isBl) (dVar 4)))
    (sIf (dTst (dVar 3) truD) (sOwn1 "list" 1 appD (dCall 2 (fun ds => up (d.shape_of_kind ds)) (dCons (dVar 2) (dCons (dVar 3) dNil)))) sNil)))
    (sRet (dIf (dTst (dOp eqD (dAll lenD (dCons (dVar 1) dNil)) (dC (.int 1))) isBl) (dOp ixD (dVar 1) (dC (.int 0))) (dAll tupD (dCons (dC (.str "or")) (dCons (dAll tupleD (dCons (dVar 1) dNil)) dNil)))))))
def b_least_shape (d : Den) : Sl → Mo Unit := (sSeq (sFor (dItems (dVar 0)) (tgN 1) (sDrop (dCall 1 (fun ds => up (d.look_thing ds)) (dCons (dVar 1) dNil))))
    (sRet (dCall 1 (fun ds => up (d.shape_of ds)) (dCons (dVar 0) dNil))))
def b__law_cell (d : Den) : Sl → Mo Unit := (sSeq (sIf (dTst (dVar 0) truD) (sRet (dOp ixD (dVar 0) (dOp modD (dVar 1) (dAll lenD (dCons (dVar 0) dNil))))) sNil)
    (sRet (dC (.int 0))))
def b__law_mix (d : Den) : Sl → Mo Unit := (sSeq (sAsg (tgN 2) (dOp modD (dOp addD (dCall 2 (fun ds => up (d._law_cell ds)) (dCons (dVar 0) (dCons (dVar 1) dNil))) (dOp mulD (dC (.int 104729)) (dOp addD (dVar 1) (dC (.int 1))))) (dC (.int 4294967291))))
    (sSeq (sAsg (tgN 2) (dOp modD (dOp powD (dVar 2) (dC (.int 5))) (dC (.int 4294967279))))
    (sRet (dOp modD (dOp addD (dOp mulD (dOp fdivD (dVar 2) (dC (.int 64))) (dC (.int 69621))) (dVar 2)) (dC (.int 4294967231))))))
def b__law_draw (d : Den) : Sl → Mo Nat := (sSeq (sTown 1)
    (sRet (dOp modD (dOp fdivD (dCall 2 (fun ds => up (d._law_mix ds)) (dCons (dVar 0) (dCons (dTown 1) dNil))) (dC (.int 8))) (dVar 2))))
def b__law_pick (d : Den) : Sl → Mo Nat := (sRet (dOp ixD (dVar 2) (dCall 3 d._law_draw (dCons (dVar 0) (dCons (dVar 1) (dCons (dAll lenD (dCons (dVar 2) dNil)) dNil))))))
def b__law_refusal (d : Den) : Sl → Mo Unit := (sSeq (sIf (dTst (dUn (isND false) (dVar 0)) isBl) (sRet (dAll tupD (dCons (dC (.str "ok")) dNil))) sNil)
    (sSeq (sAsg (tgN 1) (dAll rowD (dCons (dUn (isxD [.NestError, .BadThing, .BadText, .BadWay, .NoWay, .NoGo, .Nothing] .BadThing) (dVar 0)) (dCons (dUn (isxD [.NestError, .BadThing, .BadText, .BadWay, .NoWay, .NoGo, .Nothing] .BadText) (dVar 0)) (dCons (dUn (isxD [.NestError, .BadThing, .BadText, .BadWay, .NoWay, .NoGo, .Nothing] .BadWay) (dVar 0)) dNil)))))
    (sSeq (sAsg (tgN 1) (dOp addD (dVar 1) (dAll rowD (dCons (dUn (isxD [.NestError, .BadThing, .BadText, .BadWay, .NoWay, .NoGo, .Nothing] .NoWay) (dVar 0)) (dCons (dUn (isxD [.NestError, .BadThing, .BadText, .BadWay, .NoWay, .NoGo, .Nothing] .NoGo) (dVar 0)) (dCons (dUn (isxD [.NestError, .BadThing, .BadText, .BadWay, .NoWay, .NoGo, .Nothing] .Nothing) (dVar 0)) dNil))))))
    (sSeq (sIf (tOrD (dTst (dOp neD (dMt "list" countD (dVar 1) (dCons (dC (.bl true)) dNil)) (dC (.int 1))) isBl) (tNotD (dTst (dUn (isvD [.NestError, .BadThing, .BadText, .BadWay, .NoWay, .NoGo, .Nothing]) (dVar 0)) truD))) (sRet (dAll tupD (dCons (dC (.str "wrong")) dNil))) sNil)
    (sRet (dAll tupD (dCons (dC (.str "refused")) (dCons (dOp ixD (dAll rowD (dCons (dC (.str "thing")) (dCons (dC (.str "text")) (dCons (dC (.str "way")) (dCons (dC (.str "nothing there")) (dCons (dC (.str "go")) (dCons (dC (.str "nothing")) dNil))))))) (dMt "list" indexD (dVar 1) (dCons (dC (.bl true)) dNil))) dNil))))))))
def b__law_kind (d : Den) : Sl → Mo Unit := (sSeq (sIf (tOrD (dTst (dUn (isND false) (dVar 0)) isBl) (dTst (dUn (isiD "bool") (dVar 0)) truD)) (sRet (dIf (dTst (dUn (isND false) (dVar 0)) isBl) (dC (.int 0)) (dC (.int 1)))) sNil)
    (sSeq (sIf (dTst (dUn (isiD "int") (dVar 0)) truD) (sRet (dC (.int 2))) sNil)
    (sSeq (sIf (dTst (dUn (isiD "str") (dVar 0)) truD) (sRet (dC (.int 3))) sNil)
    (sRet (dIf (dTst (dUn (isiD "list") (dVar 0)) truD) (dC (.int 4)) (dIf (dTst (dUn (isiD "dict") (dVar 0)) truD) (dC (.int 5)) (dC (.int 6))))))))
def b__law_few (d : Den) : Sl → Mo Nat := (sSeq (sAsg (tgN 3) (dIf (dTst (dOp gtD (dVar 2) (dC (.int 0))) isBl) (dCall 3 d._law_draw (dCons (dVar 0) (dCons (dVar 1) (dCons (dC (.int 9)) dNil)))) (dCall 3 d._law_draw (dCons (dVar 0) (dCons (dVar 1) (dCons (dC (.int 4)) dNil))))))
    (sSeq (sIf (dTst (dOp ltD (dVar 3) (dC (.int 4))) isBl) (sSeq (sAsg (tgN 4) (dAll rowD (dCons (dC .non) (dCons (dC (.bl true)) (dCons (dC (.bl false)) (dCons (dC (.int 0)) (dCons (dC (.int 1)) (dCons (dUn negD (dC (.int 7))) (dCons (dCall 3 d._law_draw (dCons (dVar 0) (dCons (dVar 1) (dCons (dC (.int 100)) dNil)))) (dCons (dC (.str "")) (dCons (dC (.str "a")) (dCons (dC (.str "abc")) dNil))))))))))))
    (sRet (dCall 3 d._law_pick (dCons (dVar 0) (dCons (dVar 1) (dCons (dVar 4) dNil)))))) sNil)
    (sSeq (sIf (dTst (dOp ltD (dVar 3) (dC (.int 6))) isBl) (sRet (dLc (dRange (dCons (dCall 3 d._law_draw (dCons (dVar 0) (dCons (dVar 1) (dCons (dC (.int 4)) dNil)))) dNil)) (tgN 7) dYes (dCall 3 d._law_few (dCons (dVar 0) (dCons (dVar 1) (dCons (dOp subD (dVar 2) (dC (.int 1))) dNil)))))) sNil)
    (sSeq (sAsgO 5 (dC (.tab [])))
    (sSeq (sFor (dItems (dAll rowD (dCons (dC (.str "a")) (dCons (dC (.str "b")) (dCons (dC (.str "c")) dNil))))) (tgN 6) (sIf (dTst (dOp gtD (dCall 3 d._law_draw (dCons (dVar 0) (dCons (dVar 1) (dCons (dC (.int 3)) dNil)))) (dC (.int 0))) isBl) (sOwn2 5 setTD (dVar 6) (dCall 3 d._law_few (dCons (dVar 0) (dCons (dVar 1) (dCons (dOp subD (dVar 2) (dC (.int 1))) dNil))))) sNil))
    (sRet (dVar 5)))))))
def b__law_fits (d : Den) : Sl → Mo Unit := (sSeq (sAsg (tgN 2) (dOp ixD (dVar 0) (dC (.int 0))))
    (sSeq (sIf (dTst (dOp eqD (dVar 2) (dC (.str "or"))) isBl) (sRet (dAll anyD (dCons (dLc (dItems (dOp ixD (dVar 0) (dC (.int 1)))) (tgN 7) dYes (dCall 2 (fun ds => up (d._law_fits ds)) (dCons (dVar 7) (dCons (dVar 1) dNil)))) dNil))) sNil)
    (sSeq (sIf (dTst (dOp eqD (dVar 2) (dC (.str "any"))) isBl) (sRet (dC (.bl true))) sNil)
    (sSeq (sIf (dTst (dOp neD (dOp ixD (dAll rowD (dCons (dC (.str "none")) (dCons (dC (.str "truth")) (dCons (dC (.str "number")) (dCons (dC (.str "word")) (dCons (dC (.str "row")) (dCons (dC (.str "table")) dNil))))))) (dCall 1 (fun ds => up (d._law_kind ds)) (dCons (dVar 1) dNil))) (dVar 2)) isBl) (sRet (dC (.bl false))) sNil)
    (sSeq (sIf (dTst (dOp eqD (dVar 2) (dC (.str "number"))) isBl) (sRet (dChain leD leD (dOp ixD (dVar 0) (dC (.int 1))) (dVar 1) (dOp ixD (dVar 0) (dC (.int 2))))) sNil)
    (sSeq (sIf (dTst (dOp eqD (dVar 2) (dC (.str "word"))) isBl) (sRet (dOp leD (dAll lenD (dCons (dVar 1) dNil)) (dOp ixD (dVar 0) (dC (.int 1))))) sNil)
    (sSeq (sIf (dTst (dOp eqD (dVar 2) (dC (.str "row"))) isBl) (sRet (dAnd (dChain leD leD (dOp ixD (dVar 0) (dC (.int 2))) (dAll lenD (dCons (dVar 1) dNil)) (dOp ixD (dVar 0) (dC (.int 3)))) (dAll allD (dCons (dLc (dItems (dVar 1)) (tgN 7) dYes (dCall 2 (fun ds => up (d._law_fits ds)) (dCons (dOp ixD (dVar 0) (dC (.int 1))) (dCons (dVar 7) dNil)))) dNil)))) sNil)
    (sSeq (sIf (dTst (dOp neD (dVar 2) (dC (.str "table"))) isBl) (sRet (dC (.bl true))) sNil)
    (sSeq (sAsgO 3 (dC (.tab [])))
    (sSeq (sFor (dItems (dOp ixD (dVar 0) (dC (.int 1)))) (tgT [4, 5, 6]) (sSeq (sOwn2 3 setTD (dVar 4) (dVar 5))
    (sIf (tAndD (dTst (dVar 6) truD) (dTst (dOp (inD true) (dVar 4) (dVar 1)) isBl)) (sRet (dC (.bl false))) sNil)))
    (sSeq (sFor (fun r => bnd (dVar 1 r) fun x => lift (keysD x)) (tgN 4) (sIf (tOrD (tAndD (dTst (dOp (inD true) (dVar 4) (dVar 3)) isBl) (dTst (dUn (isND false) (dOp ixD (dVar 0) (dC (.int 2)))) isBl)) (tNotD (dTst (dCall 2 (fun ds => up (d._law_fits ds)) (dCons (dMt "dict" get2D (dVar 3) (dCons (dVar 4) (dCons (dOp ixD (dVar 0) (dC (.int 2))) dNil))) (dCons (dOp ixD (dVar 1) (dVar 4)) dNil))) truD))) (sRet (dC (.bl false))) sNil))
    (sRet (dC (.bl true))))))))))))))
def b__law_least (d : Den) : Sl → Mo Unit := (sSeq (sAsgO 1 (dAll rowD dNil))
    (sSeq (sFor (dRange (dCons (dC (.int 6)) dNil)) (tgN 2) (sSeq (sAsg (tgN 3) (dLc (dItems (dVar 0)) (tgN 7) (dTst (dOp eqD (dCall 1 (fun ds => up (d._law_kind ds)) (dCons (dVar 7) dNil)) (dVar 2)) isBl) (dVar 7)))
    (sSeq (sIf (dTst (dOp eqD (dVar 3) (dAll rowD dNil)) isBl) sCnt sNil)
    (sIf (dTst (dOp ltD (dVar 2) (dC (.int 2))) isBl) (sOwn1 "list" 1 appD (dAll tupD (dCons (dOp ixD (dAll rowD (dCons (dC (.str "none")) (dCons (dC (.str "truth")) dNil))) (dVar 2)) dNil))) (sIf (dTst (dOp eqD (dVar 2) (dC (.int 2))) isBl) (sOwn1 "list" 1 appD (dAll tupD (dCons (dC (.str "number")) (dCons (dAll minD (dCons (dVar 3) dNil)) (dCons (dAll maxD (dCons (dVar 3) dNil)) dNil))))) (sIf (dTst (dOp eqD (dVar 2) (dC (.int 3))) isBl) (sOwn1 "list" 1 appD (dAll tupD (dCons (dC (.str "word")) (dCons (dAll maxD (dCons (dLc (dItems (dVar 3)) (tgN 8) dYes (dAll lenD (dCons (dVar 8) dNil))) dNil)) dNil)))) (sIf (dTst (dOp eqD (dVar 2) (dC (.int 4))) isBl) (sSeq (sAsg (tgN 4) (dAll rowD dNil))
    (sSeq (sFor (dItems (dVar 3)) (tgN 5) (sAsg (tgN 4) (dOp addD (dVar 4) (dVar 5))))
    (sSeq (sAsg (tgN 6) (dLc (dItems (dVar 3)) (tgN 5) dYes (dAll lenD (dCons (dVar 5) dNil))))
    (sOwn1 "list" 1 appD (dAll tupD (dCons (dC (.str "row")) (dCons (dCall 1 (fun ds => up (d._law_least ds)) (dCons (dVar 4) dNil)) (dCons (dAll minD (dCons (dVar 6) dNil)) (dCons (dAll maxD (dCons (dVar 6) dNil)) dNil))))))))) (sOwn1 "list" 1 appD (dAll tupD (dCons (dC (.str "table")) (dCons (dCall 1 (fun ds => up (d._law_entries ds)) (dCons (dVar 3) dNil)) (dCons (dC .non) dNil))))))))))))
    (sRet (dIf (dTst (dOp eqD (dAll lenD (dCons (dVar 1) dNil)) (dC (.int 1))) isBl) (dOp ixD (dVar 1) (dC (.int 0))) (dAll tupD (dCons (dC (.str "or")) (dCons (dAll tupleD (dCons (dVar 1) dNil)) dNil)))))))
def b__law_entries (d : Den) : Sl → Mo Unit := (sSeq (sAsgO 1 (dC (.tab [])))
    (sSeq (sFor (dItems (dVar 0)) (tgN 2) (sFor (fun r => bnd (dVar 2 r) fun x => lift (keysD x)) (tgN 3) (sOwn2 1 setTD (dVar 3) (dOp addD (dMt "dict" get2D (dVar 1) (dCons (dVar 3) (dCons (dAll rowD dNil) dNil))) (dAll rowD (dCons (dOp ixD (dVar 2) (dVar 3)) dNil))))))
    (sRet (dAll tupleD (dCons (dLc (dItems (dUn sortKD (dVar 1))) (tgN 3) dYes (dAll tupD (dCons (dVar 3) (dCons (dCall 1 (fun ds => up (d._law_least ds)) (dCons (dOp ixD (dVar 1) (dVar 3)) dNil)) (dCons (dOp eqD (dAll lenD (dCons (dOp ixD (dVar 1) (dVar 3)) dNil)) (dAll lenD (dCons (dVar 0) dNil))) dNil))))) dNil)))))
def b__law_told (d : Den) : Sl → Mo Unit := (sSeq (sAsg (tgN 1) (dC .non))
    (sSeq (sAsg (tgN 2) (dC .non))
    (sSeq (sTryH [.NestError, .BadThing, .BadText, .BadWay, .NoWay, .NoGo, .Nothing] .NestError 3 1 (sAsg (tgN 2) (dCall 1 (fun ds => up (d.least_shape ds)) (dCons (dVar 0) dNil))))
    (sRet (dIf (dTst (dUn (isND false) (dVar 1)) isBl) (dVar 2) (dCall 1 (fun ds => up (d._law_refusal ds)) (dCons (dVar 1) dNil)))))))
def b_law (d : Den) : Sl → Mo Nat := (sSeq (sAsg (tgN 2) (dLc (dRange (dCons (dCall 3 d._law_draw (dCons (dVar 0) (dCons (dVar 1) (dCons (dC (.int 7)) dNil)))) dNil)) (tgN 6) dYes (dCall 3 d._law_few (dCons (dVar 0) (dCons (dVar 1) (dCons (dC (.int 3)) dNil))))))
    (sSeq (sAsg (tgN 3) (dCall 1 (fun ds => up (d._law_least ds)) (dCons (dVar 2) dNil)))
    (sSeq (sAsg (tgN 4) (dCall 1 (fun ds => up (d._law_told ds)) (dCons (dVar 2) dNil)))
    (sSeq (sIf (tOrD (dTst (dOp neD (dVar 4) (dVar 3)) isBl) (tNotD (dTst (dAll allD (dCons (dLc (dItems (dVar 2)) (tgN 7) dYes (dCall 2 (fun ds => up (d.fits_shape ds)) (dCons (dVar 4) (dCons (dVar 7) dNil)))) dNil)) truD))) (sRet (dC (.bl false))) sNil)
    (sSeq (sIf (tOrD (dTst (dOp neD (dCall 1 (fun ds => up (d._law_told ds)) (dCons (dUn revD (dVar 2)) dNil)) (dVar 3)) isBl) (dTst (dOp neD (dCall 1 (fun ds => up (d._law_told ds)) (dCons (dOp addD (dVar 2) (dVar 2)) dNil)) (dVar 3)) isBl)) (sRet (dC (.bl false))) sNil)
    (sSeq (sAsg (tgN 5) (dCall 3 d._law_few (dCons (dVar 0) (dCons (dVar 1) (dCons (dC (.int 3)) dNil)))))
    (sSeq (sIf (tOrD (dTst (dOp neD (dCall 2 (fun ds => up (d.fits_shape ds)) (dCons (dVar 4) (dCons (dVar 5) dNil))) (dCall 2 (fun ds => up (d._law_fits ds)) (dCons (dVar 3) (dCons (dVar 5) dNil)))) isBl) (dTst (dOp neD (dCall 1 (fun ds => up (d._law_told ds)) (dCons (dOp addD (dVar 2) (dAll rowD (dCons (dVar 5) dNil))) dNil)) (dCall 1 (fun ds => up (d._law_least ds)) (dCons (dOp addD (dVar 2) (dAll rowD (dCons (dVar 5) dNil))) dNil))) isBl)) (sRet (dC (.bl false))) sNil)
    (sSeq (sIf (tAndD (dTst (dOp eqD (dCall 1 (fun ds => up (d._law_told ds)) (dCons (dOp addD (dVar 2) (dAll rowD (dCons (dVar 5) dNil))) dNil)) (dVar 3)) isBl) (tNotD (dTst (dCall 2 (fun ds => up (d.fits_shape ds)) (dCons (dVar 4) (dCons (dVar 5) dNil))) truD))) (sRet (dC (.bl false))) sNil)
    (sRet (dOp eqD (dCall 1 (fun ds => up (d._law_told ds)) (dCons (dOp addD (dVar 2) (dAll rowD (dCons (dAll rowD (dCons (dOp mulD (dC (.str "x")) (dC (.int 61))) dNil)) dNil))) dNil)) (dAll tupD (dCons (dC (.str "refused")) (dCons (dC (.str "thing")) dNil)))))))))))))
def step (d : Den) : Den where
  kind_of := fnD 1 (b_kind_of d)
  is_sign := fnD 1 (b_is_sign d)
  is_word := fnD 2 (b_is_word d)
  is_thing := fnD 5 (b_is_thing d)
  inner_things := fnD 2 (b_inner_things d)
  look_thing := fnD 1 (b_look_thing d)
  is_entry := fnD 2 (b_is_entry d)
  is_table_shape := fnD 4 (b_is_table_shape d)
  is_shape := fnD 3 (b_is_shape d)
  look_shape := fnD 1 (b_look_shape d)
  is_table_fit := fnD 8 (b_is_table_fit d)
  is_fit := fnD 4 (b_is_fit d)
  fits_shape := fnD 2 (b_fits_shape d)
  shape_of_rows := fnD 4 (b_shape_of_rows d)
  shape_of_tables := fnD 6 (b_shape_of_tables d)
  shape_of_kind := fnD 3 (b_shape_of_kind d)
  shape_of := fnD 5 (b_shape_of d)
  least_shape := fnD 2 (b_least_shape d)
  _law_cell := fnD 2 (b__law_cell d)
  _law_mix := fnD 3 (b__law_mix d)
  _law_draw := fnD 3 (b__law_draw d)
  _law_pick := fnD 3 (b__law_pick d)
  _law_refusal := fnD 2 (b__law_refusal d)
  _law_kind := fnD 1 (b__law_kind d)
  _law_few := fnD 8 (b__law_few d)
  _law_fits := fnD 8 (b__law_fits d)
  _law_least := fnD 9 (b__law_least d)
  _law_entries := fnD 4 (b__law_entries d)
  _law_told := fnD 4 (b__law_told d)
def den : Nat → Den
  | 0 => ⟨gBot, gBot, gBot, gBot, gBot, gBot, gBot, gBot, gBot, gBot, gBot, gBot, gBot, gBot, gBot, gBot, gBot, gBot, gBot, gBot, gBot, gBot, gBot, gBot, gBot, gBot, gBot, gBot, gBot⟩
  | k + 1 => step (den k)
structure Hyp (P : Program) (w : World) (K : PySem.W.Frag) (mg : Str → Option Value) (base : Heap) (k : Nat) (d : Den) : Prop where
  kind_of : Has P w K mg base k "kind_of" (spP K 1 d.kind_of)
  is_sign : Has P w K mg base k "is_sign" (spP K 1 d.is_sign)
  is_word : Has P w K mg base k "is_word" (spP K 1 d.is_word)
  is_thing : Has P w K mg base k "is_thing" (spP K 2 d.is_thing)
  inner_things : Has P w K mg base k "inner_things" (spP K 1 d.inner_things)
  look_thing : Has P w K mg base k "look_thing" (spP K 1 d.look_thing)
  is_entry : Has P w K mg base k "is_entry" (spP K 2 d.is_entry)
  is_table_shape : Has P w K mg base k "is_table_shape" (spP K 2 d.is_table_shape)
  is_shape : Has P w K mg base k "is_shape" (spP K 2 d.is_shape)
  look_shape : Has P w K mg base k "look_shape" (spP K 1 d.look_shape)
  is_table_fit : Has P w K mg base k "is_table_fit" (spP K 2 d.is_table_fit)
  is_fit : Has P w K mg base k "is_fit" (spP K 2 d.is_fit)
  fits_shape : Has P w K mg base k "fits_shape" (spP K 2 d.fits_shape)
  shape_of_rows : Has P w K mg base k "shape_of_rows" (spP K 1 d.shape_of_rows)
  shape_of_tables : Has P w K mg base k "shape_of_tables" (spP K 1 d.shape_of_tables)
  shape_of_kind : Has P w K mg base k "shape_of_kind" (spP K 2 d.shape_of_kind)
  shape_of : Has P w K mg base k "shape_of" (spP K 1 d.shape_of)
  least_shape : Has P w K mg base k "least_shape" (spP K 1 d.least_shape)
  _law_cell : Has P w K mg base k "_law_cell" (spP K 2 d._law_cell)
  _law_mix : Has P w K mg base k "_law_mix" (spP K 2 d._law_mix)
  _law_draw : Has P w K mg base k "_law_draw" (spT K 3 d._law_draw)
  _law_pick : Has P w K mg base k "_law_pick" (spT K 3 d._law_pick)
  _law_refusal : Has P w K mg base k "_law_refusal" (spP K 1 d._law_refusal)
  _law_kind : Has P w K mg base k "_law_kind" (spP K 1 d._law_kind)
  _law_few : Has P w K mg base k "_law_few" (spT K 3 d._law_few)
  _law_fits : Has P w K mg base k "_law_fits" (spP K 2 d._law_fits)
  _law_least : Has P w K mg base k "_law_least" (spP K 1 d._law_least)
  _law_entries : Has P w K mg base k "_law_entries" (spP K 1 d._law_entries)
  _law_told : Has P w K mg base k "_law_told" (spP K 1 d._law_told)
structure Fx (w : World) (K : PySem.W.Frag) (mg : Str → Option Value) : Prop where
  xf : XF K [.NestError, .BadThing, .BadText, .BadWay, .NoWay, .NoGo, .Nothing]
  f_ValueError : mg "ValueError" = none
  f_abs : mg "abs" = none
  f_all : mg "all" = none
  f_any : mg "any" = none
  f_bool : mg "bool" = none
  f_dict : mg "dict" = none
  f_int : mg "int" = none
  f_isinstance : mg "isinstance" = none
  f_len : mg "len" = none
  f_list : mg "list" = none
  f_max : mg "max" = none
  f_min : mg "min" = none
  f_ord : mg "ord" = none
  f_range : mg "range" = none
  f_set : mg "set" = none
  f_sorted : mg "sorted" = none
  f_str : mg "str" = none
  f_tuple : mg "tuple" = none
  c_BadText : mg "BadText" = some (.ref (eA K .BadText))
  c_BadThing : mg "BadThing" = some (.ref (eA K .BadThing))
  c_BadWay : mg "BadWay" = some (.ref (eA K .BadWay))
  c_NestError : mg "NestError" = some (.ref (eA K .NestError))
  c_NoGo : mg "NoGo" = some (.ref (eA K .NoGo))
  c_NoWay : mg "NoWay" = some (.ref (eA K .NoWay))
  c_Nothing : mg "Nothing" = some (.ref (eA K .Nothing))
  e_BadThing : PySem.W.excIn K (eA K .BadThing) He.veBase "ValueError.__new__" = true
  k_BadThing : PySem.W.keepIn K (.ref (eA K .BadThing)) = true
  g_MOST_DEEP_shapes : ∃ t, mg "MOST_DEEP_shapes" = some (.int 30 t)
  g_MOST_DEEP_things : ∃ t, mg "MOST_DEEP_things" = some (.int 12 t)
  g_MOST_MANY : ∃ t, mg "MOST_MANY" = some (.int 1000000 t)
  g_MOST_NUMBER : ∃ t, mg "MOST_NUMBER" = some (.int 999999999999999 t)
  g_MOST_SIGNS : ∃ t, mg "MOST_SIGNS" = some (.int 60 t)
  t_SIZES : KTab K w (He.ga K "SIZES") [("any", 1), ("none", 1), ("truth", 1), ("number", 3), ("word", 2), ("row", 4), ("table", 3), ("or", 2)]
  l_KINDS : KLst K (He.ga K "KINDS") ["none", "truth", "number", "word", "row", "table"]
  m_KINDS : mg "KINDS" = some (.ref (He.ga K "KINDS"))
  m_SIZES : mg "SIZES" = some (.ref (He.ga K "SIZES"))
def n_kind_of : List Str := ["thing"]
theorem body_kind_of {P : Program} {w : World} {K : PySem.W.Frag} {mg : Str → Option Value} {base : Heap} {k : Nat} {d : Den} (fx : Fx w K mg) (hy : Hyp P w K mg base k d) (nm : Nat → Option Addr) : BodyOk P w K mg base n_kind_of "kind_of" (defScope s_kind_of) (defBody s_kind_of) k (R0 K nm) false [] (b_kind_of d) :=
  fun f cdv A outer s H E c hp => (dss_cons (ds_if (dt_isN (de_var 0 (by decide))) (dss_one (ds_ret de_str)) dss_nil)
    (dss_cons (ds_if (dt_tru c.hK (de_isi "bool" c rfl fx.f_isinstance rfl fx.f_bool (by decide +kernel) (de_var 0 (by decide)))) (dss_one (ds_ret de_str)) dss_nil)
    (dss_cons (ds_if (dt_tru c.hK (de_isi "int" c rfl fx.f_isinstance rfl fx.f_int (by decide +kernel) (de_var 0 (by decide)))) (dss_one (ds_ret de_str)) dss_nil)
    (dss_cons (ds_if (dt_tru c.hK (de_isi "str" c rfl fx.f_isinstance rfl fx.f_str (by decide +kernel) (de_var 0 (by decide)))) (dss_one (ds_ret de_str)) dss_nil)
    (dss_one (ds_ret (de_if (dt_tru c.hK (de_isi "list" c rfl fx.f_isinstance rfl fx.f_list (by decide +kernel) (de_var 0 (by decide)))) de_str de_str)))))))
theorem sc_kind_of : FnScope n_kind_of ["thing"] (defScope s_kind_of) := ⟨rfl, rfl, rfl, by decide +kernel, rfl, by decide +kernel, by decide +kernel⟩
def n_is_sign : List Str := ["sign"]
theorem body_is_sign {P : Program} {w : World} {K : PySem.W.Frag} {mg : Str → Option Value} {base : Heap} {k : Nat} {d : Den} (fx : Fx w K mg) (hy : Hyp P w K mg base k d) (nm : Nat → Option Addr) : BodyOk P w K mg base n_is_sign "is_sign" (defScope s_is_sign) (defBody s_is_sign) k (R0 K nm) false [] (b_is_sign d) :=
  fun f cdv A outer s H E c hp => (dss_one (ds_ret (de_and c.hK (de_chain ck_le ck_lt de_int (de_ord rfl fx.f_ord (da_cons (de_var 0 (by decide)) da_nil)) de_int) (de_one (de_ck (ck_ne c) (de_ord rfl fx.f_ord (da_cons (de_var 0 (by decide)) da_nil)) de_int rfl)))))
theorem sc_is_sign : FnScope n_is_sign ["sign"] (defScope s_is_sign) := ⟨rfl, rfl, rfl, by decide +kernel, rfl, by decide +kernel, by decide +kernel⟩
def n_is_word : List Str := ["word", "sign"]
theorem body_is_word {P : Program} {w : World} {K : PySem.W.Frag} {mg : Str → Option Value} {base : Heap} {k : Nat} {d : Den} (fx : Fx w K mg) (hy : Hyp P w K mg base k d) (nm : Nat → Option Addr) : BodyOk P w K mg base n_is_word "is_word" (defScope s_is_word) (defBody s_is_word) k (R0 K nm) false [] (b_is_word d) :=
  fun f cdv A outer s H E c hp => (dss_one (ds_ret (de_and c.hK (de_ck ck_le (de_len c.hK rfl fx.f_len (da_cons (de_var 0 (by decide)) da_nil)) (de_gint rfl fx.g_MOST_SIGNS) rfl) (de_one (de_all c rfl fx.f_all (da_cons (de_give (df_lc (own := [("sign", 1)]) c (di_any c.hK (de_var 0 (by decide))) (blkOk_by (N := n_is_word) (sc := defScope s_is_word) (by decide +kernel)) tg_name (fun _ _ _ _ _ => (pg_name c.nd (i := 1) rfl (by first | exact Or.inl rfl | exact Or.inr rfl))) (fun _ _ _ _ _ c' => dts_nil) (fun _ _ _ _ _ c' => (de_callP c' hy.is_sign rfl (da_cons (de_var 1 (by decide)) da_nil))))) da_nil))))))
theorem sc_is_word : FnScope n_is_word ["word"] (defScope s_is_word) := ⟨rfl, rfl, rfl, by decide +kernel, rfl, by decide +kernel, by decide +kernel⟩
def n_is_thing : List Str := ["thing", "deep", "kind", "one", "key"]
theorem body_is_thing {P : Program} {w : World} {K : PySem.W.Frag} {mg : Str → Option Value} {base : Heap} {k : Nat} {d : Den} (fx : Fx w K mg) (hy : Hyp P w K mg base k d) (nm : Nat → Option Addr) : BodyOk P w K mg base n_is_thing "is_thing" (defScope s_is_thing) (defBody s_is_thing) k (R0 K nm) false [] (b_is_thing d) :=
  fun f cdv A outer s H E c hp => (dss_cons (ds_set (O' := []) c.nd (i := 2) rfl (by first | exact Or.inl rfl | exact Or.inr rfl) (de_callP c hy.kind_of rfl (da_cons (de_var 0 (by decide)) da_nil)) (by decide) (by decide))
    (dss_cons (ds_if (dt_ck (ck_eq c) (de_var 2 (by decide)) de_str rfl) (dss_one (ds_ret (de_ck ck_le (de_abs rfl fx.f_abs (da_cons (de_var 0 (by decide)) da_nil)) (de_gint rfl fx.g_MOST_NUMBER) rfl))) dss_nil)
    (dss_cons (ds_if (dt_ck (ck_eq c) (de_var 2 (by decide)) de_str rfl) (dss_one (ds_ret (de_callP c hy.is_word rfl (da_cons (de_var 0 (by decide)) da_nil)))) dss_nil)
    (dss_cons (ds_if (dt_ck (ck_notin c) (de_var 2 (by decide)) (de_tup (da_cons de_str (da_cons de_str da_nil))) rfl) (dss_one (ds_ret de_bl)) dss_nil)
    (dss_cons (ds_if (PW.pt (dw_or (dt_ck (ck_eq c) (de_var 1 (by decide)) (de_gint rfl fx.g_MOST_DEEP_things) rfl) (dw_or1 (PW.pt (dw_and (dt_ck (ck_eq c) (de_var 2 (by decide)) de_str rfl) (dw_and1 (dt_not (dt_tru c.hK (de_all c rfl fx.f_all (da_cons (de_lcW (own := [("key", 4)]) keysD_tab (by decide) c (di_keysL 0 (by decide) rfl (by first | exact Or.inl rfl | exact Or.inr (Or.inl rfl) | exact Or.inr (Or.inr rfl))) (blkOk_by (N := n_is_thing) (sc := defScope s_is_thing) (by decide +kernel)) tg_name (fun _ _ _ _ _ => (pg_name c.nd (i := 4) rfl (by first | exact Or.inl rfl | exact Or.inr rfl))) (fun _ _ _ _ _ c' => dts_nil) (fun _ _ _ _ _ c' => (de_callP c' hy.is_word rfl (da_cons (de_var 4 (by decide)) da_nil)))) da_nil)))))))))) (dss_one (ds_ret de_bl)) dss_nil)
    (dss_one (ds_ret (de_all c rfl fx.f_all (da_cons (de_give (df_lc (own := [("one", 3)]) c (di_any c.hK (de_callP c hy.inner_things rfl (da_cons (de_var 0 (by decide)) da_nil))) (blkOk_by (N := n_is_thing) (sc := defScope s_is_thing) (by decide +kernel)) tg_name (fun _ _ _ _ _ => (pg_name c.nd (i := 3) rfl (by first | exact Or.inl rfl | exact Or.inr rfl))) (fun _ _ _ _ _ c' => dts_nil) (fun _ _ _ _ _ c' => (de_callP c' hy.is_thing rfl (da_cons (de_var 3 (by decide)) (da_cons (de_add c'.hK (de_var 1 (by decide)) de_int) da_nil)))))) da_nil)))))))))
theorem sc_is_thing : FnScope n_is_thing ["thing", "deep"] (defScope s_is_thing) := ⟨rfl, rfl, rfl, by decide +kernel, rfl, by decide +kernel, by decide +kernel⟩
def n_inner_things : List Str := ["thing", "key"]
theorem body_inner_things {P : Program} {w : World} {K : PySem.W.Frag} {mg : Str → Option Value} {base : Heap} {k : Nat} {d : Den} (fx : Fx w K mg) (hy : Hyp P w K mg base k d) (nm : Nat → Option Addr) : BodyOk P w K mg base n_inner_things "inner_things" (defScope s_inner_things) (defBody s_inner_things) k (R0 K nm) false [] (b_inner_things d) :=
  fun f cdv A outer s H E c hp => (dss_cons (ds_if (dt_ck (ck_eq c) (de_callP c hy.kind_of rfl (da_cons (de_var 0 (by decide)) da_nil)) de_str rfl) (dss_one (ds_ret (de_list c rfl fx.f_list (da_cons (de_var 0 (by decide)) da_nil)))) dss_nil)
    (dss_one (ds_ret (de_if (dt_ck (ck_eq c) (de_callP c hy.kind_of rfl (da_cons (de_var 0 (by decide)) da_nil)) de_str rfl) (de_give (df_lc (own := [("key", 1)]) c (di_any c.hK (de_sortedK c rfl fx.f_sorted (de_var 0 (by decide)))) (blkOk_by (N := n_inner_things) (sc := defScope s_inner_things) (by decide +kernel)) tg_name (fun _ _ _ _ _ => (pg_name c.nd (i := 1) rfl (by first | exact Or.inl rfl | exact Or.inr rfl))) (fun _ _ _ _ _ c' => dts_nil) (fun _ _ _ _ _ c' => (de_ix c' (de_var 0 (by decide)) (de_var 1 (by decide)))))) (de_lst da_nil)))))
theorem sc_inner_things : FnScope n_inner_things ["thing"] (defScope s_inner_things) := ⟨rfl, rfl, rfl, by decide +kernel, rfl, by decide +kernel, by decide +kernel⟩
def n_look_thing : List Str := ["thing"]
theorem body_look_thing {P : Program} {w : World} {K : PySem.W.Frag} {mg : Str → Option Value} {base : Heap} {k : Nat} {d : Den} (fx : Fx w K mg) (hy : Hyp P w K mg base k d) (nm : Nat → Option Addr) : BodyOk P w K mg base n_look_thing "look_thing" (defScope s_look_thing) (defBody s_look_thing) k (R0 K nm) false [] (b_look_thing d) :=
  fun f cdv A outer s H E c hp => (dss_one (ds_if (dt_not (dt_tru c.hK (de_callP c hy.is_thing rfl (da_cons (de_var 0 (by decide)) (da_cons de_int da_nil))))) (dss_one (ds_raise c (c := .BadThing) rfl fx.e_BadThing fx.c_BadThing fx.k_BadThing (fx.xf.xc _ (by decide)) rfl)) dss_nil))
theorem sc_look_thing : FnScope n_look_thing ["thing"] (defScope s_look_thing) := ⟨rfl, rfl, rfl, by decide +kernel, rfl, by decide +kernel, by decide +kernel⟩
def n_is_entry : List Str := ["entry", "deep"]
theorem body_is_entry {P : Program} {w : World} {K : PySem.W.Frag} {mg : Str → Option Value} {base : Heap} {k : Nat} {d : Den} (fx : Fx w K mg) (hy : Hyp P w K mg base k d) (nm : Nat → Option Addr) : BodyOk P w K mg base n_is_entry "is_entry" (defScope s_is_entry) (defBody s_is_entry) k (R0 K nm) false [] (b_is_entry d) :=
  fun f cdv A outer s H E c hp => (dss_one (ds_ret (de_and c.hK (de_ck (ck_eq c) (de_len c.hK rfl fx.f_len (da_cons (de_var 0 (by decide)) da_nil)) de_int rfl) (de_and c.hK (de_callP c hy.is_word rfl (da_cons (de_ix c (de_var 0 (by decide)) de_int) da_nil)) (de_and c.hK (de_callP c hy.is_shape rfl (da_cons (de_ix c (de_var 0 (by decide)) de_int) (da_cons (de_var 1 (by decide)) da_nil))) (de_one (de_ck (ck_in c) (de_ix c (de_var 0 (by decide)) de_int) (de_tup (da_cons de_bl (da_cons de_bl da_nil))) rfl)))))))
theorem sc_is_entry : FnScope n_is_entry ["entry", "deep"] (defScope s_is_entry) := ⟨rfl, rfl, rfl, by decide +kernel, rfl, by decide +kernel, by decide +kernel⟩
def n_is_table_shape : List Str := ["shape", "deep", "keys", "entry"]
theorem body_is_table_shape {P : Program} {w : World} {K : PySem.W.Frag} {mg : Str → Option Value} {base : Heap} {k : Nat} {d : Den} (fx : Fx w K mg) (hy : Hyp P w K mg base k d) (nm : Nat → Option Addr) : BodyOk P w K mg base n_is_table_shape "is_table_shape" (defScope s_is_table_shape) (defBody s_is_table_shape) k (R0 K nm) false [] (b_is_table_shape d) :=
  fun f cdv A outer s H E c hp => (dss_cons (ds_if (dt_not (dt_tru c.hK (de_all c rfl fx.f_all (da_cons (de_give (df_lc (own := [("entry", 3)]) c (di_any c.hK (de_ix c (de_var 0 (by decide)) de_int)) (blkOk_by (N := n_is_table_shape) (sc := defScope s_is_table_shape) (by decide +kernel)) tg_name (fun _ _ _ _ _ => (pg_name c.nd (i := 3) rfl (by first | exact Or.inl rfl | exact Or.inr rfl))) (fun _ _ _ _ _ c' => dts_nil) (fun _ _ _ _ _ c' => (de_callP c' hy.is_entry rfl (da_cons (de_var 3 (by decide)) (da_cons (de_add c'.hK (de_var 1 (by decide)) de_int) da_nil)))))) da_nil)))) (dss_one (ds_ret de_bl)) dss_nil)
    (dss_cons (ds_setLc (own := [("entry", 3)]) (O' := []) c 2 rfl rfl (di_any c.hK (de_ix c (de_var 0 (by decide)) de_int)) (blkOk_by (N := n_is_table_shape) (sc := defScope s_is_table_shape) (by decide +kernel)) tg_name (fun _ _ _ _ _ => (pg_name c.nd (i := 3) rfl (by first | exact Or.inl rfl | exact Or.inr rfl))) (fun _ _ _ _ _ c' => dts_nil) (fun _ _ _ _ _ c' => (de_ix c' (de_var 3 (by decide)) de_int)) (by decide) (by decide))
    (dss_one (ds_ret (de_and c.hK (de_ck (ck_eq c) (de_var 2 (by decide)) (de_sortSet c rfl fx.f_sorted rfl fx.f_set (de_var 2 (by decide))) rfl) (de_one (de_or c.hK (de_isN (de_ix c (de_var 0 (by decide)) de_int)) (de_one (de_callP c hy.is_shape rfl (da_cons (de_ix c (de_var 0 (by decide)) de_int) (da_cons (de_add c.hK (de_var 1 (by decide)) de_int) da_nil)))))))))))
theorem sc_is_table_shape : FnScope n_is_table_shape ["shape", "deep"] (defScope s_is_table_shape) := ⟨rfl, rfl, rfl, by decide +kernel, rfl, by decide +kernel, by decide +kernel⟩
def n_is_shape : List Str := ["shape", "deep", "one"]
theorem body_is_shape {P : Program} {w : World} {K : PySem.W.Frag} {mg : Str → Option Value} {base : Heap} {k : Nat} {d : Den} (fx : Fx w K mg) (hy : Hyp P w K mg base k d) (nm : Nat → Option Addr) : BodyOk P w K mg base n_is_shape "is_shape" (defScope s_is_shape) (defBody s_is_shape) k (R0 K nm) false [] (b_is_shape d) :=
  fun f cdv A outer s H E c hp => (dss_cons (ds_if (PW.pt (dw_or (dt_not (dt_tru c.hK (de_var 0 (by decide)))) (dw_or (dt_ck (ck_ne c) (de_len c.hK rfl fx.f_len (da_cons (de_var 0 (by decide)) da_nil)) (de_kget c fx.t_SIZES rfl fx.m_SIZES (da_cons (de_ix c (de_var 0 (by decide)) de_int) (da_cons de_int da_nil))) rfl) (dw_or1 (dt_ck ck_gt (de_var 1 (by decide)) (de_gint rfl fx.g_MOST_DEEP_shapes) rfl))))) (dss_one (ds_ret de_bl)) dss_nil)
    (dss_cons (ds_if (dt_ck (ck_eq c) (de_ix c (de_var 0 (by decide)) de_int) de_str rfl) (dss_one (ds_ret (de_chain3 ck_le ck_le ck_le (de_neg (de_gint rfl fx.g_MOST_NUMBER)) (de_ix c (de_var 0 (by decide)) de_int) (de_ix c (de_var 0 (by decide)) de_int) (de_gint rfl fx.g_MOST_NUMBER)))) dss_nil)
    (dss_cons (ds_if (dt_ck (ck_eq c) (de_ix c (de_var 0 (by decide)) de_int) de_str rfl) (dss_one (ds_ret (de_chain ck_le ck_le de_int (de_ix c (de_var 0 (by decide)) de_int) (de_gint rfl fx.g_MOST_SIGNS)))) dss_nil)
    (dss_cons (ds_if (dt_ck (ck_eq c) (de_ix c (de_var 0 (by decide)) de_int) de_str rfl) (dss_one (ds_ret (de_and c.hK (de_chain3 ck_le ck_le ck_le de_int (de_ix c (de_var 0 (by decide)) de_int) (de_ix c (de_var 0 (by decide)) de_int) (de_gint rfl fx.g_MOST_MANY)) (de_one (de_callP c hy.is_shape rfl (da_cons (de_ix c (de_var 0 (by decide)) de_int) (da_cons (de_add c.hK (de_var 1 (by decide)) de_int) da_nil))))))) dss_nil)
    (dss_cons (ds_if (dt_ck (ck_eq c) (de_ix c (de_var 0 (by decide)) de_int) de_str rfl) (dss_one (ds_ret (de_callP c hy.is_table_shape rfl (da_cons (de_var 0 (by decide)) (da_cons (de_var 1 (by decide)) da_nil))))) dss_nil)
    (dss_one (ds_ret (de_or c.hK (de_ck (ck_ne c) (de_ix c (de_var 0 (by decide)) de_int) de_str rfl) (de_one (de_all c rfl fx.f_all (da_cons (de_give (df_lc (own := [("one", 2)]) c (di_any c.hK (de_ix c (de_var 0 (by decide)) de_int)) (blkOk_by (N := n_is_shape) (sc := defScope s_is_shape) (by decide +kernel)) tg_name (fun _ _ _ _ _ => (pg_name c.nd (i := 2) rfl (by first | exact Or.inl rfl | exact Or.inr rfl))) (fun _ _ _ _ _ c' => dts_nil) (fun _ _ _ _ _ c' => (de_callP c' hy.is_shape rfl (da_cons (de_var 2 (by decide)) (da_cons (de_add c'.hK (de_var 1 (by decide)) de_int) da_nil)))))) da_nil)))))))))))
theorem sc_is_shape : FnScope n_is_shape ["shape", "deep"] (defScope s_is_shape) := ⟨rfl, rfl, rfl, by decide +kernel, rfl, by decide +kernel, by decide +kernel⟩
def n_look_shape : List Str := ["shape"]
theorem body_look_shape {P : Program} {w : World} {K : PySem.W.Frag} {mg : Str → Option Value} {base : Heap} {k : Nat} {d : Den} (fx : Fx w K mg) (hy : Hyp P w K mg base k d) (nm : Nat → Option Addr) : BodyOk P w K mg base n_look_shape "look_shape" (defScope s_look_shape) (defBody s_look_shape) k (R0 K nm) false [] (b_look_shape d) :=
  fun f cdv A outer s H E c hp => (dss_one (ds_if (dt_not (dt_tru c.hK (de_callP c hy.is_shape rfl (da_cons (de_var 0 (by decide)) (da_cons de_int da_nil))))) (dss_one (ds_raise c (c := .BadThing) rfl fx.e_BadThing fx.c_BadThing fx.k_BadThing (fx.xf.xc _ (by decide)) rfl)) dss_nil))
theorem sc_look_shape : FnScope n_look_shape ["shape"] (defScope s_look_shape) := ⟨rfl, rfl, rfl, by decide +kernel, rfl, by decide +kernel, by decide +kernel⟩
def n_is_table_fit : List Str := ["shape", "thing", "keys", "key", "inner", "must", "rest", "entry"]
theorem body_is_table_fit {P : Program} {w : World} {K : PySem.W.Frag} {mg : Str → Option Value} {base : Heap} {k : Nat} {d : Den} (fx : Fx w K mg) (hy : Hyp P w K mg base k d) (nm : Nat → Option Addr) : BodyOk P w K mg base n_is_table_fit "is_table_fit" (defScope s_is_table_fit) (defBody s_is_table_fit) k (R0 K nm) false [] (b_is_table_fit d) :=
  fun f cdv A outer s H E c hp => (dss_cons (ds_set (O' := []) c.nd (i := 2) rfl (by first | exact Or.inl rfl | exact Or.inr rfl) (de_give (df_lc (own := [("entry", 7)]) c (di_any c.hK (de_ix c (de_var 0 (by decide)) de_int)) (blkOk_by (N := n_is_table_fit) (sc := defScope s_is_table_fit) (by decide +kernel)) tg_name (fun _ _ _ _ _ => (pg_name c.nd (i := 7) rfl (by first | exact Or.inl rfl | exact Or.inr rfl))) (fun _ _ _ _ _ c' => dts_nil) (fun _ _ _ _ _ c' => (de_ix c' (de_var 7 (by decide)) de_int)))) (by decide) (by decide))
    (dss_cons (ds_for hp rfl (di_any c.hK (de_ix c (de_var 0 (by decide)) de_int)) (pg_tup c.calm (pgs_cons (pg_name c.nd (i := 3) rfl (by first | exact Or.inl rfl | exact Or.inr rfl)) (pgs_cons (pg_name c.nd (i := 4) rfl (by first | exact Or.inl rfl | exact Or.inr rfl)) (pgs_cons (pg_name c.nd (i := 5) rfl (by first | exact Or.inl rfl | exact Or.inr rfl)) pgs_nil)))) (tg_names [3, 4, 5]) (dss_one (ds_if (PW.pt (dw_or (PW.pt (dw_and (dt_ck (ck_in c) (de_var 3 (by decide)) (de_var 1 (by decide)) rfl) (dw_and1 (dt_not (dt_tru c.hK (de_callP c hy.is_fit rfl (da_cons (de_var 4 (by decide)) (da_cons (de_ix c (de_var 1 (by decide)) (de_var 3 (by decide))) da_nil)))))))) (dw_or1 (PW.pt (dw_and (dt_tru c.hK (de_var 5 (by decide))) (dw_and1 (dt_ck (ck_notin c) (de_var 3 (by decide)) (de_var 1 (by decide)) rfl))))))) (dss_one (ds_ret de_bl)) dss_nil)) (by decide))
    (dss_cons (ds_setLcW (own := [("key", 3)]) (O' := []) keysD_tab (by decide) c 6 rfl rfl (di_keysL 1 (by decide) rfl (by first | exact Or.inl rfl | exact Or.inr (Or.inl rfl) | exact Or.inr (Or.inr rfl))) (blkOk_by (N := n_is_table_fit) (sc := defScope s_is_table_fit) (by decide +kernel)) tg_name (fun _ _ _ _ _ => (pg_name c.nd (i := 3) rfl (by first | exact Or.inl rfl | exact Or.inr rfl))) (fun _ _ _ _ _ c' => (dts_one (dt_ck (ck_notin c') (de_var 3 (by decide)) (de_var 2 (by decide)) rfl))) (fun _ _ _ _ _ c' => (de_var 3 (by decide))) (by decide) (by decide))
    (dss_one (ds_ret (de_all c rfl fx.f_all (da_cons (de_give (df_lc (own := [("key", 3)]) c (di_any c.hK (de_var 6 (by decide))) (blkOk_by (N := n_is_table_fit) (sc := defScope s_is_table_fit) (by decide +kernel)) tg_name (fun _ _ _ _ _ => (pg_name c.nd (i := 3) rfl (by first | exact Or.inl rfl | exact Or.inr rfl))) (fun _ _ _ _ _ c' => dts_nil) (fun _ _ _ _ _ c' => (de_and c'.hK (de_notN (de_ix c' (de_var 0 (by decide)) de_int)) (de_one (de_callP c' hy.is_fit rfl (da_cons (de_ix c' (de_var 0 (by decide)) de_int) (da_cons (de_ix c' (de_var 1 (by decide)) (de_var 3 (by decide))) da_nil)))))))) da_nil)))))))
theorem sc_is_table_fit : FnScope n_is_table_fit ["shape", "thing"] (defScope s_is_table_fit) := ⟨rfl, rfl, rfl, by decide +kernel, rfl, by decide +kernel, by decide +kernel⟩
def n_is_fit : List Str := ["shape", "thing", "word", "one"]
theorem body_is_fit {P : Program} {w : World} {K : PySem.W.Frag} {mg : Str → Option Value} {base : Heap} {k : Nat} {d : Den} (fx : Fx w K mg) (hy : Hyp P w K mg base k d) (nm : Nat → Option Addr) : BodyOk P w K mg base n_is_fit "is_fit" (defScope s_is_fit) (defBody s_is_fit) k (R0 K nm) false [] (b_is_fit d) :=
  fun f cdv A outer s H E c hp => (dss_cons (ds_set (O' := []) c.nd (i := 2) rfl (by first | exact Or.inl rfl | exact Or.inr rfl) (de_ix c (de_var 0 (by decide)) de_int) (by decide) (by decide))
    (dss_cons (ds_if (dt_ck (ck_eq c) (de_var 2 (by decide)) de_str rfl) (dss_one (ds_ret de_bl)) dss_nil)
    (dss_cons (ds_if (dt_ck (ck_eq c) (de_var 2 (by decide)) de_str rfl) (dss_one (ds_ret (de_any c rfl fx.f_any (da_cons (de_give (df_lc (own := [("one", 3)]) c (di_any c.hK (de_ix c (de_var 0 (by decide)) de_int)) (blkOk_by (N := n_is_fit) (sc := defScope s_is_fit) (by decide +kernel)) tg_name (fun _ _ _ _ _ => (pg_name c.nd (i := 3) rfl (by first | exact Or.inl rfl | exact Or.inr rfl))) (fun _ _ _ _ _ c' => dts_nil) (fun _ _ _ _ _ c' => (de_callP c' hy.is_fit rfl (da_cons (de_var 3 (by decide)) (da_cons (de_var 1 (by decide)) da_nil)))))) da_nil)))) dss_nil)
    (dss_cons (ds_if (dt_ck (ck_ne c) (de_callP c hy.kind_of rfl (da_cons (de_var 1 (by decide)) da_nil)) (de_var 2 (by decide)) rfl) (dss_one (ds_ret de_bl)) dss_nil)
    (dss_cons (ds_if (dt_ck (ck_eq c) (de_var 2 (by decide)) de_str rfl) (dss_one (ds_ret (de_chain ck_le ck_le (de_ix c (de_var 0 (by decide)) de_int) (de_var 1 (by decide)) (de_ix c (de_var 0 (by decide)) de_int)))) dss_nil)
    (dss_cons (ds_if (dt_ck (ck_eq c) (de_var 2 (by decide)) de_str rfl) (dss_one (ds_ret (de_ck ck_le (de_len c.hK rfl fx.f_len (da_cons (de_var 1 (by decide)) da_nil)) (de_ix c (de_var 0 (by decide)) de_int) rfl))) dss_nil)
    (dss_cons (ds_if (dt_ck (ck_eq c) (de_var 2 (by decide)) de_str rfl) (dss_one (ds_ret (de_and c.hK (de_chain ck_le ck_le (de_ix c (de_var 0 (by decide)) de_int) (de_len c.hK rfl fx.f_len (da_cons (de_var 1 (by decide)) da_nil)) (de_ix c (de_var 0 (by decide)) de_int)) (de_one (de_all c rfl fx.f_all (da_cons (de_give (df_lc (own := [("one", 3)]) c (di_any c.hK (de_var 1 (by decide))) (blkOk_by (N := n_is_fit) (sc := defScope s_is_fit) (by decide +kernel)) tg_name (fun _ _ _ _ _ => (pg_name c.nd (i := 3) rfl (by first | exact Or.inl rfl | exact Or.inr rfl))) (fun _ _ _ _ _ c' => dts_nil) (fun _ _ _ _ _ c' => (de_callP c' hy.is_fit rfl (da_cons (de_ix c' (de_var 0 (by decide)) de_int) (da_cons (de_var 3 (by decide)) da_nil)))))) da_nil)))))) dss_nil)
    (dss_one (ds_ret (de_or c.hK (de_ck (ck_ne c) (de_var 2 (by decide)) de_str rfl) (de_one (de_callP c hy.is_table_fit rfl (da_cons (de_var 0 (by decide)) (da_cons (de_var 1 (by decide)) da_nil))))))))))))))
theorem sc_is_fit : FnScope n_is_fit ["shape", "thing"] (defScope s_is_fit) := ⟨rfl, rfl, rfl, by decide +kernel, rfl, by decide +kernel, by decide +kernel⟩
def n_fits_shape : List Str := ["shape", "thing"]
theorem body_fits_shape {P : Program} {w : World} {K : PySem.W.Frag} {mg : Str → Option Value} {base : Heap} {k : Nat} {d : Den} (fx : Fx w K mg) (hy : Hyp P w K mg base k d) (nm : Nat → Option Addr) : BodyOk P w K mg base n_fits_shape "fits_shape" (defScope s_fits_shape) (defBody s_fits_shape) k (R0 K nm) false [] (b_fits_shape d) :=
  fun f cdv A outer s H E c hp => (dss_cons (ds_expr (de_callP c hy.look_shape rfl (da_cons (de_var 0 (by decide)) da_nil)))
    (dss_cons (ds_expr (de_callP c hy.look_thing rfl (da_cons (de_var 1 (by decide)) da_nil)))
    (dss_one (ds_ret (de_callP c hy.is_fit rfl (da_cons (de_var 0 (by decide)) (da_cons (de_var 1 (by decide)) da_nil)))))))
theorem sc_fits_shape : FnScope n_fits_shape ["shape", "thing"] (defScope s_fits_shape) := ⟨rfl, rfl, rfl, by decide +kernel, rfl, by decide +kernel, by decide +kernel⟩
def n_shape_of_rows : List Str := ["rows", "inner", "row", "sizes"]
theorem body_shape_of_rows {P : Program} {w : World} {K : PySem.W.Frag} {mg : Str → Option Value} {base : Heap} {k : Nat} {d : Den} (fx : Fx w K mg) (hy : Hyp P w K mg base k d) (nm : Nat → Option Addr) : BodyOk P w K mg base n_shape_of_rows "shape_of_rows" (defScope s_shape_of_rows) (defBody s_shape_of_rows) k (R0 K nm) false [] (b_shape_of_rows d) :=
  fun f cdv A outer s H E c hp => (dss_cons (ds_setO (O' := [1]) 1 c.nd rfl (by first | exact Or.inl rfl | exact Or.inr rfl) (df_lst da_nil) (by decide) (by decide) (by decide))
    (dss_cons (ds_for hp rfl (di_any c.hK (de_var 0 (by decide))) (pg_name c.nd (i := 2) rfl (by first | exact Or.inl rfl | exact Or.inr rfl)) tg_name (dss_one (ds_ext 1 (by decide) rfl (by first | exact Or.inl rfl | exact Or.inr (Or.inl rfl) | exact Or.inr (Or.inr rfl)) (de_var 2 (by decide)))) (by decide))
    (dss_frz (O1 := []) (dss_cons (ds_setLc (own := [("row", 2)]) (O' := []) c 3 rfl rfl (di_any c.hK (de_var 0 (by decide))) (blkOk_by (N := n_shape_of_rows) (sc := defScope s_shape_of_rows) (by decide +kernel)) tg_name (fun _ _ _ _ _ => (pg_name c.nd (i := 2) rfl (by first | exact Or.inl rfl | exact Or.inr rfl))) (fun _ _ _ _ _ c' => dts_nil) (fun _ _ _ _ _ c' => (de_len c'.hK rfl fx.f_len (da_cons (de_var 2 (by decide)) da_nil))) (by decide) (by decide))
    (dss_one (ds_ret (de_tup (da_cons de_str (da_cons (de_callP c hy.shape_of rfl (da_cons (de_var 1 (by decide)) da_nil)) (da_cons (de_min c rfl fx.f_min (da_cons (de_var 3 (by decide)) da_nil)) (da_cons (de_max c rfl fx.f_max (da_cons (de_var 3 (by decide)) da_nil)) da_nil)))))))) (by decide))))
theorem sc_shape_of_rows : FnScope n_shape_of_rows ["rows"] (defScope s_shape_of_rows) := ⟨rfl, rfl, rfl, by decide +kernel, rfl, by decide +kernel, by decide +kernel⟩
def n_shape_of_tables : List Str := ["tables", "keys", "table", "entries", "key", "some"]
theorem body_shape_of_tables {P : Program} {w : World} {K : PySem.W.Frag} {mg : Str → Option Value} {base : Heap} {k : Nat} {d : Den} (fx : Fx w K mg) (hy : Hyp P w K mg base k d) (nm : Nat → Option Addr) : BodyOk P w K mg base n_shape_of_tables "shape_of_tables" (defScope s_shape_of_tables) (defBody s_shape_of_tables) k (R0 K nm) false [] (b_shape_of_tables d) :=
  fun f cdv A outer s H E c hp => (dss_cons (ds_setO (O' := [1]) 1 c.nd rfl (by first | exact Or.inl rfl | exact Or.inr rfl) (df_lst da_nil) (by decide) (by decide) (by decide))
    (dss_cons (ds_for hp rfl (di_any c.hK (de_var 0 (by decide))) (pg_name c.nd (i := 2) rfl (by first | exact Or.inl rfl | exact Or.inr rfl)) tg_name (dss_one (ds_ext 1 (by decide) rfl (by first | exact Or.inl rfl | exact Or.inr (Or.inl rfl) | exact Or.inr (Or.inr rfl)) (de_listK c rfl fx.f_list (de_var 2 (by decide))))) (by decide))
    (dss_frz (O1 := []) (dss_cons (ds_setO (O' := [3]) 3 c.nd rfl (by first | exact Or.inl rfl | exact Or.inr rfl) (df_lst da_nil) (by decide) (by decide) (by decide))
    (dss_cons (ds_for hp rfl (di_any c.hK (de_sortSet c rfl fx.f_sorted rfl fx.f_set (de_var 1 (by decide)))) (pg_name c.nd (i := 4) rfl (by first | exact Or.inl rfl | exact Or.inr rfl)) tg_name (dss_cons (ds_setLc (own := [("table", 2)]) (O' := [3]) c 5 rfl rfl (di_any c.hK (de_var 0 (by decide))) (blkOk_by (N := n_shape_of_tables) (sc := defScope s_shape_of_tables) (by decide +kernel)) tg_name (fun _ _ _ _ _ => (pg_name c.nd (i := 2) rfl (by first | exact Or.inl rfl | exact Or.inr rfl))) (fun _ _ _ _ _ c' => (dts_one (dt_ck (ck_in c') (de_var 4 (by decide)) (de_var 2 (by decide)) rfl))) (fun _ _ _ _ _ c' => (de_ix c' (de_var 2 (by decide)) (de_var 4 (by decide)))) (by decide) (by decide))
    (dss_one (ds_app 3 (by decide) rfl (by first | exact Or.inl rfl | exact Or.inr (Or.inl rfl) | exact Or.inr (Or.inr rfl)) (de_tup (da_cons (de_var 4 (by decide)) (da_cons (de_callP c hy.shape_of rfl (da_cons (de_var 5 (by decide)) da_nil)) (da_cons (de_ck (ck_eq c) (de_len c.hK rfl fx.f_len (da_cons (de_var 5 (by decide)) da_nil)) (de_len c.hK rfl fx.f_len (da_cons (de_var 0 (by decide)) da_nil)) rfl) da_nil))))))) (by decide))
    (dss_frz (O1 := []) (dss_one (ds_ret (de_tup (da_cons de_str (da_cons (de_tuple c rfl fx.f_tuple (da_cons (de_var 3 (by decide)) da_nil)) (da_cons de_non da_nil)))))) (by decide)))) (by decide))))
theorem sc_shape_of_tables : FnScope n_shape_of_tables ["tables"] (defScope s_shape_of_tables) := ⟨rfl, rfl, rfl, by decide +kernel, rfl, by decide +kernel, by decide +kernel⟩
def n_shape_of_kind : List Str := ["kind", "things", "word"]
theorem body_shape_of_kind {P : Program} {w : World} {K : PySem.W.Frag} {mg : Str → Option Value} {base : Heap} {k : Nat} {d : Den} (fx : Fx w K mg) (hy : Hyp P w K mg base k d) (nm : Nat → Option Addr) : BodyOk P w K mg base n_shape_of_kind "shape_of_kind" (defScope s_shape_of_kind) (defBody s_shape_of_kind) k (R0 K nm) false [] (b_shape_of_kind d) :=
  fun f cdv A outer s H E c hp => (dss_cons (ds_if (dt_ck (ck_eq c) (de_var 0 (by decide)) de_str rfl) (dss_one (ds_ret (de_tup (da_cons de_str (da_cons (de_min c rfl fx.f_min (da_cons (de_var 1 (by decide)) da_nil)) (da_cons (de_max c rfl fx.f_max (da_cons (de_var 1 (by decide)) da_nil)) da_nil)))))) dss_nil)
    (dss_cons (ds_if (dt_ck (ck_eq c) (de_var 0 (by decide)) de_str rfl) (dss_one (ds_ret (de_tup (da_cons de_str (da_cons (de_max c rfl fx.f_max (da_cons (de_give (df_lc (own := [("word", 2)]) c (di_any c.hK (de_var 1 (by decide))) (blkOk_by (N := n_shape_of_kind) (sc := defScope s_shape_of_kind) (by decide +kernel)) tg_name (fun _ _ _ _ _ => (pg_name c.nd (i := 2) rfl (by first | exact Or.inl rfl | exact Or.inr rfl))) (fun _ _ _ _ _ c' => dts_nil) (fun _ _ _ _ _ c' => (de_len c'.hK rfl fx.f_len (da_cons (de_var 2 (by decide)) da_nil))))) da_nil)) da_nil))))) dss_nil)
    (dss_cons (ds_if (dt_ck (ck_eq c) (de_var 0 (by decide)) de_str rfl) (dss_one (ds_ret (de_callP c hy.shape_of_rows rfl (da_cons (de_var 1 (by decide)) da_nil)))) dss_nil)
    (dss_one (ds_ret (de_if (dt_ck (ck_eq c) (de_var 0 (by decide)) de_str rfl) (de_callP c hy.shape_of_tables rfl (da_cons (de_var 1 (by decide)) da_nil)) (de_tup (da_cons (de_var 0 (by decide)) da_nil))))))))
theorem sc_shape_of_kind : FnScope n_shape_of_kind ["kind", "things"] (defScope s_shape_of_kind) := ⟨rfl, rfl, rfl, by decide +kernel, rfl, by decide +kernel, by decide +kernel⟩
def n_shape_of : List Str := ["things", "found", "kind", "some", "thing"]
theorem body_shape_of {P : Program} {w : World} {K : PySem.W.Frag} {mg : Str → Option Value} {base : Heap} {k : Nat} {d : Den} (fx : Fx w K mg) (hy : Hyp P w K mg base k d) (nm : Nat → Option Addr) : BodyOk P w K mg base n_shape_of "shape_of" (defScope s_shape_of) (defBody s_shape_of) k (R0 K nm) false [] (b_shape_of d) :=
  fun f cdv A outer s H E c hp => (dss_cons (ds_setO (O' := [1]) 1 c.nd rfl (by first | exact Or.inl rfl | exact Or.inr rfl) (df_lst da_nil) (by decide) (by decide) (by decide))
    (dss_cons (ds_for hp rfl (di_any c.hK (de_klst c.hK fx.l_KINDS (by decide) (by decide) rfl fx.m_KINDS)) (pg_name c.nd (i := 2) rfl (by first | exact Or.inl rfl | exact Or.inr rfl)) tg_name (dss_cons (ds_setLc (own := [("thing", 4)]) (O' := [1]) c 3 rfl rfl (di_any c.hK (de_var 0 (by decide))) (blkOk_by (N := n_shape_of) (sc := defScope s_shape_of) (by decide +kernel)) tg_name (fun _ _ _ _ _ => (pg_name c.nd (i := 4) rfl (by first | exact Or.inl rfl | exact Or.inr rfl))) (fun _ _ _ _ _ c' => (dts_one (dt_ck (ck_eq c') (de_callP c' hy.kind_of rfl (da_cons (de_var 4 (by decide)) da_nil)) (de_var 2 (by decide)) rfl))) (fun _ _ _ _ _ c' => (de_var 4 (by decide))) (by decide) (by decide))
    (dss_one (ds_if (dt_tru c.hK (de_var 3 (by decide))) (dss_one (ds_app 1 (by decide) rfl (by first | exact Or.inl rfl | exact Or.inr (Or.inl rfl) | exact Or.inr (Or.inr rfl)) (de_callP c hy.shape_of_kind rfl (da_cons (de_var 2 (by decide)) (da_cons (de_var 3 (by decide)) da_nil))))) dss_nil))) (by decide))
    (dss_frz (O1 := []) (dss_one (ds_ret (de_if (dt_ck (ck_eq c) (de_len c.hK rfl fx.f_len (da_cons (de_var 1 (by decide)) da_nil)) de_int rfl) (de_ix c (de_var 1 (by decide)) de_int) (de_tup (da_cons de_str (da_cons (de_tuple c rfl fx.f_tuple (da_cons (de_var 1 (by decide)) da_nil)) da_nil)))))) (by decide))))
theorem sc_shape_of : FnScope n_shape_of ["things"] (defScope s_shape_of) := ⟨rfl, rfl, rfl, by decide +kernel, rfl, by decide +kernel, by decide +kernel⟩
def n_least_shape : List Str := ["things", "thing"]
theorem body_least_shape {P : Program} {w : World} {K : PySem.W.Frag} {mg : Str → Option Value} {base : Heap} {k : Nat} {d : Den} (fx : Fx w K mg) (hy : Hyp P w K mg base k d) (nm : Nat → Option Addr) : BodyOk P w K mg base n_least_shape "least_shape" (defScope s_least_shape) (defBody s_least_shape) k (R0 K nm) false [] (b_least_shape d) :=
  fun f cdv A outer s H E c hp => (dss_cons (ds_for hp rfl (di_any c.hK (de_var 0 (by decide))) (pg_name c.nd (i := 1) rfl (by first | exact Or.inl rfl | exact Or.inr rfl)) tg_name (dss_one (ds_expr (de_callP c hy.look_thing rfl (da_cons (de_var 1 (by decide)) da_nil)))) (by decide))
    (dss_one (ds_ret (de_callP c hy.shape_of rfl (da_cons (de_var 0 (by decide)) da_nil)))))
theorem sc_least_shape : FnScope n_least_shape ["things"] (defScope s_least_shape) := ⟨rfl, rfl, rfl, by decide +kernel, rfl, by decide +kernel, by decide +kernel⟩
def n__law_cell : List Str := ["script", "k"]
theorem body__law_cell {P : Program} {w : World} {K : PySem.W.Frag} {mg : Str → Option Value} {base : Heap} {k : Nat} {d : Den} (fx : Fx w K mg) (hy : Hyp P w K mg base k d) (nm : Nat → Option Addr) : BodyOk P w K mg base n__law_cell "_law_cell" (defScope s__law_cell) (defBody s__law_cell) k (R0 K nm) false [] (b__law_cell d) :=
  fun f cdv A outer s H E c hp => (dss_cons (ds_if (dt_tru c.hK (de_var 0 (by decide))) (dss_one (ds_ret (de_ix c (de_var 0 (by decide)) (de_mod (de_var 1 (by decide)) (de_len c.hK rfl fx.f_len (da_cons (de_var 0 (by decide)) da_nil)))))) dss_nil)
    (dss_one (ds_ret de_int)))
theorem sc__law_cell : FnScope n__law_cell ["script", "k"] (defScope s__law_cell) := ⟨rfl, rfl, rfl, by decide +kernel, rfl, by decide +kernel, by decide +kernel⟩
def n__law_mix : List Str := ["script", "k", "number"]
theorem body__law_mix {P : Program} {w : World} {K : PySem.W.Frag} {mg : Str → Option Value} {base : Heap} {k : Nat} {d : Den} (fx : Fx w K mg) (hy : Hyp P w K mg base k d) (nm : Nat → Option Addr) : BodyOk P w K mg base n__law_mix "_law_mix" (defScope s__law_mix) (defBody s__law_mix) k (R0 K nm) false [] (b__law_mix d) :=
  fun f cdv A outer s H E c hp => (dss_cons (ds_set (O' := []) c.nd (i := 2) rfl (by first | exact Or.inl rfl | exact Or.inr rfl) (de_mod (de_add c.hK (de_callP c hy._law_cell rfl (da_cons (de_var 0 (by decide)) (da_cons (de_var 1 (by decide)) da_nil))) (de_mul de_int (de_add c.hK (de_var 1 (by decide)) de_int))) de_int) (by decide) (by decide))
    (dss_cons (ds_set (O' := []) c.nd (i := 2) rfl (by first | exact Or.inl rfl | exact Or.inr rfl) (de_mod (de_pow (de_var 2 (by decide)) de_int) de_int) (by decide) (by decide))
    (dss_one (ds_ret (de_mod (de_add c.hK (de_mul (de_fdiv (de_var 2 (by decide)) de_int) de_int) (de_var 2 (by decide))) de_int)))))
theorem sc__law_mix : FnScope n__law_mix ["script", "k"] (defScope s__law_mix) := ⟨rfl, rfl, rfl, by decide +kernel, rfl, by decide +kernel, by decide +kernel⟩
def n__law_draw : List Str := ["script", "town", "many"]
theorem body__law_draw {P : Program} {w : World} {K : PySem.W.Frag} {mg : Str → Option Value} {base : Heap} {k : Nat} {d : Den} (fx : Fx w K mg) (hy : Hyp P w K mg base k d) (T : Addr) : BodyOk P w K mg base n__law_draw "_law_draw" (defScope s__law_draw) (defBody s__law_draw) k (RT K T) false [] (b__law_draw d) :=
  fun f cdv A outer s H E c hp => (dss_cons (ds_town 1 (by decide) rfl (by first | exact Or.inl rfl | exact Or.inr (Or.inl rfl) | exact Or.inr (Or.inr rfl)))
    (dss_one (ds_ret (de_mod (de_fdiv (de_callP c hy._law_mix rfl (da_cons (de_var 0 (by decide)) (da_cons (de_lenT 1 (by decide) rfl (by first | exact Or.inl rfl | exact Or.inr (Or.inl rfl) | exact Or.inr (Or.inr rfl)) rfl fx.f_len) da_nil))) de_int) (de_var 2 (by decide))))))
theorem sc__law_draw : FnScope n__law_draw ["script", "town", "many"] (defScope s__law_draw) := ⟨rfl, rfl, rfl, by decide +kernel, rfl, by decide +kernel, by decide +kernel⟩
def n__law_pick : List Str := ["script", "town", "some"]
theorem body__law_pick {P : Program} {w : World} {K : PySem.W.Frag} {mg : Str → Option Value} {base : Heap} {k : Nat} {d : Den} (fx : Fx w K mg) (hy : Hyp P w K mg base k d) (T : Addr) : BodyOk P w K mg base n__law_pick "_law_pick" (defScope s__law_pick) (defBody s__law_pick) k (RT K T) false [] (b__law_pick d) :=
  fun f cdv A outer s H E c hp => (dss_one (ds_ret (de_ix c (de_var 2 (by decide)) (de_callT c hy._law_draw rfl (da_cons (de_var 0 (by decide)) (da_cons (de_var 1 (by decide)) (da_cons (de_len c.hK rfl fx.f_len (da_cons (de_var 2 (by decide)) da_nil)) da_nil)))))))
theorem sc__law_pick : FnScope n__law_pick ["script", "town", "some"] (defScope s__law_pick) := ⟨rfl, rfl, rfl, by decide +kernel, rfl, by decide +kernel, by decide +kernel⟩
def n__law_refusal : List Str := ["held", "kinds"]
theorem body__law_refusal {P : Program} {w : World} {K : PySem.W.Frag} {mg : Str → Option Value} {base : Heap} {k : Nat} {d : Den} (fx : Fx w K mg) (hy : Hyp P w K mg base k d) (nm : Nat → Option Addr) : BodyOk P w K mg base n__law_refusal "_law_refusal" (defScope s__law_refusal) (defBody s__law_refusal) k (R0 K nm) false [] (b__law_refusal d) :=
  fun f cdv A outer s H E c hp => (dss_cons (ds_if (dt_isN (de_var 0 (by decide))) (dss_one (ds_ret (de_tup (da_cons de_str da_nil)))) dss_nil)
    (dss_cons (ds_set (O' := []) c.nd (i := 1) rfl (by first | exact Or.inl rfl | exact Or.inr rfl) (de_lst (da_cons (de_isx .BadThing c fx.xf (by decide) rfl rfl fx.f_isinstance rfl fx.c_BadThing (de_var 0 (by decide))) (da_cons (de_isx .BadText c fx.xf (by decide) rfl rfl fx.f_isinstance rfl fx.c_BadText (de_var 0 (by decide))) (da_cons (de_isx .BadWay c fx.xf (by decide) rfl rfl fx.f_isinstance rfl fx.c_BadWay (de_var 0 (by decide))) da_nil)))) (by decide) (by decide))
    (dss_cons (ds_set (O' := []) c.nd (i := 1) rfl (by first | exact Or.inl rfl | exact Or.inr rfl) (de_add c.hK (de_var 1 (by decide)) (de_lst (da_cons (de_isx .NoWay c fx.xf (by decide) rfl rfl fx.f_isinstance rfl fx.c_NoWay (de_var 0 (by decide))) (da_cons (de_isx .NoGo c fx.xf (by decide) rfl rfl fx.f_isinstance rfl fx.c_NoGo (de_var 0 (by decide))) (da_cons (de_isx .Nothing c fx.xf (by decide) rfl rfl fx.f_isinstance rfl fx.c_Nothing (de_var 0 (by decide))) da_nil))))) (by decide) (by decide))
    (dss_cons (ds_if (PW.pt (dw_or (dt_ck (ck_ne c) (de_count c (de_var 1 (by decide)) (da_cons de_bl da_nil)) de_int rfl) (dw_or1 (dt_not (dt_tru c.hK (de_isv c fx.xf rfl fx.f_isinstance rfl fx.f_ValueError (de_var 0 (by decide)))))))) (dss_one (ds_ret (de_tup (da_cons de_str da_nil)))) dss_nil)
    (dss_one (ds_ret (de_tup (da_cons de_str (da_cons (de_ix c (de_lst (da_cons de_str (da_cons de_str (da_cons de_str (da_cons de_str (da_cons de_str (da_cons de_str da_nil))))))) (de_index c (de_var 1 (by decide)) (da_cons de_bl da_nil))) da_nil)))))))))
theorem sc__law_refusal : FnScope n__law_refusal ["held"] (defScope s__law_refusal) := ⟨rfl, rfl, rfl, by decide +kernel, rfl, by decide +kernel, by decide +kernel⟩
def n__law_kind : List Str := ["thing"]
theorem body__law_kind {P : Program} {w : World} {K : PySem.W.Frag} {mg : Str → Option Value} {base : Heap} {k : Nat} {d : Den} (fx : Fx w K mg) (hy : Hyp P w K mg base k d) (nm : Nat → Option Addr) : BodyOk P w K mg base n__law_kind "_law_kind" (defScope s__law_kind) (defBody s__law_kind) k (R0 K nm) false [] (b__law_kind d) :=
  fun f cdv A outer s H E c hp => (dss_cons (ds_if (PW.pt (dw_or (dt_isN (de_var 0 (by decide))) (dw_or1 (dt_tru c.hK (de_isi "bool" c rfl fx.f_isinstance rfl fx.f_bool (by decide +kernel) (de_var 0 (by decide))))))) (dss_one (ds_ret (de_if (dt_isN (de_var 0 (by decide))) de_int de_int))) dss_nil)
    (dss_cons (ds_if (dt_tru c.hK (de_isi "int" c rfl fx.f_isinstance rfl fx.f_int (by decide +kernel) (de_var 0 (by decide)))) (dss_one (ds_ret de_int)) dss_nil)
    (dss_cons (ds_if (dt_tru c.hK (de_isi "str" c rfl fx.f_isinstance rfl fx.f_str (by decide +kernel) (de_var 0 (by decide)))) (dss_one (ds_ret de_int)) dss_nil)
    (dss_one (ds_ret (de_if (dt_tru c.hK (de_isi "list" c rfl fx.f_isinstance rfl fx.f_list (by decide +kernel) (de_var 0 (by decide)))) de_int (de_if (dt_tru c.hK (de_isi "dict" c rfl fx.f_isinstance rfl fx.f_dict (by decide +kernel) (de_var 0 (by decide)))) de_int de_int)))))))
theorem sc__law_kind : FnScope n__law_kind ["thing"] (defScope s__law_kind) := ⟨rfl, rfl, rfl, by decide +kernel, rfl, by decide +kernel, by decide +kernel⟩
def n__law_few : List Str := ["script", "town", "deep", "way", "some", "found", "key", "k"]
theorem body__law_few {P : Program} {w : World} {K : PySem.W.Frag} {mg : Str → Option Value} {base : Heap} {k : Nat} {d : Den} (fx : Fx w K mg) (hy : Hyp P w K mg base k d) (T : Addr) : BodyOk P w K mg base n__law_few "_law_few" (defScope s__law_few) (defBody s__law_few) k (RT K T) false [] (b__law_few d) :=
  fun f cdv A outer s H E c hp => (dss_cons (ds_set (O' := []) c.nd (i := 3) rfl (by first | exact Or.inl rfl | exact Or.inr rfl) (de_if (dt_ck ck_gt (de_var 2 (by decide)) de_int rfl) (de_callT c hy._law_draw rfl (da_cons (de_var 0 (by decide)) (da_cons (de_var 1 (by decide)) (da_cons de_int da_nil)))) (de_callT c hy._law_draw rfl (da_cons (de_var 0 (by decide)) (da_cons (de_var 1 (by decide)) (da_cons de_int da_nil))))) (by decide) (by decide))
    (dss_cons (ds_if (dt_ck ck_lt (de_var 3 (by decide)) de_int rfl) (dss_cons (ds_set (O' := []) c.nd (i := 4) rfl (by first | exact Or.inl rfl | exact Or.inr rfl) (de_lst (da_cons de_non (da_cons de_bl (da_cons de_bl (da_cons de_int (da_cons de_int (da_cons (de_neg de_int) (da_cons (de_callT c hy._law_draw rfl (da_cons (de_var 0 (by decide)) (da_cons (de_var 1 (by decide)) (da_cons de_int da_nil)))) (da_cons de_str (da_cons de_str (da_cons de_str da_nil))))))))))) (by decide) (by decide))
    (dss_one (ds_ret (de_callT c hy._law_pick rfl (da_cons (de_var 0 (by decide)) (da_cons (de_var 1 (by decide)) (da_cons (de_var 4 (by decide)) da_nil))))))) dss_nil)
    (dss_cons (ds_if (dt_ck ck_lt (de_var 3 (by decide)) de_int rfl) (dss_one (ds_ret (de_give (df_lc (own := [("k", 7)]) c (di_range rfl fx.f_range (da_cons (de_callT c hy._law_draw rfl (da_cons (de_var 0 (by decide)) (da_cons (de_var 1 (by decide)) (da_cons de_int da_nil)))) da_nil)) (blkOk_by (N := n__law_few) (sc := defScope s__law_few) (by decide +kernel)) tg_name (fun _ _ _ _ _ => (pg_name c.nd (i := 7) rfl (by first | exact Or.inl rfl | exact Or.inr rfl))) (fun _ _ _ _ _ c' => dts_nil) (fun _ _ _ _ _ c' => (de_callT c' hy._law_few rfl (da_cons (de_var 0 (by decide)) (da_cons (de_var 1 (by decide)) (da_cons (de_sub (de_var 2 (by decide)) de_int) da_nil))))))))) dss_nil)
    (dss_cons (ds_setO (O' := [5]) 5 c.nd rfl (by first | exact Or.inl rfl | exact Or.inr rfl) df_dict0 (by decide) (by decide) (by decide))
    (dss_cons (ds_for hp rfl (di_any c.hK (de_lst (da_cons de_str (da_cons de_str (da_cons de_str da_nil))))) (pg_name c.nd (i := 6) rfl (by first | exact Or.inl rfl | exact Or.inr rfl)) tg_name (dss_one (ds_if (dt_ck ck_gt (de_callT c hy._law_draw rfl (da_cons (de_var 0 (by decide)) (da_cons (de_var 1 (by decide)) (da_cons de_int da_nil)))) de_int rfl) (dss_one (ds_setT 5 c (by decide) rfl (by first | exact Or.inl rfl | exact Or.inr (Or.inl rfl) | exact Or.inr (Or.inr rfl)) (de_var 6 (by decide)) (de_callT c hy._law_few rfl (da_cons (de_var 0 (by decide)) (da_cons (de_var 1 (by decide)) (da_cons (de_sub (de_var 2 (by decide)) de_int) da_nil)))))) dss_nil)) (by decide))
    (dss_frz (O1 := []) (dss_one (ds_ret (de_var 5 (by decide)))) (by decide)))))))
theorem sc__law_few : FnScope n__law_few ["script", "town", "deep"] (defScope s__law_few) := ⟨rfl, rfl, rfl, by decide +kernel, rfl, by decide +kernel, by decide +kernel⟩
def n__law_fits : List Str := ["shape", "thing", "word", "told", "key", "within", "must", "one"]
theorem body__law_fits {P : Program} {w : World} {K : PySem.W.Frag} {mg : Str → Option Value} {base : Heap} {k : Nat} {d : Den} (fx : Fx w K mg) (hy : Hyp P w K mg base k d) (nm : Nat → Option Addr) : BodyOk P w K mg base n__law_fits "_law_fits" (defScope s__law_fits) (defBody s__law_fits) k (R0 K nm) false [] (b__law_fits d) :=
  fun f cdv A outer s H E c hp => (dss_cons (ds_set (O' := []) c.nd (i := 2) rfl (by first | exact Or.inl rfl | exact Or.inr rfl) (de_ix c (de_var 0 (by decide)) de_int) (by decide) (by decide))
    (dss_cons (ds_if (dt_ck (ck_eq c) (de_var 2 (by decide)) de_str rfl) (dss_one (ds_ret (de_any c rfl fx.f_any (da_cons (de_give (df_lc (own := [("one", 7)]) c (di_any c.hK (de_ix c (de_var 0 (by decide)) de_int)) (blkOk_by (N := n__law_fits) (sc := defScope s__law_fits) (by decide +kernel)) tg_name (fun _ _ _ _ _ => (pg_name c.nd (i := 7) rfl (by first | exact Or.inl rfl | exact Or.inr rfl))) (fun _ _ _ _ _ c' => dts_nil) (fun _ _ _ _ _ c' => (de_callP c' hy._law_fits rfl (da_cons (de_var 7 (by decide)) (da_cons (de_var 1 (by decide)) da_nil)))))) da_nil)))) dss_nil)
    (dss_cons (ds_if (dt_ck (ck_eq c) (de_var 2 (by decide)) de_str rfl) (dss_one (ds_ret de_bl)) dss_nil)
    (dss_cons (ds_if (dt_ck (ck_ne c) (de_ix c (de_lst (da_cons de_str (da_cons de_str (da_cons de_str (da_cons de_str (da_cons de_str (da_cons de_str da_nil))))))) (de_callP c hy._law_kind rfl (da_cons (de_var 1 (by decide)) da_nil))) (de_var 2 (by decide)) rfl) (dss_one (ds_ret de_bl)) dss_nil)
    (dss_cons (ds_if (dt_ck (ck_eq c) (de_var 2 (by decide)) de_str rfl) (dss_one (ds_ret (de_chain ck_le ck_le (de_ix c (de_var 0 (by decide)) de_int) (de_var 1 (by decide)) (de_ix c (de_var 0 (by decide)) de_int)))) dss_nil)
    (dss_cons (ds_if (dt_ck (ck_eq c) (de_var 2 (by decide)) de_str rfl) (dss_one (ds_ret (de_ck ck_le (de_len c.hK rfl fx.f_len (da_cons (de_var 1 (by decide)) da_nil)) (de_ix c (de_var 0 (by decide)) de_int) rfl))) dss_nil)
    (dss_cons (ds_if (dt_ck (ck_eq c) (de_var 2 (by decide)) de_str rfl) (dss_one (ds_ret (de_and c.hK (de_chain ck_le ck_le (de_ix c (de_var 0 (by decide)) de_int) (de_len c.hK rfl fx.f_len (da_cons (de_var 1 (by decide)) da_nil)) (de_ix c (de_var 0 (by decide)) de_int)) (de_one (de_all c rfl fx.f_all (da_cons (de_give (df_lc (own := [("one", 7)]) c (di_any c.hK (de_var 1 (by decide))) (blkOk_by (N := n__law_fits) (sc := defScope s__law_fits) (by decide +kernel)) tg_name (fun _ _ _ _ _ => (pg_name c.nd (i := 7) rfl (by first | exact Or.inl rfl | exact Or.inr rfl))) (fun _ _ _ _ _ c' => dts_nil) (fun _ _ _ _ _ c' => (de_callP c' hy._law_fits rfl (da_cons (de_ix c' (de_var 0 (by decide)) de_int) (da_cons (de_var 7 (by decide)) da_nil)))))) da_nil)))))) dss_nil)
    (dss_cons (ds_if (dt_ck (ck_ne c) (de_var 2 (by decide)) de_str rfl) (dss_one (ds_ret de_bl)) dss_nil)
    (dss_cons (ds_setO (O' := [3]) 3 c.nd rfl (by first | exact Or.inl rfl | exact Or.inr rfl) df_dict0 (by decide) (by decide) (by decide))
    (dss_cons (ds_for hp rfl (di_any c.hK (de_ix c (de_var 0 (by decide)) de_int)) (pg_tup c.calm (pgs_cons (pg_name c.nd (i := 4) rfl (by first | exact Or.inl rfl | exact Or.inr rfl)) (pgs_cons (pg_name c.nd (i := 5) rfl (by first | exact Or.inl rfl | exact Or.inr rfl)) (pgs_cons (pg_name c.nd (i := 6) rfl (by first | exact Or.inl rfl | exact Or.inr rfl)) pgs_nil)))) (tg_names [4, 5, 6]) (dss_cons (ds_setT 3 c (by decide) rfl (by first | exact Or.inl rfl | exact Or.inr (Or.inl rfl) | exact Or.inr (Or.inr rfl)) (de_var 4 (by decide)) (de_var 5 (by decide)))
    (dss_one (ds_if (PW.pt (dw_and (dt_tru c.hK (de_var 6 (by decide))) (dw_and1 (dt_ck (ck_notin c) (de_var 4 (by decide)) (de_var 1 (by decide)) rfl)))) (dss_one (ds_ret de_bl)) dss_nil))) (by decide))
    (dss_frz (O1 := []) (dss_cons (ds_forW keysD_tab (by decide) hp rfl (di_keysL 1 (by decide) rfl (by first | exact Or.inl rfl | exact Or.inr (Or.inl rfl) | exact Or.inr (Or.inr rfl))) (pg_name c.nd (i := 4) rfl (by first | exact Or.inl rfl | exact Or.inr rfl)) tg_name (dss_one (ds_if (PW.pt (dw_or (PW.pt (dw_and (dt_ck (ck_notin c) (de_var 4 (by decide)) (de_var 3 (by decide)) rfl) (dw_and1 (dt_isN (de_ix c (de_var 0 (by decide)) de_int))))) (dw_or1 (dt_not (dt_tru c.hK (de_callP c hy._law_fits rfl (da_cons (de_get2 c (de_var 3 (by decide)) (da_cons (de_var 4 (by decide)) (da_cons (de_ix c (de_var 0 (by decide)) de_int) da_nil))) (da_cons (de_ix c (de_var 1 (by decide)) (de_var 4 (by decide))) da_nil)))))))) (dss_one (ds_ret de_bl)) dss_nil)) (by decide))
    (dss_one (ds_ret de_bl))) (by decide))))))))))))
theorem sc__law_fits : FnScope n__law_fits ["shape", "thing"] (defScope s__law_fits) := ⟨rfl, rfl, rfl, by decide +kernel, rfl, by decide +kernel, by decide +kernel⟩
def n__law_least : List Str := ["things", "found", "kind", "some", "within", "row", "sizes", "thing", "word"]
theorem body__law_least {P : Program} {w : World} {K : PySem.W.Frag} {mg : Str → Option Value} {base : Heap} {k : Nat} {d : Den} (fx : Fx w K mg) (hy : Hyp P w K mg base k d) (nm : Nat → Option Addr) : BodyOk P w K mg base n__law_least "_law_least" (defScope s__law_least) (defBody s__law_least) k (R0 K nm) false [] (b__law_least d) :=
  fun f cdv A outer s H E c hp => (dss_cons (ds_setO (O' := [1]) 1 c.nd rfl (by first | exact Or.inl rfl | exact Or.inr rfl) (df_lst da_nil) (by decide) (by decide) (by decide))
    (dss_cons (ds_for hp rfl (di_range rfl fx.f_range (da_cons de_int da_nil)) (pg_name c.nd (i := 2) rfl (by first | exact Or.inl rfl | exact Or.inr rfl)) tg_name (dss_cons (ds_setLc (own := [("thing", 7)]) (O' := [1]) c 3 rfl rfl (di_any c.hK (de_var 0 (by decide))) (blkOk_by (N := n__law_least) (sc := defScope s__law_least) (by decide +kernel)) tg_name (fun _ _ _ _ _ => (pg_name c.nd (i := 7) rfl (by first | exact Or.inl rfl | exact Or.inr rfl))) (fun _ _ _ _ _ c' => (dts_one (dt_ck (ck_eq c') (de_callP c' hy._law_kind rfl (da_cons (de_var 7 (by decide)) da_nil)) (de_var 2 (by decide)) rfl))) (fun _ _ _ _ _ c' => (de_var 7 (by decide))) (by decide) (by decide))
    (dss_cons (ds_if (dt_ck (ck_eq c) (de_var 3 (by decide)) (de_lst da_nil) rfl) (dss_one ds_cnt) dss_nil)
    (dss_one (ds_if (dt_ck ck_lt (de_var 2 (by decide)) de_int rfl) (dss_one (ds_app 1 (by decide) rfl (by first | exact Or.inl rfl | exact Or.inr (Or.inl rfl) | exact Or.inr (Or.inr rfl)) (de_tup (da_cons (de_ix c (de_lst (da_cons de_str (da_cons de_str da_nil))) (de_var 2 (by decide))) da_nil)))) (dss_one (ds_if (dt_ck (ck_eq c) (de_var 2 (by decide)) de_int rfl) (dss_one (ds_app 1 (by decide) rfl (by first | exact Or.inl rfl | exact Or.inr (Or.inl rfl) | exact Or.inr (Or.inr rfl)) (de_tup (da_cons de_str (da_cons (de_min c rfl fx.f_min (da_cons (de_var 3 (by decide)) da_nil)) (da_cons (de_max c rfl fx.f_max (da_cons (de_var 3 (by decide)) da_nil)) da_nil)))))) (dss_one (ds_if (dt_ck (ck_eq c) (de_var 2 (by decide)) de_int rfl) (dss_one (ds_app 1 (by decide) rfl (by first | exact Or.inl rfl | exact Or.inr (Or.inl rfl) | exact Or.inr (Or.inr rfl)) (de_tup (da_cons de_str (da_cons (de_max c rfl fx.f_max (da_cons (de_give (df_lc (own := [("word", 8)]) c (di_any c.hK (de_var 3 (by decide))) (blkOk_by (N := n__law_least) (sc := defScope s__law_least) (by decide +kernel)) tg_name (fun _ _ _ _ _ => (pg_name c.nd (i := 8) rfl (by first | exact Or.inl rfl | exact Or.inr rfl))) (fun _ _ _ _ _ c' => dts_nil) (fun _ _ _ _ _ c' => (de_len c'.hK rfl fx.f_len (da_cons (de_var 8 (by decide)) da_nil))))) da_nil)) da_nil))))) (dss_one (ds_if (dt_ck (ck_eq c) (de_var 2 (by decide)) de_int rfl) (dss_cons (ds_set (O' := [1]) c.nd (i := 4) rfl (by first | exact Or.inl rfl | exact Or.inr rfl) (de_lst da_nil) (by decide) (by decide))
    (dss_cons (ds_for hp rfl (di_any c.hK (de_var 3 (by decide))) (pg_name c.nd (i := 5) rfl (by first | exact Or.inl rfl | exact Or.inr rfl)) tg_name (dss_one (ds_set (O' := [1]) c.nd (i := 4) rfl (by first | exact Or.inl rfl | exact Or.inr rfl) (de_add c.hK (de_var 4 (by decide)) (de_var 5 (by decide))) (by decide) (by decide))) (by decide))
    (dss_cons (ds_setLc (own := [("row", 5)]) (O' := [1]) c 6 rfl rfl (di_any c.hK (de_var 3 (by decide))) (blkOk_by (N := n__law_least) (sc := defScope s__law_least) (by decide +kernel)) tg_name (fun _ _ _ _ _ => (pg_name c.nd (i := 5) rfl (by first | exact Or.inl rfl | exact Or.inr rfl))) (fun _ _ _ _ _ c' => dts_nil) (fun _ _ _ _ _ c' => (de_len c'.hK rfl fx.f_len (da_cons (de_var 5 (by decide)) da_nil))) (by decide) (by decide))
    (dss_one (ds_app 1 (by decide) rfl (by first | exact Or.inl rfl | exact Or.inr (Or.inl rfl) | exact Or.inr (Or.inr rfl)) (de_tup (da_cons de_str (da_cons (de_callP c hy._law_least rfl (da_cons (de_var 4 (by decide)) da_nil)) (da_cons (de_min c rfl fx.f_min (da_cons (de_var 6 (by decide)) da_nil)) (da_cons (de_max c rfl fx.f_max (da_cons (de_var 6 (by decide)) da_nil)) da_nil)))))))))) (dss_one (ds_app 1 (by decide) rfl (by first | exact Or.inl rfl | exact Or.inr (Or.inl rfl) | exact Or.inr (Or.inr rfl)) (de_tup (da_cons de_str (da_cons (de_callP c hy._law_entries rfl (da_cons (de_var 3 (by decide)) da_nil)) (da_cons de_non da_nil)))))))))))))))) (by decide))
    (dss_frz (O1 := []) (dss_one (ds_ret (de_if (dt_ck (ck_eq c) (de_len c.hK rfl fx.f_len (da_cons (de_var 1 (by decide)) da_nil)) de_int rfl) (de_ix c (de_var 1 (by decide)) de_int) (de_tup (da_cons de_str (da_cons (de_tuple c rfl fx.f_tuple (da_cons (de_var 1 (by decide)) da_nil)) da_nil)))))) (by decide))))
theorem sc__law_least : FnScope n__law_least ["things"] (defScope s__law_least) := ⟨rfl, rfl, rfl, by decide +kernel, rfl, by decide +kernel, by decide +kernel⟩
def n__law_entries : List Str := ["tables", "keys", "table", "key"]
theorem body__law_entries {P : Program} {w : World} {K : PySem.W.Frag} {mg : Str → Option Value} {base : Heap} {k : Nat} {d : Den} (fx : Fx w K mg) (hy : Hyp P w K mg base k d) (nm : Nat → Option Addr) : BodyOk P w K mg base n__law_entries "_law_entries" (defScope s__law_entries) (defBody s__law_entries) k (R0 K nm) false [] (b__law_entries d) :=
  fun f cdv A outer s H E c hp => (dss_cons (ds_setO (O' := [1]) 1 c.nd rfl (by first | exact Or.inl rfl | exact Or.inr rfl) df_dict0 (by decide) (by decide) (by decide))
    (dss_cons (ds_for hp rfl (di_any c.hK (de_var 0 (by decide))) (pg_name c.nd (i := 2) rfl (by first | exact Or.inl rfl | exact Or.inr rfl)) tg_name (dss_one (ds_forW keysD_tab (by decide) hp rfl (di_keysL 2 (by decide) rfl (by first | exact Or.inl rfl | exact Or.inr (Or.inl rfl) | exact Or.inr (Or.inr rfl))) (pg_name c.nd (i := 3) rfl (by first | exact Or.inl rfl | exact Or.inr rfl)) tg_name (dss_one (ds_setTw 1 c (by decide) rfl (by first | exact Or.inl rfl | exact Or.inr (Or.inl rfl) | exact Or.inr (Or.inr rfl)) (de_var 3 (by decide)) (de_addW c.hK (de_getO 1 c rfl (by first | exact Or.inl rfl | exact Or.inr (Or.inl rfl) | exact Or.inr (Or.inr rfl)) (da_cons (de_var 3 (by decide)) (da_cons (de_lst da_nil) da_nil))) (de_lst (da_cons (de_ix c (de_var 2 (by decide)) (de_var 3 (by decide))) da_nil))))) (by decide))) (by decide))
    (dss_frz (O1 := []) (dss_one (ds_ret (de_tuple c rfl fx.f_tuple (da_cons (de_give (df_lc (own := [("key", 3)]) c (di_any c.hK (de_sortedK c rfl fx.f_sorted (de_var 1 (by decide)))) (blkOk_by (N := n__law_entries) (sc := defScope s__law_entries) (by decide +kernel)) tg_name (fun _ _ _ _ _ => (pg_name c.nd (i := 3) rfl (by first | exact Or.inl rfl | exact Or.inr rfl))) (fun _ _ _ _ _ c' => dts_nil) (fun _ _ _ _ _ c' => (de_tup (da_cons (de_var 3 (by decide)) (da_cons (de_callP c' hy._law_least rfl (da_cons (de_ix c' (de_var 1 (by decide)) (de_var 3 (by decide))) da_nil)) (da_cons (de_ck (ck_eq c') (de_len c'.hK rfl fx.f_len (da_cons (de_ix c' (de_var 1 (by decide)) (de_var 3 (by decide))) da_nil)) (de_len c'.hK rfl fx.f_len (da_cons (de_var 0 (by decide)) da_nil)) rfl) da_nil))))))) da_nil)))) (by decide))))
theorem sc__law_entries : FnScope n__law_entries ["tables"] (defScope s__law_entries) := ⟨rfl, rfl, rfl, by decide +kernel, rfl, by decide +kernel, by decide +kernel⟩
def n__law_told : List Str := ["things", "held", "found", "e"]
theorem body__law_told {P : Program} {w : World} {K : PySem.W.Frag} {mg : Str → Option Value} {base : Heap} {k : Nat} {d : Den} (fx : Fx w K mg) (hy : Hyp P w K mg base k d) (nm : Nat → Option Addr) : BodyOk P w K mg base n__law_told "_law_told" (defScope s__law_told) (defBody s__law_told) k (R0 K nm) false [] (b__law_told d) :=
  fun f cdv A outer s H E c hp => (dss_cons (ds_set (O' := []) c.nd (i := 1) rfl (by first | exact Or.inl rfl | exact Or.inr rfl) de_non (by decide) (by decide))
    (dss_cons (ds_set (O' := []) c.nd (i := 2) rfl (by first | exact Or.inl rfl | exact Or.inr rfl) de_non (by decide) (by decide))
    (dss_cons (ds_tryH c fx.xf (by decide) rfl rfl rfl rfl (i := 3) rfl rfl (j := 1) rfl rfl rfl fx.c_NestError (by decide) (by decide) rfl (by first | exact Or.inl rfl | exact Or.inr (Or.inl rfl) | exact Or.inr (Or.inr rfl)) (fun _ _ _ ct pt => (dss_one (ds_set (O' := []) ct.nd (i := 2) rfl (by first | exact Or.inl rfl | exact Or.inr rfl) (de_callP ct hy.least_shape rfl (da_cons (de_var 0 (by decide)) da_nil)) (by decide) (by decide)))))
    (dss_one (ds_ret (de_if (dt_isN (de_var 1 (by decide))) (de_var 2 (by decide)) (de_callP c hy._law_refusal rfl (da_cons (de_var 1 (by decide)) da_nil))))))))
theorem sc__law_told : FnScope n__law_told ["things"] (defScope s__law_told) := ⟨rfl, rfl, rfl, by decide +kernel, rfl, by decide +kernel, by decide +kernel⟩
def n_law : List Str := ["script", "town", "things", "due", "found", "more", "k", "thing"]
theorem rest_law {P : Program} {w : World} {K : PySem.W.Frag} {mg : Str → Option Value} {base : Heap} {k : Nat} {d : Den} (fx : Fx w K mg) (hy : Hyp P w K mg base k d) (T : Addr) : BodyOk P w K mg base n_law "law" (defScope s_law) ((defBody s_law).drop 1) k (RT K T) false [] (b_law d) :=
  fun f cdv A outer s H E c hp => (dss_cons (ds_setLc (own := [("k", 6)]) (O' := []) c 2 rfl rfl (di_range rfl fx.f_range (da_cons (de_callT c hy._law_draw rfl (da_cons (de_var 0 (by decide)) (da_cons (de_var 1 (by decide)) (da_cons de_int da_nil)))) da_nil)) (blkOk_by (N := n_law) (sc := defScope s_law) (by decide +kernel)) tg_name (fun _ _ _ _ _ => (pg_name c.nd (i := 6) rfl (by first | exact Or.inl rfl | exact Or.inr rfl))) (fun _ _ _ _ _ c' => dts_nil) (fun _ _ _ _ _ c' => (de_callT c' hy._law_few rfl (da_cons (de_var 0 (by decide)) (da_cons (de_var 1 (by decide)) (da_cons de_int da_nil))))) (by decide) (by decide))
    (dss_cons (ds_set (O' := []) c.nd (i := 3) rfl (by first | exact Or.inl rfl | exact Or.inr rfl) (de_callP c hy._law_least rfl (da_cons (de_var 2 (by decide)) da_nil)) (by decide) (by decide))
    (dss_cons (ds_set (O' := []) c.nd (i := 4) rfl (by first | exact Or.inl rfl | exact Or.inr rfl) (de_callP c hy._law_told rfl (da_cons (de_var 2 (by decide)) da_nil)) (by decide) (by decide))
    (dss_cons (ds_if (PW.pt (dw_or (dt_ck (ck_ne c) (de_var 4 (by decide)) (de_var 3 (by decide)) rfl) (dw_or1 (dt_not (dt_tru c.hK (de_all c rfl fx.f_all (da_cons (de_give (df_lc (own := [("thing", 7)]) c (di_any c.hK (de_var 2 (by decide))) (blkOk_by (N := n_law) (sc := defScope s_law) (by decide +kernel)) tg_name (fun _ _ _ _ _ => (pg_name c.nd (i := 7) rfl (by first | exact Or.inl rfl | exact Or.inr rfl))) (fun _ _ _ _ _ c' => dts_nil) (fun _ _ _ _ _ c' => (de_callP c' hy.fits_shape rfl (da_cons (de_var 4 (by decide)) (da_cons (de_var 7 (by decide)) da_nil)))))) da_nil))))))) (dss_one (ds_ret de_bl)) dss_nil)
    (dss_cons (ds_if (PW.pt (dw_or (dt_ck (ck_ne c) (de_callP c hy._law_told rfl (da_cons (de_rev (de_var 2 (by decide))) da_nil)) (de_var 3 (by decide)) rfl) (dw_or1 (dt_ck (ck_ne c) (de_callP c hy._law_told rfl (da_cons (de_add c.hK (de_var 2 (by decide)) (de_var 2 (by decide))) da_nil)) (de_var 3 (by decide)) rfl)))) (dss_one (ds_ret de_bl)) dss_nil)
    (dss_cons (ds_set (O' := []) c.nd (i := 5) rfl (by first | exact Or.inl rfl | exact Or.inr rfl) (de_callT c hy._law_few rfl (da_cons (de_var 0 (by decide)) (da_cons (de_var 1 (by decide)) (da_cons de_int da_nil)))) (by decide) (by decide))
    (dss_cons (ds_if (PW.pt (dw_or (dt_ck (ck_ne c) (de_callP c hy.fits_shape rfl (da_cons (de_var 4 (by decide)) (da_cons (de_var 5 (by decide)) da_nil))) (de_callP c hy._law_fits rfl (da_cons (de_var 3 (by decide)) (da_cons (de_var 5 (by decide)) da_nil))) rfl) (dw_or1 (dt_ck (ck_ne c) (de_callP c hy._law_told rfl (da_cons (de_add c.hK (de_var 2 (by decide)) (de_lst (da_cons (de_var 5 (by decide)) da_nil))) da_nil)) (de_callP c hy._law_least rfl (da_cons (de_add c.hK (de_var 2 (by decide)) (de_lst (da_cons (de_var 5 (by decide)) da_nil))) da_nil)) rfl)))) (dss_one (ds_ret de_bl)) dss_nil)
    (dss_cons (ds_if (PW.pt (dw_and (dt_ck (ck_eq c) (de_callP c hy._law_told rfl (da_cons (de_add c.hK (de_var 2 (by decide)) (de_lst (da_cons (de_var 5 (by decide)) da_nil))) da_nil)) (de_var 3 (by decide)) rfl) (dw_and1 (dt_not (dt_tru c.hK (de_callP c hy.fits_shape rfl (da_cons (de_var 4 (by decide)) (da_cons (de_var 5 (by decide)) da_nil)))))))) (dss_one (ds_ret de_bl)) dss_nil)
    (dss_one (ds_ret (de_ck (ck_eq c) (de_callP c hy._law_told rfl (da_cons (de_add c.hK (de_var 2 (by decide)) (de_lst (da_cons (de_lst (da_cons (de_mul de_str de_int) da_nil)) da_nil))) da_nil)) (de_tup (da_cons de_str (da_cons de_str da_nil))) rfl)))))))))))
theorem sc_law : FnScope n_law ["script"] (defScope s_law) := ⟨rfl, rfl, rfl, by decide +kernel, rfl, by decide +kernel, by decide +kernel⟩
end Nw
set_option Elab.async false
set_option linter.all false
set_option maxRecDepth 100000
set_option maxHeartbeats 0
namespace Nw
open PySem PySem.Spec L2
abbrev FnP (K : PySem.W.Frag) (x : Str) (st : Stmt) (f : Addr) (fd : FuncData) : Prop := FunD K x x (defArgs st) (defBody st) (defScope st) [] [] f fd
structure Fns (K : PySem.W.Frag) (mg : Str → Option Value) : Prop where
  kind_of : (∃ fd, FnP K "kind_of" s_kind_of (He.ga K "kind_of") fd) ∧ mg "kind_of" = some (.ref (He.ga K "kind_of"))
  is_sign : (∃ fd, FnP K "is_sign" s_is_sign (He.ga K "is_sign") fd) ∧ mg "is_sign" = some (.ref (He.ga K "is_sign"))
  is_word : (∃ fd, FnP K "is_word" s_is_word (He.ga K "is_word") fd) ∧ mg "is_word" = some (.ref (He.ga K "is_word"))
  is_thing : (∃ fd, FnP K "is_thing" s_is_thing (He.ga K "is_thing") fd) ∧ mg "is_thing" = some (.ref (He.ga K "is_thing"))
  inner_things : (∃ fd, FnP K "inner_things" s_inner_things (He.ga K "inner_things") fd) ∧ mg "inner_things" = some (.ref (He.ga K "inner_things"))
  look_thing : (∃ fd, FnP K "look_thing" s_look_thing (He.ga K "look_thing") fd) ∧ mg "look_thing" = some (.ref (He.ga K "look_thing"))
  is_entry : (∃ fd, FnP K "is_entry" s_is_entry (He.ga K "is_entry") fd) ∧ mg "is_entry" = some (.ref (He.ga K "is_entry"))
  is_table_shape : (∃ fd, FnP K "is_table_shape" s_is_table_shape (He.ga K "is_table_shape") fd) ∧ mg "is_table_shape" = some (.ref (He.ga K "is_table_shape"))
  is_shape : (∃ fd, FnP K "is_shape" s_is_shape (He.ga K "is_shape") fd) ∧ mg "is_shape" = some (.ref (He.ga K "is_shape"))
  look_shape : (∃ fd, FnP K "look_shape" s_look_shape (He.ga K "look_shape") fd) ∧ mg "look_shape" = some (.ref (He.ga K "look_shape"))
  is_table_fit : (∃ fd, FnP K "is_table_fit" s_is_table_fit (He.ga K "is_table_fit") fd) ∧ mg "is_table_fit" = some (.ref (He.ga K "is_table_fit"))
  is_fit : (∃ fd, FnP K "is_fit" s_is_fit (He.ga K "is_fit") fd) ∧ mg "is_fit" = some (.ref (He.ga K "is_fit"))
  fits_shape : (∃ fd, FnP K "fits_shape" s_fits_shape (He.ga K "fits_shape") fd) ∧ mg "fits_shape" = some (.ref (He.ga K "fits_shape"))
  shape_of_rows : (∃ fd, FnP K "shape_of_rows" s_shape_of_rows (He.ga K "shape_of_rows") fd) ∧ mg "shape_of_rows" = some (.ref (He.ga K "shape_of_rows"))
  shape_of_tables : (∃ fd, FnP K "shape_of_tables" s_shape_of_tables (He.ga K "shape_of_tables") fd) ∧ mg "shape_of_tables" = some (.ref (He.ga K "shape_of_tables"))
  shape_of_kind : (∃ fd, FnP K "shape_of_kind" s_shape_of_kind (He.ga K "shape_of_kind") fd) ∧ mg "shape_of_kind" = some (.ref (He.ga K "shape_of_kind"))
  shape_of : (∃ fd, FnP K "shape_of" s_shape_of (He.ga K "shape_of") fd) ∧ mg "shape_of" = some (.ref (He.ga K "shape_of"))
  least_shape : (∃ fd, FnP K "least_shape" s_least_shape (He.ga K "least_shape") fd) ∧ mg "least_shape" = some (.ref (He.ga K "least_shape"))
  _law_cell : (∃ fd, FnP K "_law_cell" s__law_cell (He.ga K "_law_cell") fd) ∧ mg "_law_cell" = some (.ref (He.ga K "_law_cell"))
  _law_mix : (∃ fd, FnP K "_law_mix" s__law_mix (He.ga K "_law_mix") fd) ∧ mg "_law_mix" = some (.ref (He.ga K "_law_mix"))
  _law_draw : (∃ fd, FnP K "_law_draw" s__law_draw (He.ga K "_law_draw") fd) ∧ mg "_law_draw" = some (.ref (He.ga K "_law_draw"))
  _law_pick : (∃ fd, FnP K "_law_pick" s__law_pick (He.ga K "_law_pick") fd) ∧ mg "_law_pick" = some (.ref (He.ga K "_law_pick"))
  _law_refusal : (∃ fd, FnP K "_law_refusal" s__law_refusal (He.ga K "_law_refusal") fd) ∧ mg "_law_refusal" = some (.ref (He.ga K "_law_refusal"))
  _law_kind : (∃ fd, FnP K "_law_kind" s__law_kind (He.ga K "_law_kind") fd) ∧ mg "_law_kind" = some (.ref (He.ga K "_law_kind"))
  _law_few : (∃ fd, FnP K "_law_few" s__law_few (He.ga K "_law_few") fd) ∧ mg "_law_few" = some (.ref (He.ga K "_law_few"))
  _law_fits : (∃ fd, FnP K "_law_fits" s__law_fits (He.ga K "_law_fits") fd) ∧ mg "_law_fits" = some (.ref (He.ga K "_law_fits"))
  _law_least : (∃ fd, FnP K "_law_least" s__law_least (He.ga K "_law_least") fd) ∧ mg "_law_least" = some (.ref (He.ga K "_law_least"))
  _law_entries : (∃ fd, FnP K "_law_entries" s__law_entries (He.ga K "_law_entries") fd) ∧ mg "_law_entries" = some (.ref (He.ga K "_law_entries"))
  _law_told : (∃ fd, FnP K "_law_told" s__law_told (He.ga K "_law_told") fd) ∧ mg "_law_told" = some (.ref (He.ga K "_law_told"))
  law : (∃ fd, FnP K "law" s_law (He.ga K "law") fd) ∧ mg "law" = some (.ref (He.ga K "law"))
theorem has_of {P : Program} {w : World} {K : PySem.W.Frag} {mg : Str → Option Value} {base : Heap} {k : Nat} {sp : Sp} {x : Str} {st : Stmt} {ps : List Str} (h : (∃ fd, FnP K x st (He.ga K x) fd) ∧ mg x = some (.ref (He.ga K x)))
    (b : ∀ (kV doc pm : Value) (an : Option Addr) (cdv ct : Value) (us : List Value), us.length = ps.length → bindArgs (PySem.W.fnOf x x (defArgs st) (defBody st) (defScope st) .none kV doc pm an cdv ct) ⟨us, []⟩ = pure (ps.zip us))
    (F : ∀ fd, FnP K x st (He.ga K x) fd → FnOk P w K mg base (L2.CX P w) k (He.ga K x) fd ps sp) : Has P w K mg base k x sp := by
  obtain ⟨⟨fd, hf⟩, hm⟩ := h
  exact ⟨He.ga K x, fd, ps, F fd hf, hm, hf.kp, hf.bindsN b⟩
theorem bi_kind_of (kV doc pm : Value) (an : Option Addr) (cdv ct : Value) (us : List Value) (hl : us.length = (["thing"] : List Str).length) : bindArgs (PySem.W.fnOf "kind_of" "kind_of" (defArgs s_kind_of) (defBody s_kind_of) (defScope s_kind_of) .none kV doc pm an cdv ct) ⟨us, []⟩ = pure ((["thing"] : List Str).zip us) := match us, hl with | [_], _ => rfl
theorem bi_is_sign (kV doc pm : Value) (an : Option Addr) (cdv ct : Value) (us : List Value) (hl : us.length = (["sign"] : List Str).length) : bindArgs (PySem.W.fnOf "is_sign" "is_sign" (defArgs s_is_sign) (defBody s_is_sign) (defScope s_is_sign) .none kV doc pm an cdv ct) ⟨us, []⟩ = pure ((["sign"] : List Str).zip us) := match us, hl with | [_], _ => rfl
theorem bi_is_word (kV doc pm : Value) (an : Option Addr) (cdv ct : Value) (us : List Value) (hl : us.length = (["word"] : List Str).length) : bindArgs (PySem.W.fnOf "is_word" "is_word" (defArgs s_is_word) (defBody s_is_word) (defScope s_is_word) .none kV doc pm an cdv ct) ⟨us, []⟩ = pure ((["word"] : List Str).zip us) := match us, hl with | [_], _ => rfl
theorem bi_is_thing (kV doc pm : Value) (an : Option Addr) (cdv ct : Value) (us : List Value) (hl : us.length = (["thing", "deep"] : List Str).length) : bindArgs (PySem.W.fnOf "is_thing" "is_thing" (defArgs s_is_thing) (defBody s_is_thing) (defScope s_is_thing) .none kV doc pm an cdv ct) ⟨us, []⟩ = pure ((["thing", "deep"] : List Str).zip us) := match us, hl with | [_, _], _ => rfl
theorem bi_inner_things (kV doc pm : Value) (an : Option Addr) (cdv ct : Value) (us : List Value) (hl : us.length = (["thing"] : List Str).length) : bindArgs (PySem.W.fnOf "inner_things" "inner_things" (defArgs s_inner_things) (defBody s_inner_things) (defScope s_inner_things) .none kV doc pm an cdv ct) ⟨us, []⟩ = pure ((["thing"] : List Str).zip us) := match us, hl with | [_], _ => rfl
theorem bi_look_thing (kV doc pm : Value) (an : Option Addr) (cdv ct : Value) (us : List Value) (hl : us.length = (["thing"] : List Str).length) : bindArgs (PySem.W.fnOf "look_thing" "look_thing" (defArgs s_look_thing) (defBody s_look_thing) (defScope s_look_thing) .none kV doc pm an cdv ct) ⟨us, []⟩ = pure ((["thing"] : List Str).zip us) := match us, hl with | [_], _ => rfl
theorem bi_is_entry (kV doc pm : Value) (an : Option Addr) (cdv ct : Value) (us : List Value) (hl : us.length = (["entry", "deep"] : List Str).length) : bindArgs (PySem.W.fnOf "is_entry" "is_entry" (defArgs s_is_entry) (defBody s_is_entry) (defScope s_is_entry) .none kV doc pm an cdv ct) ⟨us, []⟩ = pure ((["entry", "deep"] : List Str).zip us) := match us, hl with | [_, _], _ => rfl
theorem bi_is_table_shape (kV doc pm : Value) (an : Option Addr) (cdv ct : Value) (us : List Value) (hl : us.length = (["shape", "deep"] : List Str).length) : bindArgs (PySem.W.fnOf "is_table_shape" "is_table_shape" (defArgs s_is_table_shape) (defBody s_is_table_shape) (defScope s_is_table_shape) .none kV doc pm an cdv ct) ⟨us, []⟩ = pure ((["shape", "deep"] : List Str).zip us) := match us, hl with | [_, _], _ => rfl
theorem bi_is_shape (kV doc pm : Value) (an : Option Addr) (cdv ct : Value) (us : List Value) (hl : us.length = (["shape", "deep"] : List Str).length) : bindArgs (PySem.W.fnOf "is_shape" "is_shape" (defArgs s_is_shape) (defBody s_is_shape) (defScope s_is_shape) .none kV doc pm an cdv ct) ⟨us, []⟩ = pure ((["shape", "deep"] : List Str).zip us) := match us, hl with | [_, _], _ => rfl
theorem bi_look_shape (kV doc pm : Value) (an : Option Addr) (cdv ct : Value) (us : List Value) (hl : us.length = (["shape"] : List Str).length) : bindArgs (PySem.W.fnOf "look_shape" "look_shape" (defArgs s_look_shape) (defBody s_look_shape) (defScope s_look_shape) .none kV doc pm an cdv ct) ⟨us, []⟩ = pure ((["shape"] : List Str).zip us) := match us, hl with | [_], _ => rfl
theorem bi_is_table_fit (kV doc pm : Value) (an : Option Addr) (cdv ct : Value) (us : List Value) (hl : us.length = (["shape", "thing"] : List Str).length) : bindArgs (PySem.W.fnOf "is_table_fit" "is_table_fit" (defArgs s_is_table_fit) (defBody s_is_table_fit) (defScope s_is_table_fit) .none kV doc pm an cdv ct) ⟨us, []⟩ = pure ((["shape", "thing"] : List Str).zip us) := match us, hl with | [_, _], _ => rfl
theorem bi_is_fit (kV doc pm : Value) (an : Option Addr) (cdv ct : Value) (us : List Value) (hl : us.length = (["shape", "thing"] : List Str).length) : bindArgs (PySem.W.fnOf "is_fit" "is_fit" (defArgs s_is_fit) (defBody s_is_fit) (defScope s_is_fit) .none kV doc pm an cdv ct) ⟨us, []⟩ = pure ((["shape", "thing"] : List Str).zip us) := match us, hl with | [_, _], _ => rfl
theorem bi_fits_shape (kV doc pm : Value) (an : Option Addr) (cdv ct : Value) (us : List Value) (hl : us.length = (["shape", "thing"] : List Str).length) : bindArgs (PySem.W.fnOf "fits_shape" "fits_shape" (defArgs s_fits_shape) (defBody s_fits_shape) (defScope s_fits_shape) .none kV doc pm an cdv ct) ⟨us, []⟩ = pure ((["shape", "thing"] : List Str).zip us) := match us, hl with | [_, _], _ => rfl
theorem bi_shape_of_rows (kV doc pm : Value) (an : Option Addr) (cdv ct : Value) (us : List Value) (hl : us.length = (["rows"] : List Str).length) : bindArgs (PySem.W.fnOf "shape_of_rows" "shape_of_rows" (defArgs s_shape_of_rows) (defBody s_shape_of_rows) (defScope s_shape_of_rows) .none kV doc pm an cdv ct) ⟨us, []⟩ = pure ((["rows"] : List Str).zip us) := match us, hl with | [_], _ => rfl
theorem bi_shape_of_tables (kV doc pm : Value) (an : Option Addr) (cdv ct : Value) (us : List Value) (hl : us.length = (["tables"] : List Str).length) : bindArgs (PySem.W.fnOf "shape_of_tables" "shape_of_tables" (defArgs s_shape_of_tables) (defBody s_shape_of_tables) (defScope s_shape_of_tables) .none kV doc pm an cdv ct) ⟨us, []⟩ = pure ((["tables"] : List Str).zip us) := match us, hl with | [_], _ => rfl
theorem bi_shape_of_kind (kV doc pm : Value) (an : Option Addr) (cdv ct : Value) (us : List Value) (hl : us.length = (["kind", "things"] : List Str).length) : bindArgs (PySem.W.fnOf "shape_of_kind" "shape_of_kind" (defArgs s_shape_of_kind) (defBody s_shape_of_kind) (defScope s_shape_of_kind) .none kV doc pm an cdv ct) ⟨us, []⟩ = pure ((["kind", "things"] : List Str).zip us) := match us, hl with | [_, _], _ => rfl
theorem bi_shape_of (kV doc pm : Value) (an : Option Addr) (cdv ct : Value) (us : List Value) (hl : us.length = (["things"] : List Str).length) : bindArgs (PySem.W.fnOf "shape_of" "shape_of" (defArgs s_shape_of) (defBody s_shape_of) (defScope s_shape_of) .none kV doc pm an cdv ct) ⟨us, []⟩ = pure ((["things"] : List Str).zip us) := match us, hl with | [_], _ => rfl
theorem bi_least_shape (kV doc pm : Value) (an : Option Addr) (cdv ct : Value) (us : List Value) (hl : us.length = (["things"] : List Str).length) : bindArgs (PySem.W.fnOf "least_shape" "least_shape" (defArgs s_least_shape) (defBody s_least_shape) (defScope s_least_shape) .none kV doc pm an cdv ct) ⟨us, []⟩ = pure ((["things"] : List Str).zip us) := match us, hl with | [_], _ => rfl
theorem bi__law_cell (kV doc pm : Value) (an : Option Addr) (cdv ct : Value) (us : List Value) (hl : us.length = (["script", "k"] : List Str).length) : bindArgs (PySem.W.fnOf "_law_cell" "_law_cell" (defArgs s__law_cell) (defBody s__law_cell) (defScope s__law_cell) .none kV doc pm an cdv ct) ⟨us, []⟩ = pure ((["script", "k"] : List Str).zip us) := match us, hl with | [_, _], _ => rfl
theorem bi__law_mix (kV doc pm : Value) (an : Option Addr) (cdv ct : Value) (us : List Value) (hl : us.length = (["script", "k"] : List Str).length) : bindArgs (PySem.W.fnOf "_law_mix" "_law_mix" (defArgs s__law_mix) (defBody s__law_mix) (defScope s__law_mix) .none kV doc pm an cdv ct) ⟨us, []⟩ = pure ((["script", "k"] : List Str).zip us) := match us, hl with | [_, _], _ => rfl
theorem bi__law_draw (kV doc pm : Value) (an : Option Addr) (cdv ct : Value) (us : List Value) (hl : us.length = (["script", "town", "many"] : List Str).length) : bindArgs (PySem.W.fnOf "_law_draw" "_law_draw" (defArgs s__law_draw) (defBody s__law_draw) (defScope s__law_draw) .none kV doc pm an cdv ct) ⟨us, []⟩ = pure ((["script", "town", "many"] : List Str).zip us) := match us, hl with | [_, _, _], _ => rfl
theorem bi__law_pick (kV doc pm : Value) (an : Option Addr) (cdv ct : Value) (us : List Value) (hl : us.length = (["script", "town", "some"] : List Str).length) : bindArgs (PySem.W.fnOf "_law_pick" "_law_pick" (defArgs s__law_pick) (defBody s__law_pick) (defScope s__law_pick) .none kV doc pm an cdv ct) ⟨us, []⟩ = pure ((["script", "town", "some"] : List Str).zip us) := match us, hl with | [_, _, _], _ => rfl
theorem bi__law_refusal (kV doc pm : Value) (an : Option Addr) (cdv ct : Value) (us : List Value) (hl : us.length = (["held"] : List Str).length) : bindArgs (PySem.W.fnOf "_law_refusal" "_law_refusal" (defArgs s__law_refusal) (defBody s__law_refusal) (defScope s__law_refusal) .none kV doc pm an cdv ct) ⟨us, []⟩ = pure ((["held"] : List Str).zip us) := match us, hl with | [_], _ => rfl
theorem bi__law_kind (kV doc pm : Value) (an : Option Addr) (cdv ct : Value) (us : List Value) (hl : us.length = (["thing"] : List Str).length) : bindArgs (PySem.W.fnOf "_law_kind" "_law_kind" (defArgs s__law_kind) (defBody s__law_kind) (defScope s__law_kind) .none kV doc pm an cdv ct) ⟨us, []⟩ = pure ((["thing"] : List Str).zip us) := match us, hl with | [_], _ => rfl
theorem bi__law_few (kV doc pm : Value) (an : Option Addr) (cdv ct : Value) (us : List Value) (hl : us.length = (["script", "town", "deep"] : List Str).length) : bindArgs (PySem.W.fnOf "_law_few" "_law_few" (defArgs s__law_few) (defBody s__law_few) (defScope s__law_few) .none kV doc pm an cdv ct) ⟨us, []⟩ = pure ((["script", "town", "deep"] : List Str).zip us) := match us, hl with | [_, _, _], _ => rfl
theorem bi__law_fits (kV doc pm : Value) (an : Option Addr) (cdv ct : Value) (us : List Value) (hl : us.length = (["shape", "thing"] : List Str).length) : bindArgs (PySem.W.fnOf "_law_fits" "_law_fits" (defArgs s__law_fits) (defBody s__law_fits) (defScope s__law_fits) .none kV doc pm an cdv ct) ⟨us, []⟩ = pure ((["shape", "thing"] : List Str).zip us) := match us, hl with | [_, _], _ => rfl
theorem bi__law_least (kV doc pm : Value) (an : Option Addr) (cdv ct : Value) (us : List Value) (hl : us.length = (["things"] : List Str).length) : bindArgs (PySem.W.fnOf "_law_least" "_law_least" (defArgs s__law_least) (defBody s__law_least) (defScope s__law_least) .none kV doc pm an cdv ct) ⟨us, []⟩ = pure ((["things"] : List Str).zip us) := match us, hl with | [_], _ => rfl
theorem bi__law_entries (kV doc pm : Value) (an : Option Addr) (cdv ct : Value) (us : List Value) (hl : us.length = (["tables"] : List Str).length) : bindArgs (PySem.W.fnOf "_law_entries" "_law_entries" (defArgs s__law_entries) (defBody s__law_entries) (defScope s__law_entries) .none kV doc pm an cdv ct) ⟨us, []⟩ = pure ((["tables"] : List Str).zip us) := match us, hl with | [_], _ => rfl
theorem bi__law_told (kV doc pm : Value) (an : Option Addr) (cdv ct : Value) (us : List Value) (hl : us.length = (["things"] : List Str).length) : bindArgs (PySem.W.fnOf "_law_told" "_law_told" (defArgs s__law_told) (defBody s__law_told) (defScope s__law_told) .none kV doc pm an cdv ct) ⟨us, []⟩ = pure ((["things"] : List Str).zip us) := match us, hl with | [_], _ => rfl
theorem hyp_all {P : Program} {w : World} {K : PySem.W.Frag} {mg : Str → Option Value} {base : Heap} (fx : Fx w K mg) (fns : Fns K mg) : ∀ k, Hyp P w K mg base k (den k)
  | 0 => {
    kind_of := has_of fns.kind_of bi_kind_of fun _ _ => fn_none not_P
    is_sign := has_of fns.is_sign bi_is_sign fun _ _ => fn_none not_P
    is_word := has_of fns.is_word bi_is_word fun _ _ => fn_none not_P
    is_thing := has_of fns.is_thing bi_is_thing fun _ _ => fn_none not_P
    inner_things := has_of fns.inner_things bi_inner_things fun _ _ => fn_none not_P
    look_thing := has_of fns.look_thing bi_look_thing fun _ _ => fn_none not_P
    is_entry := has_of fns.is_entry bi_is_entry fun _ _ => fn_none not_P
    is_table_shape := has_of fns.is_table_shape bi_is_table_shape fun _ _ => fn_none not_P
    is_shape := has_of fns.is_shape bi_is_shape fun _ _ => fn_none not_P
    look_shape := has_of fns.look_shape bi_look_shape fun _ _ => fn_none not_P
    is_table_fit := has_of fns.is_table_fit bi_is_table_fit fun _ _ => fn_none not_P
    is_fit := has_of fns.is_fit bi_is_fit fun _ _ => fn_none not_P
    fits_shape := has_of fns.fits_shape bi_fits_shape fun _ _ => fn_none not_P
    shape_of_rows := has_of fns.shape_of_rows bi_shape_of_rows fun _ _ => fn_none not_P
    shape_of_tables := has_of fns.shape_of_tables bi_shape_of_tables fun _ _ => fn_none not_P
    shape_of_kind := has_of fns.shape_of_kind bi_shape_of_kind fun _ _ => fn_none not_P
    shape_of := has_of fns.shape_of bi_shape_of fun _ _ => fn_none not_P
    least_shape := has_of fns.least_shape bi_least_shape fun _ _ => fn_none not_P
    _law_cell := has_of fns._law_cell bi__law_cell fun _ _ => fn_none not_P
    _law_mix := has_of fns._law_mix bi__law_mix fun _ _ => fn_none not_P
    _law_draw := has_of fns._law_draw bi__law_draw fun _ _ => fn_none not_T
    _law_pick := has_of fns._law_pick bi__law_pick fun _ _ => fn_none not_T
    _law_refusal := has_of fns._law_refusal bi__law_refusal fun _ _ => fn_none not_P
    _law_kind := has_of fns._law_kind bi__law_kind fun _ _ => fn_none not_P
    _law_few := has_of fns._law_few bi__law_few fun _ _ => fn_none not_T
    _law_fits := has_of fns._law_fits bi__law_fits fun _ _ => fn_none not_P
    _law_least := has_of fns._law_least bi__law_least fun _ _ => fn_none not_P
    _law_entries := has_of fns._law_entries bi__law_entries fun _ _ => fn_none not_P
    _law_told := has_of fns._law_told bi__law_told fun _ _ => fn_none not_P
  }
  | k + 1 => have h := hyp_all fx fns k; {
    kind_of := has_of fns.kind_of bi_kind_of fun _ F => fn_P F sc_kind_of fun q => body_kind_of fx h q
    is_sign := has_of fns.is_sign bi_is_sign fun _ F => fn_P F sc_is_sign fun q => body_is_sign fx h q
    is_word := has_of fns.is_word bi_is_word fun _ F => fn_P F sc_is_word fun q => body_is_word fx h q
    is_thing := has_of fns.is_thing bi_is_thing fun _ F => fn_P F sc_is_thing fun q => body_is_thing fx h q
    inner_things := has_of fns.inner_things bi_inner_things fun _ F => fn_P F sc_inner_things fun q => body_inner_things fx h q
    look_thing := has_of fns.look_thing bi_look_thing fun _ F => fn_P F sc_look_thing fun q => body_look_thing fx h q
    is_entry := has_of fns.is_entry bi_is_entry fun _ F => fn_P F sc_is_entry fun q => body_is_entry fx h q
    is_table_shape := has_of fns.is_table_shape bi_is_table_shape fun _ F => fn_P F sc_is_table_shape fun q => body_is_table_shape fx h q
    is_shape := has_of fns.is_shape bi_is_shape fun _ F => fn_P F sc_is_shape fun q => body_is_shape fx h q
    look_shape := has_of fns.look_shape bi_look_shape fun _ F => fn_P F sc_look_shape fun q => body_look_shape fx h q
    is_table_fit := has_of fns.is_table_fit bi_is_table_fit fun _ F => fn_P F sc_is_table_fit fun q => body_is_table_fit fx h q
    is_fit := has_of fns.is_fit bi_is_fit fun _ F => fn_P F sc_is_fit fun q => body_is_fit fx h q
    fits_shape := has_of fns.fits_shape bi_fits_shape fun _ F => fn_P F sc_fits_shape fun q => body_fits_shape fx h q
    shape_of_rows := has_of fns.shape_of_rows bi_shape_of_rows fun _ F => fn_P F sc_shape_of_rows fun q => body_shape_of_rows fx h q
    shape_of_tables := has_of fns.shape_of_tables bi_shape_of_tables fun _ F => fn_P F sc_shape_of_tables fun q => body_shape_of_tables fx h q
    shape_of_kind := has_of fns.shape_of_kind bi_shape_of_kind fun _ F => fn_P F sc_shape_of_kind fun q => body_shape_of_kind fx h q
    shape_of := has_of fns.shape_of bi_shape_of fun _ F => fn_P F sc_shape_of fun q => body_shape_of fx h q
    least_shape := has_of fns.least_shape bi_least_shape fun _ F => fn_P F sc_least_shape fun q => body_least_shape fx h q
    _law_cell := has_of fns._law_cell bi__law_cell fun _ F => fn_P F sc__law_cell fun q => body__law_cell fx h q
    _law_mix := has_of fns._law_mix bi__law_mix fun _ F => fn_P F sc__law_mix fun q => body__law_mix fx h q
    _law_draw := has_of fns._law_draw bi__law_draw fun _ F => fn_T F sc__law_draw fun q => body__law_draw fx h q
    _law_pick := has_of fns._law_pick bi__law_pick fun _ F => fn_T F sc__law_pick fun q => body__law_pick fx h q
    _law_refusal := has_of fns._law_refusal bi__law_refusal fun _ F => fn_P F sc__law_refusal fun q => body__law_refusal fx h q
    _law_kind := has_of fns._law_kind bi__law_kind fun _ F => fn_P F sc__law_kind fun q => body__law_kind fx h q
    _law_few := has_of fns._law_few bi__law_few fun _ F => fn_T F sc__law_few fun q => body__law_few fx h q
    _law_fits := has_of fns._law_fits bi__law_fits fun _ F => fn_P F sc__law_fits fun q => body__law_fits fx h q
    _law_least := has_of fns._law_least bi__law_least fun _ F => fn_P F sc__law_least fun q => body__law_least fx h q
    _law_entries := has_of fns._law_entries bi__law_entries fun _ F => fn_P F sc__law_entries fun q => body__law_entries fx h q
    _law_told := has_of fns._law_told bi__law_told fun _ F => fn_P F sc__law_told fun q => body__law_told fx h q
  }
end Nw
set_option Elab.async false
set_option linter.all false
set_option maxRecDepth 100000
set_option maxHeartbeats 4000000
namespace Nw
open PySem PySem.Spec L2
/-! ### what the pieces do, as equations -/
section
variable {S α β : Type}
theorem bnd_e (m : M S α) (k : α → M S β) (s : S) : bnd m k s = match m s with | .ok a s' => k a s' | .exc x s' => .exc x s' | .bot => .bot := rfl
theorem lift_e (a : α) (s : S) : (lift (some a) : M S α) s = .ok a s := rfl
theorem lift_n (s : S) : (lift none : M S α) s = .bot := rfl
/-- a comprehension whose turns are told one by one -/
theorem lcA_map {i : Nat} {f : Sl → M S D} {r : Sl} {s : S} (g : D → D) : ∀ (xs acc : List D), (∀ x ∈ xs, f (r.set i (some x)) s = .ok (g x) s) → lcA (tgN i) dYes f r acc xs s = .ok (.row (acc ++ xs.map g)) s
  | [], acc, _ => by rw [List.map_nil, List.append_nil]; rfl
  | x :: xs, acc, h => by
    have h1 := h x List.mem_cons_self
    have e : lcA (tgN i) dYes f r acc (x :: xs) s = bnd (nox (f (r.set i (some x)))) (fun y => lcA (tgN i) dYes f r (acc ++ [y]) xs) s := rfl
    have e2 : nox (f (r.set i (some x))) s = .ok (g x) s := by unfold nox; rw [h1]
    rw [e, bnd_ok e2, lcA_map g xs (acc ++ [g x]) fun y hy => h y (List.mem_cons_of_mem _ hy), List.map_cons, List.append_assoc, List.singleton_append]
end
theorem kind_non (k : Nat) : (den (k + 1)).kind_of [.non] () = .ok (.str "none") () := by kernel_rfl
theorem kind_bl (k : Nat) (b : Bool) : (den (k + 1)).kind_of [.bl b] () = .ok (.str "truth") () := by kernel_rfl
theorem kind_int (k : Nat) (i : Int) : (den (k + 1)).kind_of [.int i] () = .ok (.str "number") () := by kernel_rfl
theorem kind_str (k : Nat) (x : Str) : (den (k + 1)).kind_of [.str x] () = .ok (.str "word") () := by kernel_rfl
theorem kind_row (k : Nat) (x : List D) : (den (k + 1)).kind_of [.row x] () = .ok (.str "row") () := by kernel_rfl
theorem kind_tab (k : Nat) (x : List (Key × D)) : (den (k + 1)).kind_of [.tab x] () = .ok (.str "table") () := by kernel_rfl
theorem lkind_non (k : Nat) : (den (k + 1))._law_kind [.non] () = .ok (.int 0) () := by kernel_rfl
theorem lkind_bl (k : Nat) (b : Bool) : (den (k + 1))._law_kind [.bl b] () = .ok (.int 1) () := by kernel_rfl
theorem lkind_int (k : Nat) (i : Int) : (den (k + 1))._law_kind [.int i] () = .ok (.int 2) () := by kernel_rfl
theorem lkind_str (k : Nat) (x : Str) : (den (k + 1))._law_kind [.str x] () = .ok (.int 3) () := by kernel_rfl
theorem lkind_row (k : Nat) (x : List D) : (den (k + 1))._law_kind [.row x] () = .ok (.int 4) () := by kernel_rfl
theorem lkind_tab (k : Nat) (x : List (Key × D)) : (den (k + 1))._law_kind [.tab x] () = .ok (.int 5) () := by kernel_rfl
/-! ### words -/
def okC (c : Nat) : Bool := decide (32 ≤ c) && decide (c < 127) && !decide (c = 37)
def okS : D → D
  | .str x => .bl (okC (x.cps.getD 0 0))
  | _ => .bl false
def isW (x : Str) : Bool := decide (x.length ≤ 60) && x.cps.toList.all okC
theorem eqD_int (i j : Int) : eqD (.int i) (.int j) = some (.bl (decide (i = j))) := by
  kernel_rfl
theorem neD_int (i j : Int) : neD (.int i) (.int j) = some (.bl (!decide (i = j))) := by
  kernel_rfl
theorem is_sign_eq (k c : Nat) : (den (k + 1)).is_sign [.str ⟨#[c]⟩] () = .ok (.bl (okC c)) () := by
  show fnD 1 (b_is_sign (den k)) [.str ⟨#[c]⟩] () = _
  have ho : ordD [.str ⟨#[c]⟩] = some (.int (c : Nat)) := rfl
  have h1 : leD (.int 32) (.int (c : Nat)) = some (.bl (decide (32 ≤ c))) := by
    show some (D.bl (decide ((32 : Int) ≤ c))) = _
    congr 2
    exact decide_eq_decide.mpr (by omega)
  have h2 : ltD (.int (c : Nat)) (.int 127) = some (.bl (decide (c < 127))) := by
    show some (D.bl (decide ((c : Int) < 127))) = _
    congr 2
    exact decide_eq_decide.mpr (by omega)
  have h3 : neD (.int (c : Nat)) (.int 37) = some (.bl (!decide (c = 37))) := by
    rw [neD_int]
    congr 3
    exact decide_eq_decide.mpr (by omega)
  unfold okC
  cases e1 : decide (32 ≤ c) <;> cases e2 : decide (c < 127) <;> simp only [b_is_sign, dChain, ho, h1, h2, h3, e1, e2, fnD, startD, endK, sRet, sRetN, sSeq, seqK, sIf, sAsg, sDrop, sNil, liftX, tgN, sFor, sOwn1, sOwn2, optK, putK2, sAsgO, sRetO, isRT, dAnd, dOr, dIf, bnd_e, dOp, dUn, dAll, dCons, dNil, ret_ap, dVar, getS, lift_e, lift_n, dC, dTst, isBl, dCall, up, tAndD, tOrD, tNotD, dItems, itemsD, dRange, dMt, dLc, rowD, tupD, truD, notD, tyIs, List.map_cons, List.map_nil, List.length_cons, List.length_nil, List.cons_append, List.nil_append, List.replicate_succ, List.replicate_zero, List.getElem?_cons_zero, List.getElem?_cons_succ, List.set_cons_zero, List.set_cons_succ, Option.join_some, Option.join_none, Option.map_some, Option.map_none, Option.bind_some, Option.bind_none, Nat.reduceAdd, Nat.reduceSub, Nat.zero_add, if_true, if_false, ite_true, ite_false, reduceIte, Bool.false_eq_true, Bool.true_eq_false, eq_self_iff_true, Bool.true_and, Bool.false_and, Bool.and_false]
theorem all_bls (bs : List Bool) : allD [.row (bs.map D.bl)] = some (.bl (bs.all id)) := by
  show (blsD (bs.map D.bl)).map _ = _
  rw [blsD_map]; rfl
theorem sum_ints (bs : List Int) : sumD [.row (bs.map D.int)] = some (.int bs.sum) := by
  show (intsD (bs.map D.int)).map _ = _
  rw [intsD_map]; rfl
theorem is_word_eq (k : Nat) (x : Str) : (den (k + 2)).is_word [.str x] () = .ok (.bl (isW x)) () := by
  show fnD 2 (b_is_word (den (k + 1))) [.str x] () = _
  have h0 : lenD [.str x] = some (.int (x.length : Nat)) := rfl
  have h1 : leD (.int (x.length : Nat)) (.int 60) = some (.bl (decide (x.length ≤ 60))) := by
    show some (D.bl (decide ((x.length : Int) ≤ 60))) = _
    congr 2
    exact decide_eq_decide.mpr (by omega)
  have h2 : ∀ r : Sl, lcA (tgN 1) dYes (dCall 1 (fun ds => up ((den (k + 1)).is_sign ds)) (dCons (dVar 1) dNil)) [some (.str x), none] [] (signs x) () = .ok (.row ((signs x).map okS)) () := fun r => by
    rw [lcA_map okS (signs x) [] fun y hy => ?_, List.nil_append]
    obtain ⟨c, hc, rfl⟩ := List.mem_map.mp hy
    simp only [fnD, startD, endK, sRet, sRetN, sSeq, seqK, sIf, sAsg, sDrop, sNil, liftX, tgN, sFor, sOwn1, sOwn2, optK, putK2, sAsgO, sRetO, isRT, dAnd, dOr, dIf, bnd_e, dOp, dUn, dAll, dCons, dNil, ret_ap, dVar, getS, lift_e, lift_n, dC, dTst, isBl, dCall, up, tAndD, tOrD, tNotD, dItems, itemsD, dRange, dMt, dLc, rowD, tupD, truD, notD, tyIs, List.map_cons, List.map_nil, List.length_cons, List.length_nil, List.cons_append, List.nil_append, List.replicate_succ, List.replicate_zero, List.getElem?_cons_zero, List.getElem?_cons_succ, List.set_cons_zero, List.set_cons_succ, Option.join_some, Option.join_none, Option.map_some, Option.map_none, Option.bind_some, Option.bind_none, Nat.reduceAdd, Nat.reduceSub, Nat.zero_add, if_true, if_false, ite_true, ite_false, reduceIte, Bool.false_eq_true, Bool.true_eq_false, eq_self_iff_true, is_sign_eq]
    rfl
  have h3 : (signs x).map okS = (x.cps.toList.map okC).map D.bl := by
    unfold signs
    rw [List.map_map, List.map_map]
    exact List.map_congr_left fun c _ => rfl
  have h4 : allD [.row ((signs x).map okS)] = some (.bl (x.cps.toList.all okC)) := by
    rw [h3, all_bls, List.all_map]; rfl
  unfold isW
  cases e1 : decide (x.length ≤ 60) <;> simp only [b_is_word, h0, h1, e1, fnD, startD, endK, sRet, sRetN, sSeq, seqK, sIf, sAsg, sDrop, sNil, liftX, tgN, sFor, sOwn1, sOwn2, optK, putK2, sAsgO, sRetO, isRT, dAnd, dOr, dIf, bnd_e, dOp, dUn, dAll, dCons, dNil, ret_ap, dVar, getS, lift_e, lift_n, dC, dTst, isBl, dCall, up, tAndD, tOrD, tNotD, dItems, itemsD, dRange, dMt, dLc, rowD, tupD, truD, notD, tyIs, List.map_cons, List.map_nil, List.length_cons, List.length_nil, List.cons_append, List.nil_append, List.replicate_succ, List.replicate_zero, List.getElem?_cons_zero, List.getElem?_cons_succ, List.set_cons_zero, List.set_cons_succ, Option.join_some, Option.join_none, Option.map_some, Option.map_none, Option.bind_some, Option.bind_none, Nat.reduceAdd, Nat.reduceSub, Nat.zero_add, if_true, if_false, ite_true, ite_false, reduceIte, Bool.false_eq_true, Bool.true_eq_false, eq_self_iff_true, h2 [], h4, Bool.true_and, Bool.false_and]
/-! ### things -/
def okL : D → Prop
  | .non => True
  | .bl _ => True
  | .int i => (if i < 0 then -i else i) ≤ 999999999999999
  | .str x => isW x = true
  | _ => False
def ThD : Nat → D → Prop
  | 0, d => okL d
  | n + 1, .row xs => xs.length ≤ 100 ∧ ∀ x ∈ xs, ThD n x
  | n + 1, .tab kvs => kvs.length ≤ 100 ∧ (kvs.map (·.1)).Nodup ∧ ∀ p ∈ kvs, (∃ x, p.1 = Sum.inr x ∧ isW x = true) ∧ ThD n p.2
  | _ + 1, d => okL d
theorem ThD.leaf {n : Nat} {d : D} (h : okL d) : ThD n d := by
  cases n with
  | zero => exact h
  | succ n => cases d <;> first | exact h | exact h.elim
theorem ThD.mono : ∀ {n : Nat} {d : D}, ThD n d → ThD (n + 1) d
  | 0, d, h => .leaf h
  | n + 1, d, h => by
    cases d with
    | row xs => exact ⟨h.1, fun x hx => (h.2 x hx).mono⟩
    | tab kvs => exact ⟨h.1, h.2.1, fun p hp => ⟨(h.2.2 p hp).1, (h.2.2 p hp).2.mono⟩⟩
    | _ => exact h
theorem ThD.monos {n m : Nat} {d : D} (h : ThD n d) (hm : n ≤ m) : ThD m d := by
  induction hm with
  | refl => exact h
  | step _ ih => exact ih.mono
def keyS : Key → Str
  | .inr x => x
  | .inl _ => ""
def kS (kvs : List (Key × D)) : List Str := kvs.map fun p => keyS p.1
def gv (kvs : List (Key × D)) (x : Str) : D := (valD kvs (.inr x)).getD .non
def TxK (kvs : List (Key × D)) : Prop := ∀ p ∈ kvs, ∃ x, p.1 = Sum.inr x
theorem txtKeys_of : ∀ {kvs : List (Key × D)}, TxK kvs → txtKeys kvs = some (kS kvs)
  | [], _ => rfl
  | (k, d) :: r, h => by
    obtain ⟨x, e⟩ := h (k, d) List.mem_cons_self
    have e : k = Sum.inr x := e
    subst e
    show (txtKeys r).map _ = _
    rw [txtKeys_of fun p hp => h p (List.mem_cons_of_mem _ hp)]
    rfl
theorem valD_mem {kvs : List (Key × D)} {k : Key} {d : D} (h : valD kvs k = some d) : (k, d) ∈ kvs := by
  unfold valD at h
  obtain ⟨p, h1, h2⟩ := map_some h
  have h3 := List.find?_some h1
  have h4 := List.mem_of_find?_eq_some h1
  obtain ⟨a, b⟩ := p
  have e1 : a = k := by simpa using h3
  have e2 : b = d := h2
  rw [← e1, ← e2]; exact h4
theorem valD_has : ∀ {kvs : List (Key × D)} {k : Key}, k ∈ kvs.map (·.1) → ∃ d, valD kvs k = some d
  | [], k, h => by simp at h
  | (j, d) :: r, k, h => by
    unfold valD
    by_cases e : j = k
    · exact ⟨d, by rw [List.find?_cons_of_pos (by simp [e])]; rfl⟩
    · rw [List.find?_cons_of_neg (by simp [e])]
      exact valD_has (by
        rcases List.mem_cons.mp h with h | h
        · exact absurd h.symm e
        · exact h)
theorem kS_mem {kvs : List (Key × D)} (h : TxK kvs) {x : Str} : x ∈ kS kvs ↔ (Sum.inr x : Key) ∈ kvs.map (·.1) := by
  unfold kS
  constructor
  · intro hx
    obtain ⟨p, hp, e⟩ := List.mem_map.mp hx
    obtain ⟨y, ey⟩ := h p hp
    rw [ey] at e
    exact List.mem_map.mpr ⟨p, hp, by rw [ey, ← e]; rfl⟩
  · intro hx
    obtain ⟨p, hp, e⟩ := List.mem_map.mp hx
    exact List.mem_map.mpr ⟨p, hp, by rw [e]; rfl⟩
theorem gv_val {kvs : List (Key × D)} (h : TxK kvs) {x : Str} (hx : x ∈ kS kvs) : valD kvs (.inr x) = some (gv kvs x) ∧ (Sum.inr x, gv kvs x) ∈ kvs := by
  obtain ⟨d, hd⟩ := valD_has ((kS_mem h).mp hx)
  have e : gv kvs x = d := by unfold gv; rw [hd]; rfl
  rw [e]
  exact ⟨hd, valD_mem hd⟩
theorem inner_row (k : Nat) (xs : List D) : (den (k + 2)).inner_things [.row xs] () = .ok (.row xs) () := by
  show fnD 2 (b_inner_things (den (k + 1))) [.row xs] () = _
  have h1 : eqD (.str "row") (.str "row") = some (.bl true) := by kernel_rfl
  have h2 : listD [.row xs] = some (.row xs) := rfl
  simp only [b_inner_things, kind_row, h1, h2, fnD, startD, endK, sRet, sRetN, sSeq, seqK, sIf, sAsg, sDrop, sNil, liftX, tgN, sFor, sOwn1, sOwn2, optK, putK2, sAsgO, sRetO, isRT, dAnd, dOr, dIf, bnd_e, dOp, dUn, dAll, dCons, dNil, ret_ap, dVar, getS, lift_e, lift_n, dC, dTst, isBl, dCall, up, tAndD, tOrD, tNotD, dItems, itemsD, dRange, dMt, dLc, rowD, tupD, truD, notD, tyIs, List.map_cons, List.map_nil, List.length_cons, List.length_nil, List.cons_append, List.nil_append, List.replicate_succ, List.replicate_zero, List.getElem?_cons_zero, List.getElem?_cons_succ, List.set_cons_zero, List.set_cons_succ, Option.join_some, Option.join_none, Option.map_some, Option.map_none, Option.bind_some, Option.bind_none, Nat.reduceAdd, Nat.reduceSub, Nat.zero_add, if_true, if_false, ite_true, ite_false, reduceIte, Bool.false_eq_true, Bool.true_eq_false, eq_self_iff_true]
theorem inner_tab (k : Nat) {kvs : List (Key × D)} (h : TxK kvs) : (den (k + 2)).inner_things [.tab kvs] () = .ok (.row ((sortS (kS kvs)).map (gv kvs))) () := by
  show fnD 2 (b_inner_things (den (k + 1))) [.tab kvs] () = _
  have h1 : eqD (.str "table") (.str "row") = some (.bl false) := by kernel_rfl
  have h2 : eqD (.str "table") (.str "table") = some (.bl true) := by kernel_rfl
  have h3 : sortKD (.tab kvs) = some (.row ((sortS (kS kvs)).map D.str)) := by
    show (txtKeys kvs).map _ = _
    rw [txtKeys_of h]; rfl
  have h4 : lcA (tgN 1) dYes (dOp ixD (dVar 0) (dVar 1)) [some (.tab kvs), none] [] ((sortS (kS kvs)).map D.str) () = .ok (.row ((sortS (kS kvs)).map (gv kvs))) () := by
    rw [lcA_map (fun d => match d with | .str x => gv kvs x | _ => .non) _ [] fun y hy => ?_, List.nil_append, List.map_map]
    · rfl
    · obtain ⟨x, hx, rfl⟩ := List.mem_map.mp hy
      have hv := (gv_val h ((sortS_perm _).mem_iff.mp hx)).1
      have e : ixD (.tab kvs) (.str x) = some (gv kvs x) := hv
      simp only [fnD, startD, endK, sRet, sRetN, sSeq, seqK, sIf, sAsg, sDrop, sNil, liftX, tgN, sFor, sOwn1, sOwn2, optK, putK2, sAsgO, sRetO, isRT, dAnd, dOr, dIf, bnd_e, dOp, dUn, dAll, dCons, dNil, ret_ap, dVar, getS, lift_e, lift_n, dC, dTst, isBl, dCall, up, tAndD, tOrD, tNotD, dItems, itemsD, dRange, dMt, dLc, rowD, tupD, truD, notD, tyIs, List.map_cons, List.map_nil, List.length_cons, List.length_nil, List.cons_append, List.nil_append, List.replicate_succ, List.replicate_zero, List.getElem?_cons_zero, List.getElem?_cons_succ, List.set_cons_zero, List.set_cons_succ, Option.join_some, Option.join_none, Option.map_some, Option.map_none, Option.bind_some, Option.bind_none, Nat.reduceAdd, Nat.reduceSub, Nat.zero_add, if_true, if_false, ite_true, ite_false, reduceIte, Bool.false_eq_true, Bool.true_eq_false, eq_self_iff_true, e]
  simp only [b_inner_things, kind_tab, h1, h2, h3, h4, fnD, startD, endK, sRet, sRetN, sSeq, seqK, sIf, sAsg, sDrop, sNil, liftX, tgN, sFor, sOwn1, sOwn2, optK, putK2, sAsgO, sRetO, isRT, dAnd, dOr, dIf, bnd_e, dOp, dUn, dAll, dCons, dNil, ret_ap, dVar, getS, lift_e, lift_n, dC, dTst, isBl, dCall, up, tAndD, tOrD, tNotD, dItems, itemsD, dRange, dMt, dLc, rowD, tupD, truD, notD, tyIs, List.map_cons, List.map_nil, List.length_cons, List.length_nil, List.cons_append, List.nil_append, List.replicate_succ, List.replicate_zero, List.getElem?_cons_zero, List.getElem?_cons_succ, List.set_cons_zero, List.set_cons_succ, Option.join_some, Option.join_none, Option.map_some, Option.map_none, Option.bind_some, Option.bind_none, Nat.reduceAdd, Nat.reduceSub, Nat.zero_add, if_true, if_false, ite_true, ite_false, reduceIte, Bool.false_eq_true, Bool.true_eq_false, eq_self_iff_true]
theorem all_true {α : Type} (l : List α) : allD [.row (l.map fun _ => D.bl true)] = some (.bl true) := by
  have e : (l.map fun _ => D.bl true) = (l.map fun _ => true).map D.bl := by rw [List.map_map]; rfl
  rw [e, all_bls, List.all_map]
  congr 2
  rw [List.all_eq_true]
  intro x _
  rfl
theorem th_txk {n : Nat} {kvs : List (Key × D)} (h : ThD (n + 1) (.tab kvs)) : TxK kvs := fun p hp => let ⟨x, e, _⟩ := (h.2.2 p hp).1; ⟨x, e⟩
theorem is_thing_eq : ∀ (n : Nat) (d : D) (deep k : Nat), ThD n d → n + deep ≤ 12 → (den (k + n + 4)).is_thing [d, .int deep] () = .ok (.bl true) () := by
  have leafs : ∀ (d : D) (deep k : Nat), okL d → (den (k + 4)).is_thing [d, .int deep] () = .ok (.bl true) () := fun d deep k h => by
    show fnD 5 (b_is_thing (den (k + 3))) [d, .int deep] () = _
    cases d with
    | non =>
      have h1 : eqD (.str "none") (.str "number") = some (.bl false) := by kernel_rfl
      have h2 : eqD (.str "none") (.str "word") = some (.bl false) := by kernel_rfl
      have h3 : inD true (.str "none") (.tup [.str "row", .str "table"]) = some (.bl true) := by kernel_rfl
      simp only [b_is_thing, kind_non, h1, h2, h3, fnD, startD, endK, sRet, sRetN, sSeq, seqK, sIf, sAsg, sDrop, sNil, liftX, tgN, sFor, sOwn1, sOwn2, optK, putK2, sAsgO, sRetO, isRT, dAnd, dOr, dIf, bnd_e, dOp, dUn, dAll, dCons, dNil, ret_ap, dVar, getS, lift_e, lift_n, dC, dTst, isBl, dCall, up, tAndD, tOrD, tNotD, dItems, itemsD, dRange, dMt, dLc, rowD, tupD, truD, notD, tyIs, List.map_cons, List.map_nil, List.length_cons, List.length_nil, List.cons_append, List.nil_append, List.replicate_succ, List.replicate_zero, List.getElem?_cons_zero, List.getElem?_cons_succ, List.set_cons_zero, List.set_cons_succ, Option.join_some, Option.join_none, Option.map_some, Option.map_none, Option.bind_some, Option.bind_none, Nat.reduceAdd, Nat.reduceSub, Nat.zero_add, if_true, if_false, ite_true, ite_false, reduceIte, Bool.false_eq_true, Bool.true_eq_false, eq_self_iff_true, show (2 : Nat) ≤ sizeLine from by decide]
    | bl b =>
      have h1 : eqD (.str "truth") (.str "number") = some (.bl false) := by kernel_rfl
      have h2 : eqD (.str "truth") (.str "word") = some (.bl false) := by kernel_rfl
      have h3 : inD true (.str "truth") (.tup [.str "row", .str "table"]) = some (.bl true) := by kernel_rfl
      simp only [b_is_thing, kind_bl, h1, h2, h3, fnD, startD, endK, sRet, sRetN, sSeq, seqK, sIf, sAsg, sDrop, sNil, liftX, tgN, sFor, sOwn1, sOwn2, optK, putK2, sAsgO, sRetO, isRT, dAnd, dOr, dIf, bnd_e, dOp, dUn, dAll, dCons, dNil, ret_ap, dVar, getS, lift_e, lift_n, dC, dTst, isBl, dCall, up, tAndD, tOrD, tNotD, dItems, itemsD, dRange, dMt, dLc, rowD, tupD, truD, notD, tyIs, List.map_cons, List.map_nil, List.length_cons, List.length_nil, List.cons_append, List.nil_append, List.replicate_succ, List.replicate_zero, List.getElem?_cons_zero, List.getElem?_cons_succ, List.set_cons_zero, List.set_cons_succ, Option.join_some, Option.join_none, Option.map_some, Option.map_none, Option.bind_some, Option.bind_none, Nat.reduceAdd, Nat.reduceSub, Nat.zero_add, if_true, if_false, ite_true, ite_false, reduceIte, Bool.false_eq_true, Bool.true_eq_false, eq_self_iff_true, show (2 : Nat) ≤ sizeLine from by decide]
    | int i =>
      have h1 : eqD (.str "number") (.str "number") = some (.bl true) := by kernel_rfl
      have h2 : absD [.int i] = some (.int (if i < 0 then -i else i)) := rfl
      have h3 : leD (.int (if i < 0 then -i else i)) (.int 999999999999999) = some (.bl true) := by
        show some (D.bl (decide _)) = _
        rw [decide_eq_true (show (if i < 0 then -i else i) ≤ 999999999999999 from h)]
      simp only [b_is_thing, kind_int, h1, h2, h3, fnD, startD, endK, sRet, sRetN, sSeq, seqK, sIf, sAsg, sDrop, sNil, liftX, tgN, sFor, sOwn1, sOwn2, optK, putK2, sAsgO, sRetO, isRT, dAnd, dOr, dIf, bnd_e, dOp, dUn, dAll, dCons, dNil, ret_ap, dVar, getS, lift_e, lift_n, dC, dTst, isBl, dCall, up, tAndD, tOrD, tNotD, dItems, itemsD, dRange, dMt, dLc, rowD, tupD, truD, notD, tyIs, List.map_cons, List.map_nil, List.length_cons, List.length_nil, List.cons_append, List.nil_append, List.replicate_succ, List.replicate_zero, List.getElem?_cons_zero, List.getElem?_cons_succ, List.set_cons_zero, List.set_cons_succ, Option.join_some, Option.join_none, Option.map_some, Option.map_none, Option.bind_some, Option.bind_none, Nat.reduceAdd, Nat.reduceSub, Nat.zero_add, if_true, if_false, ite_true, ite_false, reduceIte, Bool.false_eq_true, Bool.true_eq_false, eq_self_iff_true]
    | str x =>
      have h1 : eqD (.str "word") (.str "number") = some (.bl false) := by kernel_rfl
      have h2 : eqD (.str "word") (.str "word") = some (.bl true) := by kernel_rfl
      have h3 := is_word_eq (k + 1) x
      rw [show isW x = true from h] at h3
      simp only [b_is_thing, kind_str, h1, h2, h3, fnD, startD, endK, sRet, sRetN, sSeq, seqK, sIf, sAsg, sDrop, sNil, liftX, tgN, sFor, sOwn1, sOwn2, optK, putK2, sAsgO, sRetO, isRT, dAnd, dOr, dIf, bnd_e, dOp, dUn, dAll, dCons, dNil, ret_ap, dVar, getS, lift_e, lift_n, dC, dTst, isBl, dCall, up, tAndD, tOrD, tNotD, dItems, itemsD, dRange, dMt, dLc, rowD, tupD, truD, notD, tyIs, List.map_cons, List.map_nil, List.length_cons, List.length_nil, List.cons_append, List.nil_append, List.replicate_succ, List.replicate_zero, List.getElem?_cons_zero, List.getElem?_cons_succ, List.set_cons_zero, List.set_cons_succ, Option.join_some, Option.join_none, Option.map_some, Option.map_none, Option.bind_some, Option.bind_none, Nat.reduceAdd, Nat.reduceSub, Nat.zero_add, if_true, if_false, ite_true, ite_false, reduceIte, Bool.false_eq_true, Bool.true_eq_false, eq_self_iff_true]
    | _ => exact h.elim
  intro n
  induction n with
  | zero => exact fun d deep k h _ => leafs d deep k h
  | succ n ih =>
    intro d deep k h hd
    have hdeep : eqD (.int deep) (.int 12) = some (.bl false) := by
      rw [eqD_int]
      rw [decide_eq_false (by omega)]
    have hadd : addD (.int deep) (.int 1) = some (.int ((deep + 1 : Nat) : Int)) := rfl
    have h4 : eqD (.str "row") (.str "table") = some (.bl false) := by kernel_rfl
    have h5 : eqD (.str "table") (.str "table") = some (.bl true) := by kernel_rfl
    cases d with
    | row xs =>
      show fnD 5 (b_is_thing (den (k + n + 4))) [.row xs, .int deep] () = _
      have h1 : eqD (.str "row") (.str "number") = some (.bl false) := by kernel_rfl
      have h2 : eqD (.str "row") (.str "word") = some (.bl false) := by kernel_rfl
      have h3 : inD true (.str "row") (.tup [.str "row", .str "table"]) = some (.bl false) := by kernel_rfl
      have h6 : lcA (tgN 3) dYes (dCall 2 (fun ds => up ((den (k + n + 4)).is_thing ds)) (dCons (dVar 3) (dCons (dOp addD (dVar 1) (dC (.int 1))) dNil))) [some (.row xs), some (.int deep), some (.str "row"), none, none] [] xs () = .ok (.row (xs.map fun _ => .bl true)) () := by
        rw [lcA_map (fun _ => .bl true) xs [] fun y hy => ?_, List.nil_append]
        have h7 := ih y (deep + 1) k (h.2 y hy) (by omega)
        simp only [fnD, startD, endK, sRet, sRetN, sSeq, seqK, sIf, sAsg, sDrop, sNil, liftX, tgN, sFor, sOwn1, sOwn2, optK, putK2, sAsgO, sRetO, isRT, dAnd, dOr, dIf, bnd_e, dOp, dUn, dAll, dCons, dNil, ret_ap, dVar, getS, lift_e, lift_n, dC, dTst, isBl, dCall, up, tAndD, tOrD, tNotD, dItems, itemsD, dRange, dMt, dLc, rowD, tupD, truD, notD, tyIs, List.map_cons, List.map_nil, List.length_cons, List.length_nil, List.cons_append, List.nil_append, List.replicate_succ, List.replicate_zero, List.getElem?_cons_zero, List.getElem?_cons_succ, List.set_cons_zero, List.set_cons_succ, Option.join_some, Option.join_none, Option.map_some, Option.map_none, Option.bind_some, Option.bind_none, Nat.reduceAdd, Nat.reduceSub, Nat.zero_add, if_true, if_false, ite_true, ite_false, reduceIte, Bool.false_eq_true, Bool.true_eq_false, eq_self_iff_true, hadd, h7]
      simp only [b_is_thing, kind_row, inner_row, h1, h2, h3, h4, h6, hdeep, all_true, fnD, startD, endK, sRet, sRetN, sSeq, seqK, sIf, sAsg, sDrop, sNil, liftX, tgN, sFor, sOwn1, sOwn2, optK, putK2, sAsgO, sRetO, isRT, dAnd, dOr, dIf, bnd_e, dOp, dUn, dAll, dCons, dNil, ret_ap, dVar, getS, lift_e, lift_n, dC, dTst, isBl, dCall, up, tAndD, tOrD, tNotD, dItems, itemsD, dRange, dMt, dLc, rowD, tupD, truD, notD, tyIs, List.map_cons, List.map_nil, List.length_cons, List.length_nil, List.cons_append, List.nil_append, List.replicate_succ, List.replicate_zero, List.getElem?_cons_zero, List.getElem?_cons_succ, List.set_cons_zero, List.set_cons_succ, Option.join_some, Option.join_none, Option.map_some, Option.map_none, Option.bind_some, Option.bind_none, Nat.reduceAdd, Nat.reduceSub, Nat.zero_add, if_true, if_false, ite_true, ite_false, reduceIte, Bool.false_eq_true, Bool.true_eq_false, eq_self_iff_true, show (2 : Nat) ≤ sizeLine from by decide]
    | tab kvs =>
      show fnD 5 (b_is_thing (den (k + n + 4))) [.tab kvs, .int deep] () = _
      have tx := th_txk h
      have h1 : eqD (.str "table") (.str "number") = some (.bl false) := by kernel_rfl
      have h2 : eqD (.str "table") (.str "word") = some (.bl false) := by kernel_rfl
      have h3 : inD true (.str "table") (.tup [.str "row", .str "table"]) = some (.bl false) := by kernel_rfl
      have h6 : lcA (tgN 3) dYes (dCall 2 (fun ds => up ((den (k + n + 4)).is_thing ds)) (dCons (dVar 3) (dCons (dOp addD (dVar 1) (dC (.int 1))) dNil))) [some (.tab kvs), some (.int deep), some (.str "table"), none, none] [] ((sortS (kS kvs)).map (gv kvs)) () = .ok (.row (((sortS (kS kvs)).map (gv kvs)).map fun _ => .bl true)) () := by
        rw [lcA_map (fun _ => .bl true) _ [] fun y hy => ?_, List.nil_append]
        obtain ⟨x, hx, rfl⟩ := List.mem_map.mp hy
        have hv := (gv_val tx ((sortS_perm _).mem_iff.mp hx)).2
        have h7 := ih (gv kvs x) (deep + 1) k (h.2.2 _ hv).2 (by omega)
        simp only [fnD, startD, endK, sRet, sRetN, sSeq, seqK, sIf, sAsg, sDrop, sNil, liftX, tgN, sFor, sOwn1, sOwn2, optK, putK2, sAsgO, sRetO, isRT, dAnd, dOr, dIf, bnd_e, dOp, dUn, dAll, dCons, dNil, ret_ap, dVar, getS, lift_e, lift_n, dC, dTst, isBl, dCall, up, tAndD, tOrD, tNotD, dItems, itemsD, dRange, dMt, dLc, rowD, tupD, truD, notD, tyIs, List.map_cons, List.map_nil, List.length_cons, List.length_nil, List.cons_append, List.nil_append, List.replicate_succ, List.replicate_zero, List.getElem?_cons_zero, List.getElem?_cons_succ, List.set_cons_zero, List.set_cons_succ, Option.join_some, Option.join_none, Option.map_some, Option.map_none, Option.bind_some, Option.bind_none, Nat.reduceAdd, Nat.reduceSub, Nat.zero_add, if_true, if_false, ite_true, ite_false, reduceIte, Bool.false_eq_true, Bool.true_eq_false, eq_self_iff_true, hadd, h7]
      have h8 : lcA (tgN 4) dYes (dCall 1 (fun ds => up ((den (k + n + 4)).is_word ds)) (dCons (dVar 4) dNil)) [some (.tab kvs), some (.int deep), some (.str "table"), none, none] [] (kvs.map fun kv => kD kv.1) () = .ok (.row ((kvs.map fun kv => kD kv.1).map fun _ => .bl true)) () := by
        rw [lcA_map (fun _ => .bl true) _ [] fun y hy => ?_, List.nil_append]
        obtain ⟨p, hp, rfl⟩ := List.mem_map.mp hy
        obtain ⟨⟨x, e1, e2⟩, _⟩ := h.2.2 p hp
        have h9 := is_word_eq (k + n + 2) x
        rw [e2] at h9
        have e3 : kD p.1 = .str x := by rw [e1]; rfl
        simp only [fnD, startD, endK, sRet, sRetN, sSeq, seqK, sIf, sAsg, sDrop, sNil, liftX, tgN, sFor, sOwn1, sOwn2, optK, putK2, sAsgO, sRetO, isRT, dAnd, dOr, dIf, bnd_e, dOp, dUn, dAll, dCons, dNil, ret_ap, dVar, getS, lift_e, lift_n, dC, dTst, isBl, dCall, up, tAndD, tOrD, tNotD, dItems, itemsD, dRange, dMt, dLc, rowD, tupD, truD, notD, tyIs, List.map_cons, List.map_nil, List.length_cons, List.length_nil, List.cons_append, List.nil_append, List.replicate_succ, List.replicate_zero, List.getElem?_cons_zero, List.getElem?_cons_succ, List.set_cons_zero, List.set_cons_succ, Option.join_some, Option.join_none, Option.map_some, Option.map_none, Option.bind_some, Option.bind_none, Nat.reduceAdd, Nat.reduceSub, Nat.zero_add, if_true, if_false, ite_true, ite_false, reduceIte, Bool.false_eq_true, Bool.true_eq_false, eq_self_iff_true, e3, h9]
      have h10 : keysD (.tab kvs) = some (kvs.map fun kv => kD kv.1) := rfl
      simp only [b_is_thing, kind_tab, inner_tab _ tx, h1, h2, h3, h5, h6, h8, h10, hdeep, all_true, fnD, startD, endK, sRet, sRetN, sSeq, seqK, sIf, sAsg, sDrop, sNil, liftX, tgN, sFor, sOwn1, sOwn2, optK, putK2, sAsgO, sRetO, isRT, dAnd, dOr, dIf, bnd_e, dOp, dUn, dAll, dCons, dNil, ret_ap, dVar, getS, lift_e, lift_n, dC, dTst, isBl, dCall, up, tAndD, tOrD, tNotD, dItems, itemsD, dRange, dMt, dLc, rowD, tupD, truD, notD, tyIs, List.map_cons, List.map_nil, List.length_cons, List.length_nil, List.cons_append, List.nil_append, List.replicate_succ, List.replicate_zero, List.getElem?_cons_zero, List.getElem?_cons_succ, List.set_cons_zero, List.set_cons_succ, Option.join_some, Option.join_none, Option.map_some, Option.map_none, Option.bind_some, Option.bind_none, Nat.reduceAdd, Nat.reduceSub, Nat.zero_add, if_true, if_false, ite_true, ite_false, reduceIte, Bool.false_eq_true, Bool.true_eq_false, eq_self_iff_true, show (2 : Nat) ≤ sizeLine from by decide, Bool.not_true, Bool.not_false]
    | _ =>
      have hl : okL _ := h
      have := leafs _ deep (k + (n + 1)) hl
      exact this
end Nw
set_option Elab.async false
set_option linter.all false
set_option maxRecDepth 100000
set_option maxHeartbeats 4000000
namespace Nw
open PySem PySem.Spec L2
theorem beq_dec {α : Type} [BEq α] [LawfulBEq α] [DecidableEq α] (a b : α) : (a == b) = decide (a = b) := by
  by_cases h : a = b
  · rw [h, decide_eq_true rfl]; simp
  · rw [decide_eq_false h]; simp [h]
theorem eqD_str (a b : Str) : eqD (.str a) (.str b) = some (.bl (decide (a = b))) := by
  have h : eqN 60 (.str a) (.str b) = some (a == b) := rfl
  unfold eqD; rw [h, beq_dec]; rfl
theorem neD_str (a b : Str) : neD (.str a) (.str b) = some (.bl (!decide (a = b))) := by
  have h : eqN 60 (.str a) (.str b) = some (a == b) := rfl
  unfold neD; rw [h, beq_dec]; rfl
theorem eqD_bl (a b : Bool) : eqD (.bl a) (.bl b) = some (.bl (decide (a = b))) := by
  have h : eqN 60 (.bl a) (.bl b) = some (a == b) := rfl
  unfold eqD; rw [h, beq_dec]; rfl
theorem neD_bl (a b : Bool) : neD (.bl a) (.bl b) = some (.bl (!decide (a = b))) := by
  have h : eqN 60 (.bl a) (.bl b) = some (a == b) := rfl
  unfold neD; rw [h, beq_dec]; rfl
theorem eqD_non : eqD .non .non = some (.bl true) := by kernel_rfl
theorem eqLN_strs (n : Nat) : ∀ as bs : List Str, as.length = bs.length → eqLN (eqN (n + 1)) (as.map D.str) (bs.map D.str) = some (decide (as = bs))
  | [], [], _ => by simp [eqLN]
  | a :: as, b :: bs, h => by
    have e : eqN (n + 1) (.str a) (.str b) = some (a == b) := rfl
    have ih := eqLN_strs n as bs (by simpa using h)
    rw [List.map_cons, List.map_cons]
    unfold eqLN
    rw [e, ih, beq_dec]
    by_cases h1 : a = b <;> by_cases h2 : as = bs <;> simp [h1, h2]
  | [], b :: bs, h => by simp at h
  | a :: as, [], h => by simp at h
theorem neD_rows (as bs : List Str) : neD (.row (as.map D.str)) (.row (bs.map D.str)) = some (.bl (!decide (as = bs))) := by
  have h : eqN 60 (.row (as.map D.str)) (.row (bs.map D.str)) = some (decide (as = bs)) := by
    show (if (as.map D.str).length = (bs.map D.str).length then eqLN (eqN 59) (as.map D.str) (bs.map D.str) else some false) = _
    rw [List.length_map, List.length_map]
    by_cases hl : as.length = bs.length
    · rw [if_pos hl, eqLN_strs 58 as bs hl]
    · rw [if_neg hl, decide_eq_false (fun z => hl (by rw [z]))]
  unfold neD; rw [h]; rfl
theorem atI_nat (xs : List D) (i : Nat) (h : i < xs.length) : atI xs (i : Int) = some (xs.getD i .non) := by
  have e : ixN xs.length (i : Int) = some i := by
    unfold ixN
    simp [h]
  unfold atI
  rw [e, List.getD_eq_getElem?_getD]
  show xs[i]? = _
  rw [List.getElem?_eq_getElem h]; rfl
theorem gv_of {kvs : List (Key × D)} (h : TxK kvs) (nd : (kvs.map (·.1)).Nodup) {p : Key × D} (hp : p ∈ kvs) : gv kvs (keyS p.1) = p.2 := by
  have hx : keyS p.1 ∈ kS kvs := List.mem_map.mpr ⟨p, hp, rfl⟩
  have h1 := (gv_val h hx).2
  obtain ⟨x, e⟩ := h p hp
  have e2 : (Sum.inr (keyS p.1) : Key) = p.1 := by rw [e]; rfl
  rw [e2] at h1
  have key : ∀ (l : List (Key × D)), (l.map (·.1)).Nodup → ∀ a b c, (a, b) ∈ l → (a, c) ∈ l → b = c := by
    intro l
    induction l with
    | nil => intro _ a b c h; cases h
    | cons q l ih =>
      intro hn a b c h1 h2
      obtain ⟨hn1, hn2⟩ := List.nodup_cons.mp (show (q.1 :: l.map (·.1)).Nodup from hn)
      rcases List.mem_cons.mp h1 with e1 | h1 <;> rcases List.mem_cons.mp h2 with e2 | h2
      · rw [← e1] at e2; cases e2; rfl
      · exact absurd (List.mem_map.mpr ⟨_, h2, by rw [← e1]⟩) hn1
      · exact absurd (List.mem_map.mpr ⟨_, h1, by rw [← e2]⟩) hn1
      · exact ih hn2 a b c h1 h2
  exact key kvs nd p.1 _ _ h1 hp
theorem forL_cons {S : Type} (tg : D → Sl → Option Sl) (body : Sl → Mo S) (x : D) (xs : List D) (r : Sl) : forL tg body (x :: xs) r = optK (tg x r) fun r' s => loopK (forL tg body xs) (body r' s) := rfl
theorem putD_new {kvs : List (Key × D)} {k : Key} {d : D} (h : k ∉ kvs.map (·.1)) : putD kvs k d = kvs ++ [(k, d)] := by
  unfold putD
  have e : (kvs.any fun kv => decide (kv.1 = k)) = false := by
    rw [List.any_eq_false]
    intro p hp
    rw [decide_eq_true_eq]
    exact fun z => h (List.mem_map.mpr ⟨p, hp, z⟩)
  rw [e, if_neg Bool.false_ne_true]
theorem look_eq {n : Nat} {d : D} (k : Nat) (h : ThD n d) (hn : n ≤ 12) : (den (k + n + 5)).look_thing [d] () = .ok .non () := by
  show fnD 1 (b_look_thing (den (k + n + 4))) [d] () = _
  have h1 := is_thing_eq n d 0 k h (by omega)
  have h2 : (den (k + n + 4)).is_thing [d, .int 0] () = .ok (.bl true) () := h1
  simp only [b_look_thing, h2, fnD, startD, endK, sRet, sRetN, sSeq, seqK, sIf, sAsg, sDrop, sNil, liftX, tgN, sFor, sOwn1, sOwn2, optK, putK2, sAsgO, sRetO, isRT, dAnd, dOr, dIf, bnd_e, dOp, dUn, dAll, dCons, dNil, ret_ap, dVar, getS, lift_e, lift_n, dC, dTst, isBl, dCall, up, tAndD, tOrD, tNotD, dItems, itemsD, dRange, dMt, dLc, rowD, tupD, truD, notD, tyIs, List.map_cons, List.map_nil, List.length_cons, List.length_nil, List.cons_append, List.nil_append, List.replicate_succ, List.replicate_zero, List.getElem?_cons_zero, List.getElem?_cons_succ, List.set_cons_zero, List.set_cons_succ, Option.join_some, Option.join_none, Option.map_some, Option.map_none, Option.bind_some, Option.bind_none, Nat.reduceAdd, Nat.reduceSub, Nat.zero_add, if_true, if_false, ite_true, ite_false, reduceIte, Bool.false_eq_true, Bool.true_eq_false, eq_self_iff_true, Bool.not_true]
def refD : D := .tup [.str "refused", .str "thing"]
theorem refusal_eq (k : Nat) : (den (k + 1))._law_refusal [.exc .BadThing []] () = .ok refD () := by kernel_rfl
/-! ### draws -/
theorem ixN_mod {n : Nat} {i : Int} (h : 0 < n) : ixN n (i % (n : Int)) = some (i % (n : Int)).toNat := by
  have h1 := Int.emod_nonneg i (show (n : Int) ≠ 0 by omega)
  have h2 := Int.emod_lt_of_pos i (show (0 : Int) < n by omega)
  unfold ixN
  rw [if_pos h1, if_pos h2]
theorem cell_eq (ns : List Int) (k : Nat) (j : Int) : ∃ v : Int, (den (k + 1))._law_cell [scriptD ns, .int j] () = .ok (.int v) () := by
  cases ns with
  | nil => exact ⟨0, by kernel_rfl⟩
  | cons a ns =>
    have e1 : lenD [.kro ((a :: ns).map D.int)] = some (.int ((ns.length + 1 : Nat) : Int)) := by
      show some (D.int _) = _
      rw [List.length_map]; rfl
    have e2 : modD (.int j) (.int ((ns.length + 1 : Nat) : Int)) = some (.int (j % ((ns.length + 1 : Nat) : Int))) := by
      show (if 0 < ((ns.length + 1 : Nat) : Int) then _ else _) = _
      rw [if_pos (by omega)]
    have e3 : ∃ v : Int, ixD (.kro ((a :: ns).map D.int)) (.int (j % ((ns.length + 1 : Nat) : Int))) = some (.int v) := by
      have hl : ((a :: ns).map D.int).length = ns.length + 1 := by rw [List.length_map]; rfl
      have hi := ixN_mod (n := ns.length + 1) (i := j) (by omega)
      have h1 := Int.emod_nonneg j (show ((ns.length + 1 : Nat) : Int) ≠ 0 by omega)
      have h2 := Int.emod_lt_of_pos j (show (0 : Int) < ((ns.length + 1 : Nat) : Int) by omega)
      have hb : (j % ((ns.length + 1 : Nat) : Int)).toNat < (a :: ns).length := by rw [List.length_cons]; omega
      refine ⟨(a :: ns)[(j % ((ns.length + 1 : Nat) : Int)).toNat], ?_⟩
      show (ixN _ _).bind _ = _
      rw [hl, hi]
      show ((a :: ns).map D.int)[_]? = _
      rw [List.getElem?_map, List.getElem?_eq_getElem hb]; rfl
    obtain ⟨v, e3⟩ := e3
    refine ⟨v, ?_⟩
    have e4 : truD (.kro ((a :: ns).map D.int)) = some true := rfl
    show fnD 2 (b__law_cell (den k)) [.kro ((a :: ns).map D.int), .int j] () = _
    generalize D.kro ((a :: ns).map D.int) = q at e1 e3 e4 ⊢
    simp only [b__law_cell, e1, e2, e3, e4, fnD, startD, endK, sRet, sRetN, sSeq, seqK, sIf, sAsg, sDrop, sNil, liftX, tgN, sFor, sOwn1, sOwn2, optK, putK2, sAsgO, sRetO, isRT, dAnd, dOr, dIf, bnd_e, dOp, dUn, dAll, dCons, dNil, ret_ap, dVar, getS, lift_e, lift_n, dC, dTst, isBl, dCall, up, tAndD, tOrD, tNotD, dItems, itemsD, dRange, dMt, dLc, rowD, tupD, notD, tyIs, List.map_cons, List.map_nil, List.length_cons, List.length_nil, List.cons_append, List.nil_append, List.replicate_succ, List.replicate_zero, List.getElem?_cons_zero, List.getElem?_cons_succ, List.set_cons_zero, List.set_cons_succ, Option.join_some, Option.join_none, Option.map_some, Option.map_none, Option.bind_some, Option.bind_none, Nat.reduceAdd, Nat.reduceSub, Nat.zero_add, if_true, if_false, ite_true, ite_false, reduceIte, Bool.false_eq_true, Bool.true_eq_false, eq_self_iff_true]
theorem mul_l {i j : Int} (h : -(2 ^ 64) < i ∧ i < 2 ^ 64) : mulD (.int i) (.int j) = some (.int (i * j)) := by
  show (if _ then _ else _) = _
  rw [if_pos (.inl h)]
theorem mul_r {i j : Int} (h : -(2 ^ 64) < j ∧ j < 2 ^ 64) : mulD (.int i) (.int j) = some (.int (i * j)) := by
  show (if _ then _ else _) = _
  rw [if_pos (.inr h)]
theorem fdiv_pos {i j : Int} (h : 0 < j ∧ j < 1073741824) : fdivD (.int i) (.int j) = some (.int (i / j)) := by
  show (if _ then _ else _) = _
  rw [if_pos h]
theorem pow5 {i : Int} (h : i.natAbs < 2 ^ 64) : powD (.int i) (.int 5) = some (.int (i ^ 5)) := by
  show (if _ then _ else _) = _
  rw [if_pos ⟨by decide, by decide, h⟩]
  rfl
theorem mod_pos {i j : Int} (h : 0 < j) : modD (.int i) (.int j) = some (.int (i % j)) := by
  show (if _ then _ else _) = _
  rw [if_pos h]
theorem mix_eq (ns : List Int) (k : Nat) (j : Nat) : ∃ v : Int, 0 ≤ v ∧ v < 4294967231 ∧ (den (k + 2))._law_mix [scriptD ns, .int (j : Nat)] () = .ok (.int v) () := by
  obtain ⟨c, hc⟩ := cell_eq ns k (j : Nat)
  let n1 : Int := (c + 104729 * ((j : Int) + 1)) % 4294967291
  have hn1 : 0 ≤ n1 ∧ n1 < 4294967291 := ⟨Int.emod_nonneg _ (by decide), Int.emod_lt_of_pos _ (by decide)⟩
  let n2 : Int := n1 ^ 5 % 4294967279
  have hn2 : 0 ≤ n2 ∧ n2 < 4294967279 := ⟨Int.emod_nonneg _ (by decide), Int.emod_lt_of_pos _ (by decide)⟩
  refine ⟨(n2 / 64 * 69621 + n2) % 4294967231, Int.emod_nonneg _ (by decide), Int.emod_lt_of_pos _ (by decide), ?_⟩
  show fnD 3 (b__law_mix (den (k + 1))) [scriptD ns, .int (j : Nat)] () = _
  have h1 : addD (.int (j : Nat)) (.int 1) = some (.int ((j : Int) + 1)) := rfl
  have h2 : mulD (.int 104729) (.int ((j : Int) + 1)) = some (.int (104729 * ((j : Int) + 1))) := mul_l (by decide)
  have h3 : addD (.int c) (.int (104729 * ((j : Int) + 1))) = some (.int (c + 104729 * ((j : Int) + 1))) := rfl
  have h4 : modD (.int (c + 104729 * ((j : Int) + 1))) (.int 4294967291) = some (.int n1) := mod_pos (by decide)
  have h5 : powD (.int n1) (.int 5) = some (.int (n1 ^ 5)) := pow5 (by omega)
  have h6 : modD (.int (n1 ^ 5)) (.int 4294967279) = some (.int n2) := mod_pos (by decide)
  have h7 : fdivD (.int n2) (.int 64) = some (.int (n2 / 64)) := fdiv_pos (by decide)
  have h8 : mulD (.int (n2 / 64)) (.int 69621) = some (.int (n2 / 64 * 69621)) := mul_r (by decide)
  have h9 : addD (.int (n2 / 64 * 69621)) (.int n2) = some (.int (n2 / 64 * 69621 + n2)) := rfl
  have h10 : modD (.int (n2 / 64 * 69621 + n2)) (.int 4294967231) = some (.int ((n2 / 64 * 69621 + n2) % 4294967231)) := mod_pos (by decide)
  simp only [b__law_mix, hc, h1, h2, h3, h4, h5, h6, h7, h8, h9, h10, fnD, startD, endK, sRet, sRetN, sSeq, seqK, sIf, sAsg, sDrop, sNil, liftX, tgN, sFor, sOwn1, sOwn2, optK, putK2, sAsgO, sRetO, isRT, dAnd, dOr, dIf, bnd_e, dOp, dUn, dAll, dCons, dNil, ret_ap, dVar, getS, lift_e, lift_n, dC, dTst, isBl, dCall, up, tAndD, tOrD, tNotD, dItems, itemsD, dRange, dMt, dLc, rowD, tupD, truD, notD, tyIs, List.map_cons, List.map_nil, List.length_cons, List.length_nil, List.cons_append, List.nil_append, List.replicate_succ, List.replicate_zero, List.getElem?_cons_zero, List.getElem?_cons_succ, List.set_cons_zero, List.set_cons_succ, Option.join_some, Option.join_none, Option.map_some, Option.map_none, Option.bind_some, Option.bind_none, Nat.reduceAdd, Nat.reduceSub, Nat.zero_add, if_true, if_false, ite_true, ite_false, reduceIte, Bool.false_eq_true, Bool.true_eq_false, eq_self_iff_true]
theorem draw_eq (ns : List Int) (k s : Nat) (m : Int) (hm : 0 < m) (hs : s < sizeLine) : ∃ v : Int, 0 ≤ v ∧ v < m ∧ (den (k + 3))._law_draw [scriptD ns, .obj 0, .int m] s = .ok (.int v) (s + 1) := by
  obtain ⟨v, h0, h1, hv⟩ := mix_eq ns k (s + 1)
  refine ⟨v / 8 % m, Int.emod_nonneg _ (by omega), Int.emod_lt_of_pos _ hm, ?_⟩
  show fnD 3 (b__law_draw (den (k + 2))) [scriptD ns, .obj 0, .int m] s = _
  have h2 : fdivD (.int v) (.int 8) = some (.int (v / 8)) := fdiv_pos (by decide)
  have h3 : modD (.int (v / 8)) (.int m) = some (.int (v / 8 % m)) := mod_pos hm
  have h4 : isTown [some (scriptD ns), some (.obj 0), some (.int m)] 1 = true := rfl
  have h5 : sTown 1 [some (scriptD ns), some (.obj 0), some (.int m)] s = some (.next [some (scriptD ns), some (.obj 0), some (.int m)], s + 1) := by
    unfold sTown
    rw [if_pos ⟨h4, hs⟩]
  have h6 : dTown 1 [some (scriptD ns), some (.obj 0), some (.int m)] (s + 1) = .ok (.int ((s + 1 : Nat) : Int)) (s + 1) := by
    unfold dTown
    rw [if_pos h4]
  simp only [b__law_draw, h5, h6, hv, h2, h3, fnD, startD, endK, sRet, sRetN, sSeq, seqK, sIf, sAsg, sDrop, sNil, liftX, tgN, sFor, sOwn1, sOwn2, optK, putK2, sAsgO, sRetO, isRT, dAnd, dOr, dIf, bnd_e, dOp, dUn, dAll, dCons, dNil, ret_ap, dVar, getS, lift_e, lift_n, dC, dTst, isBl, dCall, up, tAndD, tOrD, tNotD, dItems, itemsD, dRange, dMt, dLc, rowD, tupD, truD, notD, tyIs, List.map_cons, List.map_nil, List.length_cons, List.length_nil, List.cons_append, List.nil_append, List.replicate_succ, List.replicate_zero, List.getElem?_cons_zero, List.getElem?_cons_succ, List.set_cons_zero, List.set_cons_succ, Option.join_some, Option.join_none, Option.map_some, Option.map_none, Option.bind_some, Option.bind_none, Nat.reduceAdd, Nat.reduceSub, Nat.zero_add, if_true, if_false, ite_true, ite_false, reduceIte, Bool.false_eq_true, Bool.true_eq_false, eq_self_iff_true]
theorem atI_in (xs : List D) (v : Int) (h0 : 0 ≤ v) (h1 : v < xs.length) : ∃ x ∈ xs, atI xs v = some x := by
  have e : v = ((v.toNat : Nat) : Int) := by omega
  have hl : v.toNat < xs.length := by omega
  refine ⟨xs.getD v.toNat .non, ?_, ?_⟩
  · rw [List.getD_eq_getElem?_getD, List.getElem?_eq_getElem hl]; exact List.getElem_mem hl
  · rw [e]; exact atI_nat xs _ hl
theorem pick_eq (ns : List Int) (k s : Nat) (xs : List D) (hx : xs ≠ []) (hs : s < sizeLine) : ∃ x ∈ xs, (den (k + 4))._law_pick [scriptD ns, .obj 0, .row xs] s = .ok x (s + 1) := by
  have hl : 0 < (xs.length : Int) := by
    cases xs with
    | nil => exact absurd rfl hx
    | cons a b => rw [List.length_cons]; omega
  obtain ⟨v, h0, h1, hv⟩ := draw_eq ns k s (xs.length : Int) hl hs
  obtain ⟨x, hm, hi⟩ := atI_in xs v h0 h1
  refine ⟨x, hm, ?_⟩
  show fnD 3 (b__law_pick (den (k + 3))) [scriptD ns, .obj 0, .row xs] s = _
  have h2 : lenD [.row xs] = some (.int (xs.length : Int)) := rfl
  have h3 : ixD (.row xs) (.int v) = some x := hi
  simp only [b__law_pick, h2, hv, h3, fnD, startD, endK, sRet, sRetN, sSeq, seqK, sIf, sAsg, sDrop, sNil, liftX, tgN, sFor, sOwn1, sOwn2, optK, putK2, sAsgO, sRetO, isRT, dAnd, dOr, dIf, bnd_e, dOp, dUn, dAll, dCons, dNil, ret_ap, dVar, getS, lift_e, lift_n, dC, dTst, isBl, dCall, up, tAndD, tOrD, tNotD, dItems, itemsD, dRange, dMt, dLc, rowD, tupD, truD, notD, tyIs, List.map_cons, List.map_nil, List.length_cons, List.length_nil, List.cons_append, List.nil_append, List.replicate_succ, List.replicate_zero, List.getElem?_cons_zero, List.getElem?_cons_succ, List.set_cons_zero, List.set_cons_succ, Option.join_some, Option.join_none, Option.map_some, Option.map_none, Option.bind_some, Option.bind_none, Nat.reduceAdd, Nat.reduceSub, Nat.zero_add, if_true, if_false, ite_true, ite_false, reduceIte, Bool.false_eq_true, Bool.true_eq_false, eq_self_iff_true]
theorem lt_e (i j : Int) : ltD (.int i) (.int j) = some (.bl (decide (i < j))) := rfl
theorem gt_e (i j : Int) : gtD (.int i) (.int j) = some (.bl (decide (j < i))) := rfl
theorem le_e (i j : Int) : leD (.int i) (.int j) = some (.bl (decide (i ≤ j))) := rfl
theorem okL_int {i : Int} (h : -999999999999999 ≤ i ∧ i ≤ 999999999999999) : okL (.int i) := by
  show (if i < 0 then -i else i) ≤ 999999999999999
  split <;> omega
theorem rng_int {v : Int} (h0 : 0 ≤ v) (h1 : v ≤ 100) : rngD [.int v] = some ((List.range v.toNat).map fun (j : Nat) => D.int (j : Int)) := by
  show (if 0 ≤ v ∧ v ≤ sizeLine then _ else _) = _
  rw [if_pos ⟨h0, by rw [sizeLine_eq]; omega⟩]
theorem lcA_ex {i : Nat} {f : Sl → M Nat D} {r : Sl} (P : D → Prop) (B L : Nat) : ∀ (xs acc : List D) (s : Nat), (∀ x ∈ xs, ∀ s, s + B ≤ L → ∃ d s', f (r.set i (some x)) s = .ok d s' ∧ P d ∧ s' ≤ s + B) → s + B * xs.length ≤ L →
    ∃ ys s', lcA (tgN i) dYes f r acc xs s = .ok (.row (acc ++ ys)) s' ∧ ys.length = xs.length ∧ (∀ y ∈ ys, P y) ∧ s' ≤ s + B * xs.length
  | [], acc, s, _, _ => ⟨[], s, (by rw [List.append_nil]; rfl), rfl, (fun y hy => absurd hy (by simp)), (by omega)⟩
  | x :: xs, acc, s, h, hl => by
    have hm : B * (xs.length + 1) = B * xs.length + B := by rw [Nat.mul_add, Nat.mul_one]
    rw [List.length_cons, hm] at hl
    obtain ⟨d, s1, h1, h2, h3⟩ := h x List.mem_cons_self s (by omega)
    obtain ⟨ys, s2, h4, h5, h6, h7⟩ := lcA_ex P B L xs (acc ++ [d]) s1 (fun y hy => h y (List.mem_cons_of_mem _ hy)) (by omega)
    refine ⟨d :: ys, s2, ?_, by rw [List.length_cons, List.length_cons, h5], fun y hy => ?_, by rw [List.length_cons, hm]; omega⟩
    · have e : lcA (tgN i) dYes f r acc (x :: xs) s = bnd (nox (f (r.set i (some x)))) (fun y => lcA (tgN i) dYes f r (acc ++ [y]) xs) s := rfl
      have e2 : nox (f (r.set i (some x))) s = .ok d s1 := by unfold nox; rw [h1]
      rw [e, bnd_ok e2, h4, List.append_assoc]; rfl
    · rcases List.mem_cons.mp hy with rfl | hy
      · exact h2
      · exact h6 y hy
/-- tables as they grow -/
def GoT (n : Nat) (kvs : List (Key × D)) : Prop := (kvs.map (·.1)).Nodup ∧ ∀ p ∈ kvs, (∃ x, p.1 = Sum.inr x ∧ isW x = true) ∧ ThD n p.2
theorem eqD_rows (as bs : List Str) : eqD (.row (as.map D.str)) (.row (bs.map D.str)) = some (.bl (decide (as = bs))) := by
  have h := neD_rows as bs
  unfold neD at h
  unfold eqD
  cases e : eqN 60 (.row (as.map D.str)) (.row (bs.map D.str)) with
  | none => rw [e] at h; cases h
  | some b =>
    rw [e] at h
    have h2 : some (D.bl (!b)) = some (D.bl (!decide (as = bs))) := h
    injection h2 with h3
    injection h3 with h4
    show some (D.bl b) = _
    rw [show b = decide (as = bs) from by cases b <;> cases hd : decide (as = bs) <;> rw [hd] at h4 <;> first | rfl | cases h4]
theorem eqAny_strs (x : Str) : ∀ ys : List Str, eqAny 60 (.str x) (ys.map D.str) = some (decide (x ∈ ys))
  | [] => by simp [eqAny]
  | y :: ys => by
    have e : eqN 60 (.str y) (.str x) = some (y == x) := rfl
    rw [List.map_cons]
    unfold eqAny
    rw [e, eqAny_strs x ys, beq_dec]
    show some (decide (y = x) || decide (x ∈ ys)) = _
    congr 1
    by_cases h1 : y = x
    · subst h1; simp
    · have h2 : ¬ x = y := fun z => h1 z.symm
      simp [h1, h2]
theorem any_bls (bs : List Bool) : anyD [.row (bs.map D.bl)] = some (.bl (bs.any id)) := by
  show (blsD (bs.map D.bl)).map _ = _
  rw [blsD_map]; rfl
theorem lcA_bl {S : Type} {i : Nat} {f : Sl → M S D} {r : Sl} {s : S} (g : D → Bool) (xs : List D) (h : ∀ x ∈ xs, f (r.set i (some x)) s = .ok (.bl (g x)) s) : lcA (tgN i) dYes f r [] xs s = .ok (.row ((xs.map g).map D.bl)) s := by
  rw [lcA_map (fun x => .bl (g x)) xs [] h, List.nil_append, List.map_map]; rfl
/-- a comprehension with a test -/
theorem lcA_if {S : Type} {i : Nat} {t : Sl → M S Bool} {f : Sl → M S D} {r : Sl} {s : S} (p : D → Bool) (g : D → D) : ∀ (xs acc : List D), (∀ x ∈ xs, t (r.set i (some x)) s = .ok (p x) s) → (∀ x ∈ xs, p x = true → f (r.set i (some x)) s = .ok (g x) s) → lcA (tgN i) t f r acc xs s = .ok (.row (acc ++ (xs.filter p).map g)) s
  | [], acc, _, _ => by rw [List.filter_nil, List.map_nil, List.append_nil]; rfl
  | x :: xs, acc, h1, h2 => by
    have e : lcA (tgN i) t f r acc (x :: xs) s = bnd (nox (t (r.set i (some x)))) (fun b => if b = true then bnd (nox (f (r.set i (some x)))) (fun y => lcA (tgN i) t f r (acc ++ [y]) xs) else lcA (tgN i) t f r acc xs) s := rfl
    have e1 : nox (t (r.set i (some x))) s = .ok (p x) s := by unfold nox; rw [h1 x List.mem_cons_self]
    rw [e, bnd_ok e1]
    cases hp : p x with
    | true =>
      have e2 : nox (f (r.set i (some x))) s = .ok (g x) s := by unfold nox; rw [h2 x List.mem_cons_self hp]
      rw [if_pos rfl, bnd_ok e2, lcA_if p g xs (acc ++ [g x]) (fun y hy => h1 y (List.mem_cons_of_mem _ hy)) (fun y hy => h2 y (List.mem_cons_of_mem _ hy)), List.filter_cons_of_pos hp, List.map_cons, List.append_assoc, List.singleton_append]
    | false =>
      rw [if_neg Bool.false_ne_true, lcA_if p g xs acc (fun y hy => h1 y (List.mem_cons_of_mem _ hy)) (fun y hy => h2 y (List.mem_cons_of_mem _ hy)), List.filter_cons_of_neg (by rw [hp]; exact Bool.false_ne_true)]
/-- a loop that checks, and leaves with a value at the first that fails -/
theorem forL_chk {S : Type} {tg : D → Sl → Option Sl} {body : Sl → Mo S} {s : S} {v : D} (I : List D → Sl → Prop) (P : D → Bool) (all : List D)
    (hs : ∀ pre x suf r, all = pre ++ x :: suf → I pre r → ∃ r', tg x r = some r' ∧ (P x = true → ∃ r'', body r' s = some (.next r'', s) ∧ I (pre ++ [x]) r'') ∧ (P x = false → body r' s = some (.rt v, s))) : ∀ (xs pre : List D) (r : Sl), all = pre ++ xs → I pre r →
    (xs.all P = true → ∃ r', forL tg body xs r s = some (.next r', s) ∧ I all r') ∧ (xs.all P = false → forL tg body xs r s = some (.rt v, s))
  | [], pre, r, ha, h => ⟨fun _ => ⟨r, rfl, by rw [ha, List.append_nil]; exact h⟩, fun z => nomatch z⟩
  | x :: xs, pre, r, ha, h => by
    obtain ⟨r', e1, h1, h2⟩ := hs pre x xs r ha h
    have e : forL tg body (x :: xs) r s = loopK (forL tg body xs) (body r' s) := by rw [forL_cons, e1]; rfl
    cases hp : P x with
    | true =>
      obtain ⟨r'', e2, h3⟩ := h1 hp
      have ih := forL_chk I P all hs xs (pre ++ [x]) r'' (by rw [ha, List.append_assoc]; rfl) h3
      rw [e, e2, List.all_cons, hp, Bool.true_and]
      exact ih
    | false =>
      rw [e, h2 hp, List.all_cons, hp, Bool.false_and]
      exact ⟨(fun z => nomatch z), fun _ => rfl⟩
/-- values that exist, by a function -/
theorem fn_of {α β : Type} [Inhabited β] (l : List α) (P : α → β → Prop) (h : ∀ x ∈ l, ∃ b, P x b) : ∃ f : α → β, ∀ x ∈ l, P x (f x) := by
  classical
  exact ⟨fun x => if hx : x ∈ l then Classical.choose (h x hx) else default, fun x hx => by
    simp only [dif_pos hx]; exact Classical.choose_spec (h x hx)⟩
end Nw
set_option Elab.async false
set_option linter.all false
set_option maxRecDepth 100000
set_option maxHeartbeats 4000000
namespace Nw
open PySem PySem.Spec L2
/-! ### shapes -/
theorem eq_any_any : eqD (.str "any") (.str "any") = some (.bl true) := by kernel_rfl
theorem eq_any_none : eqD (.str "any") (.str "none") = some (.bl false) := by kernel_rfl
theorem eq_any_truth : eqD (.str "any") (.str "truth") = some (.bl false) := by kernel_rfl
theorem eq_any_number : eqD (.str "any") (.str "number") = some (.bl false) := by kernel_rfl
theorem eq_any_word : eqD (.str "any") (.str "word") = some (.bl false) := by kernel_rfl
theorem eq_any_row : eqD (.str "any") (.str "row") = some (.bl false) := by kernel_rfl
theorem eq_any_table : eqD (.str "any") (.str "table") = some (.bl false) := by kernel_rfl
theorem eq_any_or : eqD (.str "any") (.str "or") = some (.bl false) := by kernel_rfl
theorem eq_none_any : eqD (.str "none") (.str "any") = some (.bl false) := by kernel_rfl
theorem eq_none_none : eqD (.str "none") (.str "none") = some (.bl true) := by kernel_rfl
theorem eq_none_truth : eqD (.str "none") (.str "truth") = some (.bl false) := by kernel_rfl
theorem eq_none_number : eqD (.str "none") (.str "number") = some (.bl false) := by kernel_rfl
theorem eq_none_word : eqD (.str "none") (.str "word") = some (.bl false) := by kernel_rfl
theorem eq_none_row : eqD (.str "none") (.str "row") = some (.bl false) := by kernel_rfl
theorem eq_none_table : eqD (.str "none") (.str "table") = some (.bl false) := by kernel_rfl
theorem eq_none_or : eqD (.str "none") (.str "or") = some (.bl false) := by kernel_rfl
theorem eq_truth_any : eqD (.str "truth") (.str "any") = some (.bl false) := by kernel_rfl
theorem eq_truth_none : eqD (.str "truth") (.str "none") = some (.bl false) := by kernel_rfl
theorem eq_truth_truth : eqD (.str "truth") (.str "truth") = some (.bl true) := by kernel_rfl
theorem eq_truth_number : eqD (.str "truth") (.str "number") = some (.bl false) := by kernel_rfl
theorem eq_truth_word : eqD (.str "truth") (.str "word") = some (.bl false) := by kernel_rfl
theorem eq_truth_row : eqD (.str "truth") (.str "row") = some (.bl false) := by kernel_rfl
theorem eq_truth_table : eqD (.str "truth") (.str "table") = some (.bl false) := by kernel_rfl
theorem eq_truth_or : eqD (.str "truth") (.str "or") = some (.bl false) := by kernel_rfl
theorem eq_number_any : eqD (.str "number") (.str "any") = some (.bl false) := by kernel_rfl
theorem eq_number_none : eqD (.str "number") (.str "none") = some (.bl false) := by kernel_rfl
theorem eq_number_truth : eqD (.str "number") (.str "truth") = some (.bl false) := by kernel_rfl
theorem eq_number_number : eqD (.str "number") (.str "number") = some (.bl true) := by kernel_rfl
theorem eq_number_word : eqD (.str "number") (.str "word") = some (.bl false) := by kernel_rfl
theorem eq_number_row : eqD (.str "number") (.str "row") = some (.bl false) := by kernel_rfl
theorem eq_number_table : eqD (.str "number") (.str "table") = some (.bl false) := by kernel_rfl
theorem eq_number_or : eqD (.str "number") (.str "or") = some (.bl false) := by kernel_rfl
theorem eq_word_any : eqD (.str "word") (.str "any") = some (.bl false) := by kernel_rfl
theorem eq_word_none : eqD (.str "word") (.str "none") = some (.bl false) := by kernel_rfl
theorem eq_word_truth : eqD (.str "word") (.str "truth") = some (.bl false) := by kernel_rfl
theorem eq_word_number : eqD (.str "word") (.str "number") = some (.bl false) := by kernel_rfl
theorem eq_word_word : eqD (.str "word") (.str "word") = some (.bl true) := by kernel_rfl
theorem eq_word_row : eqD (.str "word") (.str "row") = some (.bl false) := by kernel_rfl
theorem eq_word_table : eqD (.str "word") (.str "table") = some (.bl false) := by kernel_rfl
theorem eq_word_or : eqD (.str "word") (.str "or") = some (.bl false) := by kernel_rfl
theorem eq_row_any : eqD (.str "row") (.str "any") = some (.bl false) := by kernel_rfl
theorem eq_row_none : eqD (.str "row") (.str "none") = some (.bl false) := by kernel_rfl
theorem eq_row_truth : eqD (.str "row") (.str "truth") = some (.bl false) := by kernel_rfl
theorem eq_row_number : eqD (.str "row") (.str "number") = some (.bl false) := by kernel_rfl
theorem eq_row_word : eqD (.str "row") (.str "word") = some (.bl false) := by kernel_rfl
theorem eq_row_row : eqD (.str "row") (.str "row") = some (.bl true) := by kernel_rfl
theorem eq_row_table : eqD (.str "row") (.str "table") = some (.bl false) := by kernel_rfl
theorem eq_row_or : eqD (.str "row") (.str "or") = some (.bl false) := by kernel_rfl
theorem eq_table_any : eqD (.str "table") (.str "any") = some (.bl false) := by kernel_rfl
theorem eq_table_none : eqD (.str "table") (.str "none") = some (.bl false) := by kernel_rfl
theorem eq_table_truth : eqD (.str "table") (.str "truth") = some (.bl false) := by kernel_rfl
theorem eq_table_number : eqD (.str "table") (.str "number") = some (.bl false) := by kernel_rfl
theorem eq_table_word : eqD (.str "table") (.str "word") = some (.bl false) := by kernel_rfl
theorem eq_table_row : eqD (.str "table") (.str "row") = some (.bl false) := by kernel_rfl
theorem eq_table_table : eqD (.str "table") (.str "table") = some (.bl true) := by kernel_rfl
theorem eq_table_or : eqD (.str "table") (.str "or") = some (.bl false) := by kernel_rfl
theorem eq_or_any : eqD (.str "or") (.str "any") = some (.bl false) := by kernel_rfl
theorem eq_or_none : eqD (.str "or") (.str "none") = some (.bl false) := by kernel_rfl
theorem eq_or_truth : eqD (.str "or") (.str "truth") = some (.bl false) := by kernel_rfl
theorem eq_or_number : eqD (.str "or") (.str "number") = some (.bl false) := by kernel_rfl
theorem eq_or_word : eqD (.str "or") (.str "word") = some (.bl false) := by kernel_rfl
theorem eq_or_row : eqD (.str "or") (.str "row") = some (.bl false) := by kernel_rfl
theorem eq_or_table : eqD (.str "or") (.str "table") = some (.bl false) := by kernel_rfl
theorem eq_or_or : eqD (.str "or") (.str "or") = some (.bl true) := by kernel_rfl
theorem ne_any_any : neD (.str "any") (.str "any") = some (.bl false) := by kernel_rfl
theorem ne_any_none : neD (.str "any") (.str "none") = some (.bl true) := by kernel_rfl
theorem ne_any_truth : neD (.str "any") (.str "truth") = some (.bl true) := by kernel_rfl
theorem ne_any_number : neD (.str "any") (.str "number") = some (.bl true) := by kernel_rfl
theorem ne_any_word : neD (.str "any") (.str "word") = some (.bl true) := by kernel_rfl
theorem ne_any_row : neD (.str "any") (.str "row") = some (.bl true) := by kernel_rfl
theorem ne_any_table : neD (.str "any") (.str "table") = some (.bl true) := by kernel_rfl
theorem ne_any_or : neD (.str "any") (.str "or") = some (.bl true) := by kernel_rfl
theorem ne_none_any : neD (.str "none") (.str "any") = some (.bl true) := by kernel_rfl
theorem ne_none_none : neD (.str "none") (.str "none") = some (.bl false) := by kernel_rfl
theorem ne_none_truth : neD (.str "none") (.str "truth") = some (.bl true) := by kernel_rfl
theorem ne_none_number : neD (.str "none") (.str "number") = some (.bl true) := by kernel_rfl
theorem ne_none_word : neD (.str "none") (.str "word") = some (.bl true) := by kernel_rfl
theorem ne_none_row : neD (.str "none") (.str "row") = some (.bl true) := by kernel_rfl
theorem ne_none_table : neD (.str "none") (.str "table") = some (.bl true) := by kernel_rfl
theorem ne_none_or : neD (.str "none") (.str "or") = some (.bl true) := by kernel_rfl
theorem ne_truth_any : neD (.str "truth") (.str "any") = some (.bl true) := by kernel_rfl
theorem ne_truth_none : neD (.str "truth") (.str "none") = some (.bl true) := by kernel_rfl
theorem ne_truth_truth : neD (.str "truth") (.str "truth") = some (.bl false) := by kernel_rfl
theorem ne_truth_number : neD (.str "truth") (.str "number") = some (.bl true) := by kernel_rfl
theorem ne_truth_word : neD (.str "truth") (.str "word") = some (.bl true) := by kernel_rfl
theorem ne_truth_row : neD (.str "truth") (.str "row") = some (.bl true) := by kernel_rfl
theorem ne_truth_table : neD (.str "truth") (.str "table") = some (.bl true) := by kernel_rfl
theorem ne_truth_or : neD (.str "truth") (.str "or") = some (.bl true) := by kernel_rfl
theorem ne_number_any : neD (.str "number") (.str "any") = some (.bl true) := by kernel_rfl
theorem ne_number_none : neD (.str "number") (.str "none") = some (.bl true) := by kernel_rfl
theorem ne_number_truth : neD (.str "number") (.str "truth") = some (.bl true) := by kernel_rfl
theorem ne_number_number : neD (.str "number") (.str "number") = some (.bl false) := by kernel_rfl
theorem ne_number_word : neD (.str "number") (.str "word") = some (.bl true) := by kernel_rfl
theorem ne_number_row : neD (.str "number") (.str "row") = some (.bl true) := by kernel_rfl
theorem ne_number_table : neD (.str "number") (.str "table") = some (.bl true) := by kernel_rfl
theorem ne_number_or : neD (.str "number") (.str "or") = some (.bl true) := by kernel_rfl
theorem ne_word_any : neD (.str "word") (.str "any") = some (.bl true) := by kernel_rfl
theorem ne_word_none : neD (.str "word") (.str "none") = some (.bl true) := by kernel_rfl
theorem ne_word_truth : neD (.str "word") (.str "truth") = some (.bl true) := by kernel_rfl
theorem ne_word_number : neD (.str "word") (.str "number") = some (.bl true) := by kernel_rfl
theorem ne_word_word : neD (.str "word") (.str "word") = some (.bl false) := by kernel_rfl
theorem ne_word_row : neD (.str "word") (.str "row") = some (.bl true) := by kernel_rfl
theorem ne_word_table : neD (.str "word") (.str "table") = some (.bl true) := by kernel_rfl
theorem ne_word_or : neD (.str "word") (.str "or") = some (.bl true) := by kernel_rfl
theorem ne_row_any : neD (.str "row") (.str "any") = some (.bl true) := by kernel_rfl
theorem ne_row_none : neD (.str "row") (.str "none") = some (.bl true) := by kernel_rfl
theorem ne_row_truth : neD (.str "row") (.str "truth") = some (.bl true) := by kernel_rfl
theorem ne_row_number : neD (.str "row") (.str "number") = some (.bl true) := by kernel_rfl
theorem ne_row_word : neD (.str "row") (.str "word") = some (.bl true) := by kernel_rfl
theorem ne_row_row : neD (.str "row") (.str "row") = some (.bl false) := by kernel_rfl
theorem ne_row_table : neD (.str "row") (.str "table") = some (.bl true) := by kernel_rfl
theorem ne_row_or : neD (.str "row") (.str "or") = some (.bl true) := by kernel_rfl
theorem ne_table_any : neD (.str "table") (.str "any") = some (.bl true) := by kernel_rfl
theorem ne_table_none : neD (.str "table") (.str "none") = some (.bl true) := by kernel_rfl
theorem ne_table_truth : neD (.str "table") (.str "truth") = some (.bl true) := by kernel_rfl
theorem ne_table_number : neD (.str "table") (.str "number") = some (.bl true) := by kernel_rfl
theorem ne_table_word : neD (.str "table") (.str "word") = some (.bl true) := by kernel_rfl
theorem ne_table_row : neD (.str "table") (.str "row") = some (.bl true) := by kernel_rfl
theorem ne_table_table : neD (.str "table") (.str "table") = some (.bl false) := by kernel_rfl
theorem ne_table_or : neD (.str "table") (.str "or") = some (.bl true) := by kernel_rfl
theorem ne_or_any : neD (.str "or") (.str "any") = some (.bl true) := by kernel_rfl
theorem ne_or_none : neD (.str "or") (.str "none") = some (.bl true) := by kernel_rfl
theorem ne_or_truth : neD (.str "or") (.str "truth") = some (.bl true) := by kernel_rfl
theorem ne_or_number : neD (.str "or") (.str "number") = some (.bl true) := by kernel_rfl
theorem ne_or_word : neD (.str "or") (.str "word") = some (.bl true) := by kernel_rfl
theorem ne_or_row : neD (.str "or") (.str "row") = some (.bl true) := by kernel_rfl
theorem ne_or_table : neD (.str "or") (.str "table") = some (.bl true) := by kernel_rfl
theorem ne_or_or : neD (.str "or") (.str "or") = some (.bl false) := by kernel_rfl
theorem sz_any : kgetD [("any", 1), ("none", 1), ("truth", 1), ("number", 3), ("word", 2), ("row", 4), ("table", 3), ("or", 2)] [.str "any", .int 0] = some (.int 1) := by kernel_rfl
theorem sz_none : kgetD [("any", 1), ("none", 1), ("truth", 1), ("number", 3), ("word", 2), ("row", 4), ("table", 3), ("or", 2)] [.str "none", .int 0] = some (.int 1) := by kernel_rfl
theorem sz_truth : kgetD [("any", 1), ("none", 1), ("truth", 1), ("number", 3), ("word", 2), ("row", 4), ("table", 3), ("or", 2)] [.str "truth", .int 0] = some (.int 1) := by kernel_rfl
theorem sz_number : kgetD [("any", 1), ("none", 1), ("truth", 1), ("number", 3), ("word", 2), ("row", 4), ("table", 3), ("or", 2)] [.str "number", .int 0] = some (.int 3) := by kernel_rfl
theorem sz_word : kgetD [("any", 1), ("none", 1), ("truth", 1), ("number", 3), ("word", 2), ("row", 4), ("table", 3), ("or", 2)] [.str "word", .int 0] = some (.int 2) := by kernel_rfl
theorem sz_row : kgetD [("any", 1), ("none", 1), ("truth", 1), ("number", 3), ("word", 2), ("row", 4), ("table", 3), ("or", 2)] [.str "row", .int 0] = some (.int 4) := by kernel_rfl
theorem sz_table : kgetD [("any", 1), ("none", 1), ("truth", 1), ("number", 3), ("word", 2), ("row", 4), ("table", 3), ("or", 2)] [.str "table", .int 0] = some (.int 3) := by kernel_rfl
theorem sz_or : kgetD [("any", 1), ("none", 1), ("truth", 1), ("number", 3), ("word", 2), ("row", 4), ("table", 3), ("or", 2)] [.str "or", .int 0] = some (.int 2) := by kernel_rfl
theorem nei_1 : neD (.int 1) (.int 1) = some (.bl false) := by kernel_rfl
theorem nei_2 : neD (.int 2) (.int 2) = some (.bl false) := by kernel_rfl
theorem nei_3 : neD (.int 3) (.int 3) = some (.bl false) := by kernel_rfl
theorem nei_4 : neD (.int 4) (.int 4) = some (.bl false) := by kernel_rfl
theorem len1 (a : D) : lenD [.tup [a]] = some (.int 1) := rfl
theorem len2 (a b : D) : lenD [.tup [a, b]] = some (.int 2) := rfl
theorem len3 (a b c : D) : lenD [.tup [a, b, c]] = some (.int 3) := rfl
theorem len4 (a b c d : D) : lenD [.tup [a, b, c, d]] = some (.int 4) := rfl
theorem ix0 (a : D) (l : List D) : ixD (.tup (a :: l)) (.int 0) = some a := by
  show atI _ _ = _
  rw [show (0 : Int) = ((0 : Nat) : Int) from rfl, atI_nat _ _ (by simp)]; rfl
theorem ix1 (a b : D) (l : List D) : ixD (.tup (a :: b :: l)) (.int 1) = some b := by
  show atI _ _ = _
  rw [show (1 : Int) = ((1 : Nat) : Int) from rfl, atI_nat _ _ (by simp)]; rfl
theorem ix2 (a b c : D) (l : List D) : ixD (.tup (a :: b :: c :: l)) (.int 2) = some c := by
  show atI _ _ = _
  rw [show (2 : Int) = ((2 : Nat) : Int) from rfl, atI_nat _ _ (by simp)]; rfl
theorem ix3 (a b c d : D) (l : List D) : ixD (.tup (a :: b :: c :: d :: l)) (.int 3) = some d := by
  show atI _ _ = _
  rw [show (3 : Int) = ((3 : Nat) : Int) from rfl, atI_nat _ _ (by simp)]; rfl
theorem neg_m : negD (.int 999999999999999) = some (.int (-999999999999999)) := rfl
theorem tru_t (a : D) (l : List D) : truD (.tup (a :: l)) = some true := rfl
def entD (e : Str × D × Bool) : D := .tup [.str e.1, e.2.1, .bl e.2.2]
inductive Sh : Nat → D → Prop
  | any {n : Nat} : Sh n (.tup [.str "any"])
  | none {n : Nat} : Sh n (.tup [.str "none"])
  | truth {n : Nat} : Sh n (.tup [.str "truth"])
  | number {n : Nat} {a b : Int} : -999999999999999 ≤ a → a ≤ b → b ≤ 999999999999999 → Sh n (.tup [.str "number", .int a, .int b])
  | word {n : Nat} {m : Int} : 0 ≤ m → m ≤ 60 → Sh n (.tup [.str "word", .int m])
  | row {n : Nat} {s : D} {a b : Int} : 0 ≤ a → a ≤ b → b ≤ 1000000 → Sh n s → Sh (n + 1) (.tup [.str "row", s, .int a, .int b])
  | table {n : Nat} {es : List (Str × D × Bool)} {rest : D} : es.length ≤ 4000 → sortS (ddS (es.map (·.1))) = es.map (·.1) → (∀ e ∈ es, isW e.1 = true) → (∀ e ∈ es, Sh n e.2.1) → (rest ≠ .non → Sh n rest) → Sh (n + 1) (.tup [.str "table", .tup (es.map entD), rest])
  | or_ {n : Nat} {ps : List D} : ps.length ≤ 100 → (∀ p ∈ ps, Sh n p) → Sh (n + 1) (.tup [.str "or", .tup ps])
theorem is_entry_eq (K : Nat) (e : Str × D × Bool) (dp : D) (hw : isW e.1 = true) (hs : (den (K + 2)).is_shape [e.2.1, dp] () = .ok (.bl true) ()) : (den (K + 3)).is_entry [entD e, dp] () = .ok (.bl true) () := by
  show fnD 2 (b_is_entry (den (K + 2))) [entD e, dp] () = _
  have h1 : lenD [entD e] = some (.int 3) := rfl
  have h2 : eqD (.int 3) (.int 3) = some (.bl true) := by kernel_rfl
  have h3 : ixD (entD e) (.int 0) = some (.str e.1) := ix0 _ _
  have h4 : ixD (entD e) (.int 1) = some e.2.1 := ix1 _ _ _
  have h5 : ixD (entD e) (.int 2) = some (.bl e.2.2) := ix2 _ _ _ _
  have h6 : inD false (.bl e.2.2) (.tup [.bl true, .bl false]) = some (.bl true) := by cases e.2.2 <;> kernel_rfl
  have h7 := is_word_eq K e.1
  rw [hw] at h7
  simp only [b_is_entry, h1, h2, h3, h4, h5, h6, h7, hs, fnD, startD, endK, sRet, sRetN, sSeq, seqK, sIf, sAsg, sDrop, sNil, liftX, tgN, sFor, sOwn1, sOwn2, optK, putK2, sAsgO, sRetO, isRT, dAnd, dOr, dIf, bnd_e, dOp, dUn, dAll, dCons, dNil, ret_ap, dVar, getS, lift_e, lift_n, dC, dTst, isBl, dCall, up, tAndD, tOrD, tNotD, dItems, itemsD, dRange, dMt, dLc, rowD, tupD, truD, notD, tyIs, List.map_cons, List.map_nil, List.length_cons, List.length_nil, List.cons_append, List.nil_append, List.replicate_succ, List.replicate_zero, List.getElem?_cons_zero, List.getElem?_cons_succ, List.set_cons_zero, List.set_cons_succ, Option.join_some, Option.join_none, Option.map_some, Option.map_none, Option.bind_some, Option.bind_none, Nat.reduceAdd, Nat.reduceSub, Nat.zero_add, if_true, if_false, ite_true, ite_false, reduceIte, Bool.false_eq_true, Bool.true_eq_false, eq_self_iff_true, show (2 : Nat) ≤ sizeLine from by decide]
theorem add1 (n : Nat) : addD (.int (n : Int)) (.int 1) = some (.int ((n + 1 : Nat) : Int)) := rfl
theorem is_shape_eq {n : Nat} {d : D} (h : Sh n d) : ∀ (deep k : Nat), n + deep ≤ 30 → (den (k + 3 * n + 4)).is_shape [d, .int (deep : Nat)] () = .ok (.bl true) () := by
  induction h with
  | any | none | truth =>
    intro deep k hd
    show fnD 3 (b_is_shape (den (k + _ + 3))) [_, .int (deep : Nat)] () = _
    have hg : gtD (.int (deep : Nat)) (.int 30) = some (.bl false) := by rw [gt_e, decide_eq_false (by omega)]
    simp only [b_is_shape, len1, ix0, hg, fnD, startD, endK, sRet, sRetN, sSeq, seqK, sIf, sAsg, sDrop, sNil, liftX, tgN, sFor, sOwn1, sOwn2, optK, putK2, sAsgO, sRetO, isRT, dAnd, dOr, dIf, bnd_e, dOp, dUn, dAll, dCons, dNil, ret_ap, dVar, getS, lift_e, lift_n, dC, dTst, isBl, dCall, up, tAndD, tOrD, tNotD, dItems, itemsD, dRange, dMt, dLc, rowD, tupD, truD, notD, tyIs, List.map_cons, List.map_nil, List.length_cons, List.length_nil, List.cons_append, List.nil_append, List.replicate_succ, List.replicate_zero, List.getElem?_cons_zero, List.getElem?_cons_succ, List.set_cons_zero, List.set_cons_succ, Option.join_some, Option.join_none, Option.map_some, Option.map_none, Option.bind_some, Option.bind_none, Nat.reduceAdd, Nat.reduceSub, Nat.zero_add, if_true, if_false, ite_true, ite_false, reduceIte, Bool.false_eq_true, Bool.true_eq_false, eq_self_iff_true, eq_any_any, eq_any_none, eq_any_truth, eq_any_number, eq_any_word, eq_any_row, eq_any_table, eq_any_or, eq_none_any, eq_none_none, eq_none_truth, eq_none_number, eq_none_word, eq_none_row, eq_none_table, eq_none_or, eq_truth_any, eq_truth_none, eq_truth_truth, eq_truth_number, eq_truth_word, eq_truth_row, eq_truth_table, eq_truth_or, eq_number_any, eq_number_none, eq_number_truth, eq_number_number, eq_number_word, eq_number_row, eq_number_table, eq_number_or, eq_word_any, eq_word_none, eq_word_truth, eq_word_number, eq_word_word, eq_word_row, eq_word_table, eq_word_or, eq_row_any, eq_row_none, eq_row_truth, eq_row_number, eq_row_word, eq_row_row, eq_row_table, eq_row_or, eq_table_any, eq_table_none, eq_table_truth, eq_table_number, eq_table_word, eq_table_row, eq_table_table, eq_table_or, eq_or_any, eq_or_none, eq_or_truth, eq_or_number, eq_or_word, eq_or_row, eq_or_table, eq_or_or, ne_any_any, ne_any_none, ne_any_truth, ne_any_number, ne_any_word, ne_any_row, ne_any_table, ne_any_or, ne_none_any, ne_none_none, ne_none_truth, ne_none_number, ne_none_word, ne_none_row, ne_none_table, ne_none_or, ne_truth_any, ne_truth_none, ne_truth_truth, ne_truth_number, ne_truth_word, ne_truth_row, ne_truth_table, ne_truth_or, ne_number_any, ne_number_none, ne_number_truth, ne_number_number, ne_number_word, ne_number_row, ne_number_table, ne_number_or, ne_word_any, ne_word_none, ne_word_truth, ne_word_number, ne_word_word, ne_word_row, ne_word_table, ne_word_or, ne_row_any, ne_row_none, ne_row_truth, ne_row_number, ne_row_word, ne_row_row, ne_row_table, ne_row_or, ne_table_any, ne_table_none, ne_table_truth, ne_table_number, ne_table_word, ne_table_row, ne_table_table, ne_table_or, ne_or_any, ne_or_none, ne_or_truth, ne_or_number, ne_or_word, ne_or_row, ne_or_table, ne_or_or, sz_any, sz_none, sz_truth, sz_number, sz_word, sz_row, sz_table, sz_or, nei_1, nei_2, nei_3, nei_4, tru_t, List.isEmpty_cons, Bool.not_false, Bool.not_true]
  | @number n a b h1 h2 h3 =>
    intro deep k hd
    show fnD 3 (b_is_shape (den (k + _ + 3))) [_, .int (deep : Nat)] () = _
    have hg : gtD (.int (deep : Nat)) (.int 30) = some (.bl false) := by rw [gt_e, decide_eq_false (by omega)]
    simp only [b_is_shape, len3, ix0, ix1, ix2, hg, neg_m, dChain3, le_e, decide_eq_true h1, decide_eq_true h2, decide_eq_true h3, fnD, startD, endK, sRet, sRetN, sSeq, seqK, sIf, sAsg, sDrop, sNil, liftX, tgN, sFor, sOwn1, sOwn2, optK, putK2, sAsgO, sRetO, isRT, dAnd, dOr, dIf, bnd_e, dOp, dUn, dAll, dCons, dNil, ret_ap, dVar, getS, lift_e, lift_n, dC, dTst, isBl, dCall, up, tAndD, tOrD, tNotD, dItems, itemsD, dRange, dMt, dLc, rowD, tupD, truD, notD, tyIs, List.map_cons, List.map_nil, List.length_cons, List.length_nil, List.cons_append, List.nil_append, List.replicate_succ, List.replicate_zero, List.getElem?_cons_zero, List.getElem?_cons_succ, List.set_cons_zero, List.set_cons_succ, Option.join_some, Option.join_none, Option.map_some, Option.map_none, Option.bind_some, Option.bind_none, Nat.reduceAdd, Nat.reduceSub, Nat.zero_add, if_true, if_false, ite_true, ite_false, reduceIte, Bool.false_eq_true, Bool.true_eq_false, eq_self_iff_true, eq_any_any, eq_any_none, eq_any_truth, eq_any_number, eq_any_word, eq_any_row, eq_any_table, eq_any_or, eq_none_any, eq_none_none, eq_none_truth, eq_none_number, eq_none_word, eq_none_row, eq_none_table, eq_none_or, eq_truth_any, eq_truth_none, eq_truth_truth, eq_truth_number, eq_truth_word, eq_truth_row, eq_truth_table, eq_truth_or, eq_number_any, eq_number_none, eq_number_truth, eq_number_number, eq_number_word, eq_number_row, eq_number_table, eq_number_or, eq_word_any, eq_word_none, eq_word_truth, eq_word_number, eq_word_word, eq_word_row, eq_word_table, eq_word_or, eq_row_any, eq_row_none, eq_row_truth, eq_row_number, eq_row_word, eq_row_row, eq_row_table, eq_row_or, eq_table_any, eq_table_none, eq_table_truth, eq_table_number, eq_table_word, eq_table_row, eq_table_table, eq_table_or, eq_or_any, eq_or_none, eq_or_truth, eq_or_number, eq_or_word, eq_or_row, eq_or_table, eq_or_or, ne_any_any, ne_any_none, ne_any_truth, ne_any_number, ne_any_word, ne_any_row, ne_any_table, ne_any_or, ne_none_any, ne_none_none, ne_none_truth, ne_none_number, ne_none_word, ne_none_row, ne_none_table, ne_none_or, ne_truth_any, ne_truth_none, ne_truth_truth, ne_truth_number, ne_truth_word, ne_truth_row, ne_truth_table, ne_truth_or, ne_number_any, ne_number_none, ne_number_truth, ne_number_number, ne_number_word, ne_number_row, ne_number_table, ne_number_or, ne_word_any, ne_word_none, ne_word_truth, ne_word_number, ne_word_word, ne_word_row, ne_word_table, ne_word_or, ne_row_any, ne_row_none, ne_row_truth, ne_row_number, ne_row_word, ne_row_row, ne_row_table, ne_row_or, ne_table_any, ne_table_none, ne_table_truth, ne_table_number, ne_table_word, ne_table_row, ne_table_table, ne_table_or, ne_or_any, ne_or_none, ne_or_truth, ne_or_number, ne_or_word, ne_or_row, ne_or_table, ne_or_or, sz_any, sz_none, sz_truth, sz_number, sz_word, sz_row, sz_table, sz_or, nei_1, nei_2, nei_3, nei_4, tru_t, List.isEmpty_cons, Bool.not_false, Bool.not_true]
  | @word n m h1 h2 =>
    intro deep k hd
    show fnD 3 (b_is_shape (den (k + _ + 3))) [_, .int (deep : Nat)] () = _
    have hg : gtD (.int (deep : Nat)) (.int 30) = some (.bl false) := by rw [gt_e, decide_eq_false (by omega)]
    simp only [b_is_shape, len2, ix0, ix1, hg, dChain, le_e, decide_eq_true h1, decide_eq_true h2, fnD, startD, endK, sRet, sRetN, sSeq, seqK, sIf, sAsg, sDrop, sNil, liftX, tgN, sFor, sOwn1, sOwn2, optK, putK2, sAsgO, sRetO, isRT, dAnd, dOr, dIf, bnd_e, dOp, dUn, dAll, dCons, dNil, ret_ap, dVar, getS, lift_e, lift_n, dC, dTst, isBl, dCall, up, tAndD, tOrD, tNotD, dItems, itemsD, dRange, dMt, dLc, rowD, tupD, truD, notD, tyIs, List.map_cons, List.map_nil, List.length_cons, List.length_nil, List.cons_append, List.nil_append, List.replicate_succ, List.replicate_zero, List.getElem?_cons_zero, List.getElem?_cons_succ, List.set_cons_zero, List.set_cons_succ, Option.join_some, Option.join_none, Option.map_some, Option.map_none, Option.bind_some, Option.bind_none, Nat.reduceAdd, Nat.reduceSub, Nat.zero_add, if_true, if_false, ite_true, ite_false, reduceIte, Bool.false_eq_true, Bool.true_eq_false, eq_self_iff_true, eq_any_any, eq_any_none, eq_any_truth, eq_any_number, eq_any_word, eq_any_row, eq_any_table, eq_any_or, eq_none_any, eq_none_none, eq_none_truth, eq_none_number, eq_none_word, eq_none_row, eq_none_table, eq_none_or, eq_truth_any, eq_truth_none, eq_truth_truth, eq_truth_number, eq_truth_word, eq_truth_row, eq_truth_table, eq_truth_or, eq_number_any, eq_number_none, eq_number_truth, eq_number_number, eq_number_word, eq_number_row, eq_number_table, eq_number_or, eq_word_any, eq_word_none, eq_word_truth, eq_word_number, eq_word_word, eq_word_row, eq_word_table, eq_word_or, eq_row_any, eq_row_none, eq_row_truth, eq_row_number, eq_row_word, eq_row_row, eq_row_table, eq_row_or, eq_table_any, eq_table_none, eq_table_truth, eq_table_number, eq_table_word, eq_table_row, eq_table_table, eq_table_or, eq_or_any, eq_or_none, eq_or_truth, eq_or_number, eq_or_word, eq_or_row, eq_or_table, eq_or_or, ne_any_any, ne_any_none, ne_any_truth, ne_any_number, ne_any_word, ne_any_row, ne_any_table, ne_any_or, ne_none_any, ne_none_none, ne_none_truth, ne_none_number, ne_none_word, ne_none_row, ne_none_table, ne_none_or, ne_truth_any, ne_truth_none, ne_truth_truth, ne_truth_number, ne_truth_word, ne_truth_row, ne_truth_table, ne_truth_or, ne_number_any, ne_number_none, ne_number_truth, ne_number_number, ne_number_word, ne_number_row, ne_number_table, ne_number_or, ne_word_any, ne_word_none, ne_word_truth, ne_word_number, ne_word_word, ne_word_row, ne_word_table, ne_word_or, ne_row_any, ne_row_none, ne_row_truth, ne_row_number, ne_row_word, ne_row_row, ne_row_table, ne_row_or, ne_table_any, ne_table_none, ne_table_truth, ne_table_number, ne_table_word, ne_table_row, ne_table_table, ne_table_or, ne_or_any, ne_or_none, ne_or_truth, ne_or_number, ne_or_word, ne_or_row, ne_or_table, ne_or_or, sz_any, sz_none, sz_truth, sz_number, sz_word, sz_row, sz_table, sz_or, nei_1, nei_2, nei_3, nei_4, tru_t, List.isEmpty_cons, Bool.not_false, Bool.not_true]
  | @row n s a b h1 h2 h3 _ ih =>
    intro deep k hd
    show fnD 3 (b_is_shape (den (k + 3 * (n + 1) + 3))) [_, .int (deep : Nat)] () = _
    have hg : gtD (.int (deep : Nat)) (.int 30) = some (.bl false) := by rw [gt_e, decide_eq_false (by omega)]
    have hi := ih (deep + 1) (k + 2) (by omega)
    rw [show k + 2 + 3 * n + 4 = k + 3 * (n + 1) + 3 from by omega] at hi
    simp only [b_is_shape, len4, ix0, ix1, ix2, ix3, hg, dChain3, le_e, decide_eq_true h1, decide_eq_true h2, decide_eq_true h3, add1, hi, fnD, startD, endK, sRet, sRetN, sSeq, seqK, sIf, sAsg, sDrop, sNil, liftX, tgN, sFor, sOwn1, sOwn2, optK, putK2, sAsgO, sRetO, isRT, dAnd, dOr, dIf, bnd_e, dOp, dUn, dAll, dCons, dNil, ret_ap, dVar, getS, lift_e, lift_n, dC, dTst, isBl, dCall, up, tAndD, tOrD, tNotD, dItems, itemsD, dRange, dMt, dLc, rowD, tupD, truD, notD, tyIs, List.map_cons, List.map_nil, List.length_cons, List.length_nil, List.cons_append, List.nil_append, List.replicate_succ, List.replicate_zero, List.getElem?_cons_zero, List.getElem?_cons_succ, List.set_cons_zero, List.set_cons_succ, Option.join_some, Option.join_none, Option.map_some, Option.map_none, Option.bind_some, Option.bind_none, Nat.reduceAdd, Nat.reduceSub, Nat.zero_add, if_true, if_false, ite_true, ite_false, reduceIte, Bool.false_eq_true, Bool.true_eq_false, eq_self_iff_true, eq_any_any, eq_any_none, eq_any_truth, eq_any_number, eq_any_word, eq_any_row, eq_any_table, eq_any_or, eq_none_any, eq_none_none, eq_none_truth, eq_none_number, eq_none_word, eq_none_row, eq_none_table, eq_none_or, eq_truth_any, eq_truth_none, eq_truth_truth, eq_truth_number, eq_truth_word, eq_truth_row, eq_truth_table, eq_truth_or, eq_number_any, eq_number_none, eq_number_truth, eq_number_number, eq_number_word, eq_number_row, eq_number_table, eq_number_or, eq_word_any, eq_word_none, eq_word_truth, eq_word_number, eq_word_word, eq_word_row, eq_word_table, eq_word_or, eq_row_any, eq_row_none, eq_row_truth, eq_row_number, eq_row_word, eq_row_row, eq_row_table, eq_row_or, eq_table_any, eq_table_none, eq_table_truth, eq_table_number, eq_table_word, eq_table_row, eq_table_table, eq_table_or, eq_or_any, eq_or_none, eq_or_truth, eq_or_number, eq_or_word, eq_or_row, eq_or_table, eq_or_or, ne_any_any, ne_any_none, ne_any_truth, ne_any_number, ne_any_word, ne_any_row, ne_any_table, ne_any_or, ne_none_any, ne_none_none, ne_none_truth, ne_none_number, ne_none_word, ne_none_row, ne_none_table, ne_none_or, ne_truth_any, ne_truth_none, ne_truth_truth, ne_truth_number, ne_truth_word, ne_truth_row, ne_truth_table, ne_truth_or, ne_number_any, ne_number_none, ne_number_truth, ne_number_number, ne_number_word, ne_number_row, ne_number_table, ne_number_or, ne_word_any, ne_word_none, ne_word_truth, ne_word_number, ne_word_word, ne_word_row, ne_word_table, ne_word_or, ne_row_any, ne_row_none, ne_row_truth, ne_row_number, ne_row_word, ne_row_row, ne_row_table, ne_row_or, ne_table_any, ne_table_none, ne_table_truth, ne_table_number, ne_table_word, ne_table_row, ne_table_table, ne_table_or, ne_or_any, ne_or_none, ne_or_truth, ne_or_number, ne_or_word, ne_or_row, ne_or_table, ne_or_or, sz_any, sz_none, sz_truth, sz_number, sz_word, sz_row, sz_table, sz_or, nei_1, nei_2, nei_3, nei_4, tru_t, List.isEmpty_cons, Bool.not_false, Bool.not_true]
  | @or_ n ps hl _ ih =>
    intro deep k hd
    show fnD 3 (b_is_shape (den (k + 3 * (n + 1) + 3))) [_, .int (deep : Nat)] () = _
    have hg : gtD (.int (deep : Nat)) (.int 30) = some (.bl false) := by rw [gt_e, decide_eq_false (by omega)]
    have h6 : lcA (tgN 2) dYes (dCall 2 (fun ds => up ((den (k + 3 * (n + 1) + 3)).is_shape ds)) (dCons (dVar 2) (dCons (dOp addD (dVar 1) (dC (.int 1))) dNil))) [some (.tup [.str "or", .tup ps]), some (.int (deep : Nat)), none] [] ps () = .ok (.row (ps.map fun _ => .bl true)) () := by
      rw [lcA_map (fun _ => .bl true) ps [] fun y hy => ?_, List.nil_append]
      have hi := ih y hy (deep + 1) (k + 2) (by omega)
      rw [show k + 2 + 3 * n + 4 = k + 3 * (n + 1) + 3 from by omega] at hi
      simp only [fnD, startD, endK, sRet, sRetN, sSeq, seqK, sIf, sAsg, sDrop, sNil, liftX, tgN, sFor, sOwn1, sOwn2, optK, putK2, sAsgO, sRetO, isRT, dAnd, dOr, dIf, bnd_e, dOp, dUn, dAll, dCons, dNil, ret_ap, dVar, getS, lift_e, lift_n, dC, dTst, isBl, dCall, up, tAndD, tOrD, tNotD, dItems, itemsD, dRange, dMt, dLc, rowD, tupD, truD, notD, tyIs, List.map_cons, List.map_nil, List.length_cons, List.length_nil, List.cons_append, List.nil_append, List.replicate_succ, List.replicate_zero, List.getElem?_cons_zero, List.getElem?_cons_succ, List.set_cons_zero, List.set_cons_succ, Option.join_some, Option.join_none, Option.map_some, Option.map_none, Option.bind_some, Option.bind_none, Nat.reduceAdd, Nat.reduceSub, Nat.zero_add, if_true, if_false, ite_true, ite_false, reduceIte, Bool.false_eq_true, Bool.true_eq_false, eq_self_iff_true, add1, hi]
    simp only [b_is_shape, len2, ix0, ix1, hg, h6, all_true, fnD, startD, endK, sRet, sRetN, sSeq, seqK, sIf, sAsg, sDrop, sNil, liftX, tgN, sFor, sOwn1, sOwn2, optK, putK2, sAsgO, sRetO, isRT, dAnd, dOr, dIf, bnd_e, dOp, dUn, dAll, dCons, dNil, ret_ap, dVar, getS, lift_e, lift_n, dC, dTst, isBl, dCall, up, tAndD, tOrD, tNotD, dItems, itemsD, dRange, dMt, dLc, rowD, tupD, truD, notD, tyIs, List.map_cons, List.map_nil, List.length_cons, List.length_nil, List.cons_append, List.nil_append, List.replicate_succ, List.replicate_zero, List.getElem?_cons_zero, List.getElem?_cons_succ, List.set_cons_zero, List.set_cons_succ, Option.join_some, Option.join_none, Option.map_some, Option.map_none, Option.bind_some, Option.bind_none, Nat.reduceAdd, Nat.reduceSub, Nat.zero_add, if_true, if_false, ite_true, ite_false, reduceIte, Bool.false_eq_true, Bool.true_eq_false, eq_self_iff_true, eq_any_any, eq_any_none, eq_any_truth, eq_any_number, eq_any_word, eq_any_row, eq_any_table, eq_any_or, eq_none_any, eq_none_none, eq_none_truth, eq_none_number, eq_none_word, eq_none_row, eq_none_table, eq_none_or, eq_truth_any, eq_truth_none, eq_truth_truth, eq_truth_number, eq_truth_word, eq_truth_row, eq_truth_table, eq_truth_or, eq_number_any, eq_number_none, eq_number_truth, eq_number_number, eq_number_word, eq_number_row, eq_number_table, eq_number_or, eq_word_any, eq_word_none, eq_word_truth, eq_word_number, eq_word_word, eq_word_row, eq_word_table, eq_word_or, eq_row_any, eq_row_none, eq_row_truth, eq_row_number, eq_row_word, eq_row_row, eq_row_table, eq_row_or, eq_table_any, eq_table_none, eq_table_truth, eq_table_number, eq_table_word, eq_table_row, eq_table_table, eq_table_or, eq_or_any, eq_or_none, eq_or_truth, eq_or_number, eq_or_word, eq_or_row, eq_or_table, eq_or_or, ne_any_any, ne_any_none, ne_any_truth, ne_any_number, ne_any_word, ne_any_row, ne_any_table, ne_any_or, ne_none_any, ne_none_none, ne_none_truth, ne_none_number, ne_none_word, ne_none_row, ne_none_table, ne_none_or, ne_truth_any, ne_truth_none, ne_truth_truth, ne_truth_number, ne_truth_word, ne_truth_row, ne_truth_table, ne_truth_or, ne_number_any, ne_number_none, ne_number_truth, ne_number_number, ne_number_word, ne_number_row, ne_number_table, ne_number_or, ne_word_any, ne_word_none, ne_word_truth, ne_word_number, ne_word_word, ne_word_row, ne_word_table, ne_word_or, ne_row_any, ne_row_none, ne_row_truth, ne_row_number, ne_row_word, ne_row_row, ne_row_table, ne_row_or, ne_table_any, ne_table_none, ne_table_truth, ne_table_number, ne_table_word, ne_table_row, ne_table_table, ne_table_or, ne_or_any, ne_or_none, ne_or_truth, ne_or_number, ne_or_word, ne_or_row, ne_or_table, ne_or_or, sz_any, sz_none, sz_truth, sz_number, sz_word, sz_row, sz_table, sz_or, nei_1, nei_2, nei_3, nei_4, tru_t, List.isEmpty_cons, Bool.not_false, Bool.not_true]
  | @table n es rest hl hk hw _ hr ih ihr =>
    intro deep k hd
    show fnD 3 (b_is_shape (den (k + 3 * (n + 1) + 3))) [_, .int (deep : Nat)] () = _
    have hg : gtD (.int (deep : Nat)) (.int 30) = some (.bl false) := by rw [gt_e, decide_eq_false (by omega)]
    have ht : (den (k + 3 * (n + 1) + 3)).is_table_shape [.tup [.str "table", .tup (es.map entD), rest], .int (deep : Nat)] () = .ok (.bl true) () := by
      show fnD 4 (b_is_table_shape (den (k + 3 * (n + 1) + 2))) [_, .int (deep : Nat)] () = _
      have h6 : lcA (tgN 3) dYes (dCall 2 (fun ds => up ((den (k + 3 * (n + 1) + 2)).is_entry ds)) (dCons (dVar 3) (dCons (dOp addD (dVar 1) (dC (.int 1))) dNil))) [some (.tup [.str "table", .tup (es.map entD), rest]), some (.int (deep : Nat)), none, none] [] (es.map entD) () = .ok (.row ((es.map entD).map fun _ => .bl true)) () := by
        rw [lcA_map (fun _ => .bl true) (es.map entD) [] fun y hy => ?_, List.nil_append]
        obtain ⟨e, he, rfl⟩ := List.mem_map.mp hy
        have hi := ih e he (deep + 1) k (by omega)
        have hj := is_entry_eq (k + 3 * n + 2) e (.int ((deep + 1 : Nat) : Int)) (hw e he) hi
        rw [show k + 3 * n + 2 + 3 = k + 3 * (n + 1) + 2 from by omega] at hj
        simp only [fnD, startD, endK, sRet, sRetN, sSeq, seqK, sIf, sAsg, sDrop, sNil, liftX, tgN, sFor, sOwn1, sOwn2, optK, putK2, sAsgO, sRetO, isRT, dAnd, dOr, dIf, bnd_e, dOp, dUn, dAll, dCons, dNil, ret_ap, dVar, getS, lift_e, lift_n, dC, dTst, isBl, dCall, up, tAndD, tOrD, tNotD, dItems, itemsD, dRange, dMt, dLc, rowD, tupD, truD, notD, tyIs, List.map_cons, List.map_nil, List.length_cons, List.length_nil, List.cons_append, List.nil_append, List.replicate_succ, List.replicate_zero, List.getElem?_cons_zero, List.getElem?_cons_succ, List.set_cons_zero, List.set_cons_succ, Option.join_some, Option.join_none, Option.map_some, Option.map_none, Option.bind_some, Option.bind_none, Nat.reduceAdd, Nat.reduceSub, Nat.zero_add, if_true, if_false, ite_true, ite_false, reduceIte, Bool.false_eq_true, Bool.true_eq_false, eq_self_iff_true, add1, hj]
      have h7 : lcA (tgN 3) dYes (dOp ixD (dVar 3) (dC (.int 0))) [some (.tup [.str "table", .tup (es.map entD), rest]), some (.int (deep : Nat)), none, none] [] (es.map entD) () = .ok (.row ((es.map (·.1)).map D.str)) () := by
        rw [lcA_map (fun d => (ixD d (.int 0)).getD .non) (es.map entD) [] fun y hy => ?_, List.nil_append, List.map_map, List.map_map]
        · rfl
        · obtain ⟨e, he, rfl⟩ := List.mem_map.mp hy
          have h3 : ixD (entD e) (.int 0) = some (.str e.1) := ix0 _ _
          simp only [fnD, startD, endK, sRet, sRetN, sSeq, seqK, sIf, sAsg, sDrop, sNil, liftX, tgN, sFor, sOwn1, sOwn2, optK, putK2, sAsgO, sRetO, isRT, dAnd, dOr, dIf, bnd_e, dOp, dUn, dAll, dCons, dNil, ret_ap, dVar, getS, lift_e, lift_n, dC, dTst, isBl, dCall, up, tAndD, tOrD, tNotD, dItems, itemsD, dRange, dMt, dLc, rowD, tupD, truD, notD, tyIs, List.map_cons, List.map_nil, List.length_cons, List.length_nil, List.cons_append, List.nil_append, List.replicate_succ, List.replicate_zero, List.getElem?_cons_zero, List.getElem?_cons_succ, List.set_cons_zero, List.set_cons_succ, Option.join_some, Option.join_none, Option.map_some, Option.map_none, Option.bind_some, Option.bind_none, Nat.reduceAdd, Nat.reduceSub, Nat.zero_add, if_true, if_false, ite_true, ite_false, reduceIte, Bool.false_eq_true, Bool.true_eq_false, eq_self_iff_true, h3, Option.getD_some]
      have h8 : sortSetD (.row ((es.map (·.1)).map D.str)) = some (.row ((es.map (·.1)).map D.str)) := by
        show ((strsD ((es.map (·.1)).map D.str)).bind _) = _
        rw [strsD_map]
        show (if (es.map (·.1)).length + 1 < PySem.scanBound then some (D.row ((sortS (ddS (es.map (·.1)))).map D.str)) else _) = _
        rw [if_pos (by rw [List.length_map]; show es.length + 1 < 4096; omega), hk]
      have h9 := eqD_rows (es.map (·.1)) (es.map (·.1))
      rw [decide_eq_true rfl] at h9
      by_cases hz : rest = .non
      · subst hz
        have h10 : isND false .non = some (.bl true) := rfl
        simp only [b_is_table_shape, ix1, ix2, h6, h7, h8, h9, h10, all_true, fnD, startD, endK, sRet, sRetN, sSeq, seqK, sIf, sAsg, sDrop, sNil, liftX, tgN, sFor, sOwn1, sOwn2, optK, putK2, sAsgO, sRetO, isRT, dAnd, dOr, dIf, bnd_e, dOp, dUn, dAll, dCons, dNil, ret_ap, dVar, getS, lift_e, lift_n, dC, dTst, isBl, dCall, up, tAndD, tOrD, tNotD, dItems, itemsD, dRange, dMt, dLc, rowD, tupD, truD, notD, tyIs, List.map_cons, List.map_nil, List.length_cons, List.length_nil, List.cons_append, List.nil_append, List.replicate_succ, List.replicate_zero, List.getElem?_cons_zero, List.getElem?_cons_succ, List.set_cons_zero, List.set_cons_succ, Option.join_some, Option.join_none, Option.map_some, Option.map_none, Option.bind_some, Option.bind_none, Nat.reduceAdd, Nat.reduceSub, Nat.zero_add, if_true, if_false, ite_true, ite_false, reduceIte, Bool.false_eq_true, Bool.true_eq_false, eq_self_iff_true, Bool.not_true, Bool.not_false]
      · have h10 : isND false rest = some (.bl false) := by cases rest <;> first | rfl | exact absurd rfl hz
        have hi := ihr hz (deep + 1) (k + 1) (by omega)
        rw [show k + 1 + 3 * n + 4 = k + 3 * (n + 1) + 2 from by omega] at hi
        simp only [b_is_table_shape, ix1, ix2, h6, h7, h8, h9, h10, add1, hi, all_true, fnD, startD, endK, sRet, sRetN, sSeq, seqK, sIf, sAsg, sDrop, sNil, liftX, tgN, sFor, sOwn1, sOwn2, optK, putK2, sAsgO, sRetO, isRT, dAnd, dOr, dIf, bnd_e, dOp, dUn, dAll, dCons, dNil, ret_ap, dVar, getS, lift_e, lift_n, dC, dTst, isBl, dCall, up, tAndD, tOrD, tNotD, dItems, itemsD, dRange, dMt, dLc, rowD, tupD, truD, notD, tyIs, List.map_cons, List.map_nil, List.length_cons, List.length_nil, List.cons_append, List.nil_append, List.replicate_succ, List.replicate_zero, List.getElem?_cons_zero, List.getElem?_cons_succ, List.set_cons_zero, List.set_cons_succ, Option.join_some, Option.join_none, Option.map_some, Option.map_none, Option.bind_some, Option.bind_none, Nat.reduceAdd, Nat.reduceSub, Nat.zero_add, if_true, if_false, ite_true, ite_false, reduceIte, Bool.false_eq_true, Bool.true_eq_false, eq_self_iff_true, Bool.not_true, Bool.not_false]
    simp only [b_is_shape, len3, ix0, hg, ht, fnD, startD, endK, sRet, sRetN, sSeq, seqK, sIf, sAsg, sDrop, sNil, liftX, tgN, sFor, sOwn1, sOwn2, optK, putK2, sAsgO, sRetO, isRT, dAnd, dOr, dIf, bnd_e, dOp, dUn, dAll, dCons, dNil, ret_ap, dVar, getS, lift_e, lift_n, dC, dTst, isBl, dCall, up, tAndD, tOrD, tNotD, dItems, itemsD, dRange, dMt, dLc, rowD, tupD, truD, notD, tyIs, List.map_cons, List.map_nil, List.length_cons, List.length_nil, List.cons_append, List.nil_append, List.replicate_succ, List.replicate_zero, List.getElem?_cons_zero, List.getElem?_cons_succ, List.set_cons_zero, List.set_cons_succ, Option.join_some, Option.join_none, Option.map_some, Option.map_none, Option.bind_some, Option.bind_none, Nat.reduceAdd, Nat.reduceSub, Nat.zero_add, if_true, if_false, ite_true, ite_false, reduceIte, Bool.false_eq_true, Bool.true_eq_false, eq_self_iff_true, eq_any_any, eq_any_none, eq_any_truth, eq_any_number, eq_any_word, eq_any_row, eq_any_table, eq_any_or, eq_none_any, eq_none_none, eq_none_truth, eq_none_number, eq_none_word, eq_none_row, eq_none_table, eq_none_or, eq_truth_any, eq_truth_none, eq_truth_truth, eq_truth_number, eq_truth_word, eq_truth_row, eq_truth_table, eq_truth_or, eq_number_any, eq_number_none, eq_number_truth, eq_number_number, eq_number_word, eq_number_row, eq_number_table, eq_number_or, eq_word_any, eq_word_none, eq_word_truth, eq_word_number, eq_word_word, eq_word_row, eq_word_table, eq_word_or, eq_row_any, eq_row_none, eq_row_truth, eq_row_number, eq_row_word, eq_row_row, eq_row_table, eq_row_or, eq_table_any, eq_table_none, eq_table_truth, eq_table_number, eq_table_word, eq_table_row, eq_table_table, eq_table_or, eq_or_any, eq_or_none, eq_or_truth, eq_or_number, eq_or_word, eq_or_row, eq_or_table, eq_or_or, ne_any_any, ne_any_none, ne_any_truth, ne_any_number, ne_any_word, ne_any_row, ne_any_table, ne_any_or, ne_none_any, ne_none_none, ne_none_truth, ne_none_number, ne_none_word, ne_none_row, ne_none_table, ne_none_or, ne_truth_any, ne_truth_none, ne_truth_truth, ne_truth_number, ne_truth_word, ne_truth_row, ne_truth_table, ne_truth_or, ne_number_any, ne_number_none, ne_number_truth, ne_number_number, ne_number_word, ne_number_row, ne_number_table, ne_number_or, ne_word_any, ne_word_none, ne_word_truth, ne_word_number, ne_word_word, ne_word_row, ne_word_table, ne_word_or, ne_row_any, ne_row_none, ne_row_truth, ne_row_number, ne_row_word, ne_row_row, ne_row_table, ne_row_or, ne_table_any, ne_table_none, ne_table_truth, ne_table_number, ne_table_word, ne_table_row, ne_table_table, ne_table_or, ne_or_any, ne_or_none, ne_or_truth, ne_or_number, ne_or_word, ne_or_row, ne_or_table, ne_or_or, sz_any, sz_none, sz_truth, sz_number, sz_word, sz_row, sz_table, sz_or, nei_1, nei_2, nei_3, nei_4, tru_t, List.isEmpty_cons, Bool.not_false, Bool.not_true]
end Nw
set_option Elab.async false
set_option linter.all false
set_option maxRecDepth 100000
set_option maxHeartbeats 4000000
namespace Nw
open PySem PySem.Spec L2
/-! ### fitting -/
def kw : D → Str
  | .non => "none" | .bl _ => "truth" | .int _ => "number" | .str _ => "word" | .row _ => "row" | _ => "table"
def KDS : D := .row [.str "none", .str "truth", .str "number", .str "word", .str "row", .str "table"]
theorem th_kinds {m : Nat} {t : D} (h : ThD m t) : t = .non ∨ (∃ b, t = .bl b) ∨ (∃ i, t = .int i) ∨ (∃ x, t = .str x) ∨ (∃ xs, t = .row xs) ∨ (∃ kvs, t = .tab kvs) := by
  cases t with
  | non => exact .inl rfl
  | bl b => exact .inr (.inl ⟨b, rfl⟩)
  | int b => exact .inr (.inr (.inl ⟨b, rfl⟩))
  | str b => exact .inr (.inr (.inr (.inl ⟨b, rfl⟩)))
  | row b => exact .inr (.inr (.inr (.inr (.inl ⟨b, rfl⟩))))
  | tab b => exact .inr (.inr (.inr (.inr (.inr ⟨b, rfl⟩))))
  | _ => cases m <;> exact h.elim
theorem kind_kw {m : Nat} {t : D} (h : ThD m t) (k : Nat) : (den (k + 1)).kind_of [t] () = .ok (.str (kw t)) () := by
  rcases th_kinds h with rfl | ⟨b, rfl⟩ | ⟨b, rfl⟩ | ⟨b, rfl⟩ | ⟨b, rfl⟩ | ⟨b, rfl⟩
  · exact kind_non k
  · exact kind_bl k b
  · exact kind_int k b
  · exact kind_str k b
  · exact kind_row k b
  · exact kind_tab k b
theorem lkind_kw {m : Nat} {t : D} (h : ThD m t) : ∃ i : Int, (∀ k, (den (k + 1))._law_kind [t] () = .ok (.int i) ()) ∧ ixD KDS (.int i) = some (.str (kw t)) := by
  rcases th_kinds h with rfl | ⟨b, rfl⟩ | ⟨b, rfl⟩ | ⟨b, rfl⟩ | ⟨b, rfl⟩ | ⟨b, rfl⟩
  · exact ⟨0, fun k => lkind_non k, by kernel_rfl⟩
  · exact ⟨1, fun k => lkind_bl k b, by kernel_rfl⟩
  · exact ⟨2, fun k => lkind_int k b, by kernel_rfl⟩
  · exact ⟨3, fun k => lkind_str k b, by kernel_rfl⟩
  · exact ⟨4, fun k => lkind_row k b, by kernel_rfl⟩
  · exact ⟨5, fun k => lkind_tab k b, by kernel_rfl⟩
theorem ne_kw {t : D} {w : Str} (h : kw t ≠ w) : neD (.str (kw t)) (.str w) = some (.bl true) := by rw [neD_str, decide_eq_false h]; rfl
theorem same_kw {t : D} {w : Str} (h : kw t = w) : neD (.str (kw t)) (.str w) = some (.bl false) := by rw [neD_str, decide_eq_true h]; rfl
/-- both looks agree -/
def Agree (d t : D) (n : Nat) : Prop := ∃ b : Bool, (∀ k, (den (k + 2 * n + 3)).is_fit [d, t] () = .ok (.bl b) ()) ∧ (∀ k, (den (k + 2 * n + 3))._law_fits [d, t] () = .ok (.bl b) ())
abbrev fitB (d t : D) (n : Nat) (b : Bool) : Prop := (∀ k, (den (k + 2 * n + 3)).is_fit [d, t] () = .ok (.bl b) ()) ∧ (∀ k, (den (k + 2 * n + 3))._law_fits [d, t] () = .ok (.bl b) ())
theorem six : (6 : Nat) ≤ sizeLine := by decide
theorem miss_none {m : Nat} {t : D} (h : ThD m t) (hk : kw t ≠ "none") (n : Nat) : fitB (.tup [.str "none"]) t n false := by
  obtain ⟨i, hi1, hi2⟩ := lkind_kw h
  have hi3 : ixD (.row [.str "none", .str "truth", .str "number", .str "word", .str "row", .str "table"]) (.int i) = some (.str (kw t)) := hi2
  have hne := ne_kw hk
  refine ⟨fun k => ?_, fun k => ?_⟩
  · show fnD 4 (b_is_fit (den (k + 2 * n + 2))) [_, t] () = _
    simp only [b_is_fit, ix0, kind_kw h, hne, fnD, startD, endK, sRet, sRetN, sSeq, seqK, sIf, sAsg, sDrop, sNil, liftX, tgN, sFor, sOwn1, sOwn2, optK, putK2, sAsgO, sRetO, isRT, dAnd, dOr, dIf, bnd_e, dOp, dUn, dAll, dCons, dNil, ret_ap, dVar, getS, lift_e, lift_n, dC, dTst, isBl, dCall, up, tAndD, tOrD, tNotD, dItems, itemsD, dRange, dMt, dLc, rowD, tupD, truD, notD, tyIs, List.map_cons, List.map_nil, List.length_cons, List.length_nil, List.cons_append, List.nil_append, List.replicate_succ, List.replicate_zero, List.getElem?_cons_zero, List.getElem?_cons_succ, List.set_cons_zero, List.set_cons_succ, Option.join_some, Option.join_none, Option.map_some, Option.map_none, Option.bind_some, Option.bind_none, Nat.reduceAdd, Nat.reduceSub, Nat.zero_add, if_true, if_false, ite_true, ite_false, reduceIte, Bool.false_eq_true, Bool.true_eq_false, eq_self_iff_true, eq_any_any, eq_any_none, eq_any_truth, eq_any_number, eq_any_word, eq_any_row, eq_any_table, eq_any_or, eq_none_any, eq_none_none, eq_none_truth, eq_none_number, eq_none_word, eq_none_row, eq_none_table, eq_none_or, eq_truth_any, eq_truth_none, eq_truth_truth, eq_truth_number, eq_truth_word, eq_truth_row, eq_truth_table, eq_truth_or, eq_number_any, eq_number_none, eq_number_truth, eq_number_number, eq_number_word, eq_number_row, eq_number_table, eq_number_or, eq_word_any, eq_word_none, eq_word_truth, eq_word_number, eq_word_word, eq_word_row, eq_word_table, eq_word_or, eq_row_any, eq_row_none, eq_row_truth, eq_row_number, eq_row_word, eq_row_row, eq_row_table, eq_row_or, eq_table_any, eq_table_none, eq_table_truth, eq_table_number, eq_table_word, eq_table_row, eq_table_table, eq_table_or, eq_or_any, eq_or_none, eq_or_truth, eq_or_number, eq_or_word, eq_or_row, eq_or_table, eq_or_or, ne_any_any, ne_any_none, ne_any_truth, ne_any_number, ne_any_word, ne_any_row, ne_any_table, ne_any_or, ne_none_any, ne_none_none, ne_none_truth, ne_none_number, ne_none_word, ne_none_row, ne_none_table, ne_none_or, ne_truth_any, ne_truth_none, ne_truth_truth, ne_truth_number, ne_truth_word, ne_truth_row, ne_truth_table, ne_truth_or, ne_number_any, ne_number_none, ne_number_truth, ne_number_number, ne_number_word, ne_number_row, ne_number_table, ne_number_or, ne_word_any, ne_word_none, ne_word_truth, ne_word_number, ne_word_word, ne_word_row, ne_word_table, ne_word_or, ne_row_any, ne_row_none, ne_row_truth, ne_row_number, ne_row_word, ne_row_row, ne_row_table, ne_row_or, ne_table_any, ne_table_none, ne_table_truth, ne_table_number, ne_table_word, ne_table_row, ne_table_table, ne_table_or, ne_or_any, ne_or_none, ne_or_truth, ne_or_number, ne_or_word, ne_or_row, ne_or_table, ne_or_or, sz_any, sz_none, sz_truth, sz_number, sz_word, sz_row, sz_table, sz_or, nei_1, nei_2, nei_3, nei_4]
  · show fnD 8 (b__law_fits (den (k + 2 * n + 2))) [_, t] () = _
    simp only [b__law_fits, ix0, hi1, hi3, hne, six, fnD, startD, endK, sRet, sRetN, sSeq, seqK, sIf, sAsg, sDrop, sNil, liftX, tgN, sFor, sOwn1, sOwn2, optK, putK2, sAsgO, sRetO, isRT, dAnd, dOr, dIf, bnd_e, dOp, dUn, dAll, dCons, dNil, ret_ap, dVar, getS, lift_e, lift_n, dC, dTst, isBl, dCall, up, tAndD, tOrD, tNotD, dItems, itemsD, dRange, dMt, dLc, rowD, tupD, truD, notD, tyIs, List.map_cons, List.map_nil, List.length_cons, List.length_nil, List.cons_append, List.nil_append, List.replicate_succ, List.replicate_zero, List.getElem?_cons_zero, List.getElem?_cons_succ, List.set_cons_zero, List.set_cons_succ, Option.join_some, Option.join_none, Option.map_some, Option.map_none, Option.bind_some, Option.bind_none, Nat.reduceAdd, Nat.reduceSub, Nat.zero_add, if_true, if_false, ite_true, ite_false, reduceIte, Bool.false_eq_true, Bool.true_eq_false, eq_self_iff_true, eq_any_any, eq_any_none, eq_any_truth, eq_any_number, eq_any_word, eq_any_row, eq_any_table, eq_any_or, eq_none_any, eq_none_none, eq_none_truth, eq_none_number, eq_none_word, eq_none_row, eq_none_table, eq_none_or, eq_truth_any, eq_truth_none, eq_truth_truth, eq_truth_number, eq_truth_word, eq_truth_row, eq_truth_table, eq_truth_or, eq_number_any, eq_number_none, eq_number_truth, eq_number_number, eq_number_word, eq_number_row, eq_number_table, eq_number_or, eq_word_any, eq_word_none, eq_word_truth, eq_word_number, eq_word_word, eq_word_row, eq_word_table, eq_word_or, eq_row_any, eq_row_none, eq_row_truth, eq_row_number, eq_row_word, eq_row_row, eq_row_table, eq_row_or, eq_table_any, eq_table_none, eq_table_truth, eq_table_number, eq_table_word, eq_table_row, eq_table_table, eq_table_or, eq_or_any, eq_or_none, eq_or_truth, eq_or_number, eq_or_word, eq_or_row, eq_or_table, eq_or_or, ne_any_any, ne_any_none, ne_any_truth, ne_any_number, ne_any_word, ne_any_row, ne_any_table, ne_any_or, ne_none_any, ne_none_none, ne_none_truth, ne_none_number, ne_none_word, ne_none_row, ne_none_table, ne_none_or, ne_truth_any, ne_truth_none, ne_truth_truth, ne_truth_number, ne_truth_word, ne_truth_row, ne_truth_table, ne_truth_or, ne_number_any, ne_number_none, ne_number_truth, ne_number_number, ne_number_word, ne_number_row, ne_number_table, ne_number_or, ne_word_any, ne_word_none, ne_word_truth, ne_word_number, ne_word_word, ne_word_row, ne_word_table, ne_word_or, ne_row_any, ne_row_none, ne_row_truth, ne_row_number, ne_row_word, ne_row_row, ne_row_table, ne_row_or, ne_table_any, ne_table_none, ne_table_truth, ne_table_number, ne_table_word, ne_table_row, ne_table_table, ne_table_or, ne_or_any, ne_or_none, ne_or_truth, ne_or_number, ne_or_word, ne_or_row, ne_or_table, ne_or_or, sz_any, sz_none, sz_truth, sz_number, sz_word, sz_row, sz_table, sz_or, nei_1, nei_2, nei_3, nei_4]
theorem miss_truth {m : Nat} {t : D} (h : ThD m t) (hk : kw t ≠ "truth") (n : Nat) : fitB (.tup [.str "truth"]) t n false := by
  obtain ⟨i, hi1, hi2⟩ := lkind_kw h
  have hi3 : ixD (.row [.str "none", .str "truth", .str "number", .str "word", .str "row", .str "table"]) (.int i) = some (.str (kw t)) := hi2
  have hne := ne_kw hk
  refine ⟨fun k => ?_, fun k => ?_⟩
  · show fnD 4 (b_is_fit (den (k + 2 * n + 2))) [_, t] () = _
    simp only [b_is_fit, ix0, kind_kw h, hne, fnD, startD, endK, sRet, sRetN, sSeq, seqK, sIf, sAsg, sDrop, sNil, liftX, tgN, sFor, sOwn1, sOwn2, optK, putK2, sAsgO, sRetO, isRT, dAnd, dOr, dIf, bnd_e, dOp, dUn, dAll, dCons, dNil, ret_ap, dVar, getS, lift_e, lift_n, dC, dTst, isBl, dCall, up, tAndD, tOrD, tNotD, dItems, itemsD, dRange, dMt, dLc, rowD, tupD, truD, notD, tyIs, List.map_cons, List.map_nil, List.length_cons, List.length_nil, List.cons_append, List.nil_append, List.replicate_succ, List.replicate_zero, List.getElem?_cons_zero, List.getElem?_cons_succ, List.set_cons_zero, List.set_cons_succ, Option.join_some, Option.join_none, Option.map_some, Option.map_none, Option.bind_some, Option.bind_none, Nat.reduceAdd, Nat.reduceSub, Nat.zero_add, if_true, if_false, ite_true, ite_false, reduceIte, Bool.false_eq_true, Bool.true_eq_false, eq_self_iff_true, eq_any_any, eq_any_none, eq_any_truth, eq_any_number, eq_any_word, eq_any_row, eq_any_table, eq_any_or, eq_none_any, eq_none_none, eq_none_truth, eq_none_number, eq_none_word, eq_none_row, eq_none_table, eq_none_or, eq_truth_any, eq_truth_none, eq_truth_truth, eq_truth_number, eq_truth_word, eq_truth_row, eq_truth_table, eq_truth_or, eq_number_any, eq_number_none, eq_number_truth, eq_number_number, eq_number_word, eq_number_row, eq_number_table, eq_number_or, eq_word_any, eq_word_none, eq_word_truth, eq_word_number, eq_word_word, eq_word_row, eq_word_table, eq_word_or, eq_row_any, eq_row_none, eq_row_truth, eq_row_number, eq_row_word, eq_row_row, eq_row_table, eq_row_or, eq_table_any, eq_table_none, eq_table_truth, eq_table_number, eq_table_word, eq_table_row, eq_table_table, eq_table_or, eq_or_any, eq_or_none, eq_or_truth, eq_or_number, eq_or_word, eq_or_row, eq_or_table, eq_or_or, ne_any_any, ne_any_none, ne_any_truth, ne_any_number, ne_any_word, ne_any_row, ne_any_table, ne_any_or, ne_none_any, ne_none_none, ne_none_truth, ne_none_number, ne_none_word, ne_none_row, ne_none_table, ne_none_or, ne_truth_any, ne_truth_none, ne_truth_truth, ne_truth_number, ne_truth_word, ne_truth_row, ne_truth_table, ne_truth_or, ne_number_any, ne_number_none, ne_number_truth, ne_number_number, ne_number_word, ne_number_row, ne_number_table, ne_number_or, ne_word_any, ne_word_none, ne_word_truth, ne_word_number, ne_word_word, ne_word_row, ne_word_table, ne_word_or, ne_row_any, ne_row_none, ne_row_truth, ne_row_number, ne_row_word, ne_row_row, ne_row_table, ne_row_or, ne_table_any, ne_table_none, ne_table_truth, ne_table_number, ne_table_word, ne_table_row, ne_table_table, ne_table_or, ne_or_any, ne_or_none, ne_or_truth, ne_or_number, ne_or_word, ne_or_row, ne_or_table, ne_or_or, sz_any, sz_none, sz_truth, sz_number, sz_word, sz_row, sz_table, sz_or, nei_1, nei_2, nei_3, nei_4]
  · show fnD 8 (b__law_fits (den (k + 2 * n + 2))) [_, t] () = _
    simp only [b__law_fits, ix0, hi1, hi3, hne, six, fnD, startD, endK, sRet, sRetN, sSeq, seqK, sIf, sAsg, sDrop, sNil, liftX, tgN, sFor, sOwn1, sOwn2, optK, putK2, sAsgO, sRetO, isRT, dAnd, dOr, dIf, bnd_e, dOp, dUn, dAll, dCons, dNil, ret_ap, dVar, getS, lift_e, lift_n, dC, dTst, isBl, dCall, up, tAndD, tOrD, tNotD, dItems, itemsD, dRange, dMt, dLc, rowD, tupD, truD, notD, tyIs, List.map_cons, List.map_nil, List.length_cons, List.length_nil, List.cons_append, List.nil_append, List.replicate_succ, List.replicate_zero, List.getElem?_cons_zero, List.getElem?_cons_succ, List.set_cons_zero, List.set_cons_succ, Option.join_some, Option.join_none, Option.map_some, Option.map_none, Option.bind_some, Option.bind_none, Nat.reduceAdd, Nat.reduceSub, Nat.zero_add, if_true, if_false, ite_true, ite_false, reduceIte, Bool.false_eq_true, Bool.true_eq_false, eq_self_iff_true, eq_any_any, eq_any_none, eq_any_truth, eq_any_number, eq_any_word, eq_any_row, eq_any_table, eq_any_or, eq_none_any, eq_none_none, eq_none_truth, eq_none_number, eq_none_word, eq_none_row, eq_none_table, eq_none_or, eq_truth_any, eq_truth_none, eq_truth_truth, eq_truth_number, eq_truth_word, eq_truth_row, eq_truth_table, eq_truth_or, eq_number_any, eq_number_none, eq_number_truth, eq_number_number, eq_number_word, eq_number_row, eq_number_table, eq_number_or, eq_word_any, eq_word_none, eq_word_truth, eq_word_number, eq_word_word, eq_word_row, eq_word_table, eq_word_or, eq_row_any, eq_row_none, eq_row_truth, eq_row_number, eq_row_word, eq_row_row, eq_row_table, eq_row_or, eq_table_any, eq_table_none, eq_table_truth, eq_table_number, eq_table_word, eq_table_row, eq_table_table, eq_table_or, eq_or_any, eq_or_none, eq_or_truth, eq_or_number, eq_or_word, eq_or_row, eq_or_table, eq_or_or, ne_any_any, ne_any_none, ne_any_truth, ne_any_number, ne_any_word, ne_any_row, ne_any_table, ne_any_or, ne_none_any, ne_none_none, ne_none_truth, ne_none_number, ne_none_word, ne_none_row, ne_none_table, ne_none_or, ne_truth_any, ne_truth_none, ne_truth_truth, ne_truth_number, ne_truth_word, ne_truth_row, ne_truth_table, ne_truth_or, ne_number_any, ne_number_none, ne_number_truth, ne_number_number, ne_number_word, ne_number_row, ne_number_table, ne_number_or, ne_word_any, ne_word_none, ne_word_truth, ne_word_number, ne_word_word, ne_word_row, ne_word_table, ne_word_or, ne_row_any, ne_row_none, ne_row_truth, ne_row_number, ne_row_word, ne_row_row, ne_row_table, ne_row_or, ne_table_any, ne_table_none, ne_table_truth, ne_table_number, ne_table_word, ne_table_row, ne_table_table, ne_table_or, ne_or_any, ne_or_none, ne_or_truth, ne_or_number, ne_or_word, ne_or_row, ne_or_table, ne_or_or, sz_any, sz_none, sz_truth, sz_number, sz_word, sz_row, sz_table, sz_or, nei_1, nei_2, nei_3, nei_4]
theorem miss_number (a b : Int) {m : Nat} {t : D} (h : ThD m t) (hk : kw t ≠ "number") (n : Nat) : fitB (.tup [.str "number", .int a, .int b]) t n false := by
  obtain ⟨i, hi1, hi2⟩ := lkind_kw h
  have hi3 : ixD (.row [.str "none", .str "truth", .str "number", .str "word", .str "row", .str "table"]) (.int i) = some (.str (kw t)) := hi2
  have hne := ne_kw hk
  refine ⟨fun k => ?_, fun k => ?_⟩
  · show fnD 4 (b_is_fit (den (k + 2 * n + 2))) [_, t] () = _
    simp only [b_is_fit, ix0, kind_kw h, hne, fnD, startD, endK, sRet, sRetN, sSeq, seqK, sIf, sAsg, sDrop, sNil, liftX, tgN, sFor, sOwn1, sOwn2, optK, putK2, sAsgO, sRetO, isRT, dAnd, dOr, dIf, bnd_e, dOp, dUn, dAll, dCons, dNil, ret_ap, dVar, getS, lift_e, lift_n, dC, dTst, isBl, dCall, up, tAndD, tOrD, tNotD, dItems, itemsD, dRange, dMt, dLc, rowD, tupD, truD, notD, tyIs, List.map_cons, List.map_nil, List.length_cons, List.length_nil, List.cons_append, List.nil_append, List.replicate_succ, List.replicate_zero, List.getElem?_cons_zero, List.getElem?_cons_succ, List.set_cons_zero, List.set_cons_succ, Option.join_some, Option.join_none, Option.map_some, Option.map_none, Option.bind_some, Option.bind_none, Nat.reduceAdd, Nat.reduceSub, Nat.zero_add, if_true, if_false, ite_true, ite_false, reduceIte, Bool.false_eq_true, Bool.true_eq_false, eq_self_iff_true, eq_any_any, eq_any_none, eq_any_truth, eq_any_number, eq_any_word, eq_any_row, eq_any_table, eq_any_or, eq_none_any, eq_none_none, eq_none_truth, eq_none_number, eq_none_word, eq_none_row, eq_none_table, eq_none_or, eq_truth_any, eq_truth_none, eq_truth_truth, eq_truth_number, eq_truth_word, eq_truth_row, eq_truth_table, eq_truth_or, eq_number_any, eq_number_none, eq_number_truth, eq_number_number, eq_number_word, eq_number_row, eq_number_table, eq_number_or, eq_word_any, eq_word_none, eq_word_truth, eq_word_number, eq_word_word, eq_word_row, eq_word_table, eq_word_or, eq_row_any, eq_row_none, eq_row_truth, eq_row_number, eq_row_word, eq_row_row, eq_row_table, eq_row_or, eq_table_any, eq_table_none, eq_table_truth, eq_table_number, eq_table_word, eq_table_row, eq_table_table, eq_table_or, eq_or_any, eq_or_none, eq_or_truth, eq_or_number, eq_or_word, eq_or_row, eq_or_table, eq_or_or, ne_any_any, ne_any_none, ne_any_truth, ne_any_number, ne_any_word, ne_any_row, ne_any_table, ne_any_or, ne_none_any, ne_none_none, ne_none_truth, ne_none_number, ne_none_word, ne_none_row, ne_none_table, ne_none_or, ne_truth_any, ne_truth_none, ne_truth_truth, ne_truth_number, ne_truth_word, ne_truth_row, ne_truth_table, ne_truth_or, ne_number_any, ne_number_none, ne_number_truth, ne_number_number, ne_number_word, ne_number_row, ne_number_table, ne_number_or, ne_word_any, ne_word_none, ne_word_truth, ne_word_number, ne_word_word, ne_word_row, ne_word_table, ne_word_or, ne_row_any, ne_row_none, ne_row_truth, ne_row_number, ne_row_word, ne_row_row, ne_row_table, ne_row_or, ne_table_any, ne_table_none, ne_table_truth, ne_table_number, ne_table_word, ne_table_row, ne_table_table, ne_table_or, ne_or_any, ne_or_none, ne_or_truth, ne_or_number, ne_or_word, ne_or_row, ne_or_table, ne_or_or, sz_any, sz_none, sz_truth, sz_number, sz_word, sz_row, sz_table, sz_or, nei_1, nei_2, nei_3, nei_4]
  · show fnD 8 (b__law_fits (den (k + 2 * n + 2))) [_, t] () = _
    simp only [b__law_fits, ix0, hi1, hi3, hne, six, fnD, startD, endK, sRet, sRetN, sSeq, seqK, sIf, sAsg, sDrop, sNil, liftX, tgN, sFor, sOwn1, sOwn2, optK, putK2, sAsgO, sRetO, isRT, dAnd, dOr, dIf, bnd_e, dOp, dUn, dAll, dCons, dNil, ret_ap, dVar, getS, lift_e, lift_n, dC, dTst, isBl, dCall, up, tAndD, tOrD, tNotD, dItems, itemsD, dRange, dMt, dLc, rowD, tupD, truD, notD, tyIs, List.map_cons, List.map_nil, List.length_cons, List.length_nil, List.cons_append, List.nil_append, List.replicate_succ, List.replicate_zero, List.getElem?_cons_zero, List.getElem?_cons_succ, List.set_cons_zero, List.set_cons_succ, Option.join_some, Option.join_none, Option.map_some, Option.map_none, Option.bind_some, Option.bind_none, Nat.reduceAdd, Nat.reduceSub, Nat.zero_add, if_true, if_false, ite_true, ite_false, reduceIte, Bool.false_eq_true, Bool.true_eq_false, eq_self_iff_true, eq_any_any, eq_any_none, eq_any_truth, eq_any_number, eq_any_word, eq_any_row, eq_any_table, eq_any_or, eq_none_any, eq_none_none, eq_none_truth, eq_none_number, eq_none_word, eq_none_row, eq_none_table, eq_none_or, eq_truth_any, eq_truth_none, eq_truth_truth, eq_truth_number, eq_truth_word, eq_truth_row, eq_truth_table, eq_truth_or, eq_number_any, eq_number_none, eq_number_truth, eq_number_number, eq_number_word, eq_number_row, eq_number_table, eq_number_or, eq_word_any, eq_word_none, eq_word_truth, eq_word_number, eq_word_word, eq_word_row, eq_word_table, eq_word_or, eq_row_any, eq_row_none, eq_row_truth, eq_row_number, eq_row_word, eq_row_row, eq_row_table, eq_row_or, eq_table_any, eq_table_none, eq_table_truth, eq_table_number, eq_table_word, eq_table_row, eq_table_table, eq_table_or, eq_or_any, eq_or_none, eq_or_truth, eq_or_number, eq_or_word, eq_or_row, eq_or_table, eq_or_or, ne_any_any, ne_any_none, ne_any_truth, ne_any_number, ne_any_word, ne_any_row, ne_any_table, ne_any_or, ne_none_any, ne_none_none, ne_none_truth, ne_none_number, ne_none_word, ne_none_row, ne_none_table, ne_none_or, ne_truth_any, ne_truth_none, ne_truth_truth, ne_truth_number, ne_truth_word, ne_truth_row, ne_truth_table, ne_truth_or, ne_number_any, ne_number_none, ne_number_truth, ne_number_number, ne_number_word, ne_number_row, ne_number_table, ne_number_or, ne_word_any, ne_word_none, ne_word_truth, ne_word_number, ne_word_word, ne_word_row, ne_word_table, ne_word_or, ne_row_any, ne_row_none, ne_row_truth, ne_row_number, ne_row_word, ne_row_row, ne_row_table, ne_row_or, ne_table_any, ne_table_none, ne_table_truth, ne_table_number, ne_table_word, ne_table_row, ne_table_table, ne_table_or, ne_or_any, ne_or_none, ne_or_truth, ne_or_number, ne_or_word, ne_or_row, ne_or_table, ne_or_or, sz_any, sz_none, sz_truth, sz_number, sz_word, sz_row, sz_table, sz_or, nei_1, nei_2, nei_3, nei_4]
theorem miss_word (a : Int) {m : Nat} {t : D} (h : ThD m t) (hk : kw t ≠ "word") (n : Nat) : fitB (.tup [.str "word", .int a]) t n false := by
  obtain ⟨i, hi1, hi2⟩ := lkind_kw h
  have hi3 : ixD (.row [.str "none", .str "truth", .str "number", .str "word", .str "row", .str "table"]) (.int i) = some (.str (kw t)) := hi2
  have hne := ne_kw hk
  refine ⟨fun k => ?_, fun k => ?_⟩
  · show fnD 4 (b_is_fit (den (k + 2 * n + 2))) [_, t] () = _
    simp only [b_is_fit, ix0, kind_kw h, hne, fnD, startD, endK, sRet, sRetN, sSeq, seqK, sIf, sAsg, sDrop, sNil, liftX, tgN, sFor, sOwn1, sOwn2, optK, putK2, sAsgO, sRetO, isRT, dAnd, dOr, dIf, bnd_e, dOp, dUn, dAll, dCons, dNil, ret_ap, dVar, getS, lift_e, lift_n, dC, dTst, isBl, dCall, up, tAndD, tOrD, tNotD, dItems, itemsD, dRange, dMt, dLc, rowD, tupD, truD, notD, tyIs, List.map_cons, List.map_nil, List.length_cons, List.length_nil, List.cons_append, List.nil_append, List.replicate_succ, List.replicate_zero, List.getElem?_cons_zero, List.getElem?_cons_succ, List.set_cons_zero, List.set_cons_succ, Option.join_some, Option.join_none, Option.map_some, Option.map_none, Option.bind_some, Option.bind_none, Nat.reduceAdd, Nat.reduceSub, Nat.zero_add, if_true, if_false, ite_true, ite_false, reduceIte, Bool.false_eq_true, Bool.true_eq_false, eq_self_iff_true, eq_any_any, eq_any_none, eq_any_truth, eq_any_number, eq_any_word, eq_any_row, eq_any_table, eq_any_or, eq_none_any, eq_none_none, eq_none_truth, eq_none_number, eq_none_word, eq_none_row, eq_none_table, eq_none_or, eq_truth_any, eq_truth_none, eq_truth_truth, eq_truth_number, eq_truth_word, eq_truth_row, eq_truth_table, eq_truth_or, eq_number_any, eq_number_none, eq_number_truth, eq_number_number, eq_number_word, eq_number_row, eq_number_table, eq_number_or, eq_word_any, eq_word_none, eq_word_truth, eq_word_number, eq_word_word, eq_word_row, eq_word_table, eq_word_or, eq_row_any, eq_row_none, eq_row_truth, eq_row_number, eq_row_word, eq_row_row, eq_row_table, eq_row_or, eq_table_any, eq_table_none, eq_table_truth, eq_table_number, eq_table_word, eq_table_row, eq_table_table, eq_table_or, eq_or_any, eq_or_none, eq_or_truth, eq_or_number, eq_or_word, eq_or_row, eq_or_table, eq_or_or, ne_any_any, ne_any_none, ne_any_truth, ne_any_number, ne_any_word, ne_any_row, ne_any_table, ne_any_or, ne_none_any, ne_none_none, ne_none_truth, ne_none_number, ne_none_word, ne_none_row, ne_none_table, ne_none_or, ne_truth_any, ne_truth_none, ne_truth_truth, ne_truth_number, ne_truth_word, ne_truth_row, ne_truth_table, ne_truth_or, ne_number_any, ne_number_none, ne_number_truth, ne_number_number, ne_number_word, ne_number_row, ne_number_table, ne_number_or, ne_word_any, ne_word_none, ne_word_truth, ne_word_number, ne_word_word, ne_word_row, ne_word_table, ne_word_or, ne_row_any, ne_row_none, ne_row_truth, ne_row_number, ne_row_word, ne_row_row, ne_row_table, ne_row_or, ne_table_any, ne_table_none, ne_table_truth, ne_table_number, ne_table_word, ne_table_row, ne_table_table, ne_table_or, ne_or_any, ne_or_none, ne_or_truth, ne_or_number, ne_or_word, ne_or_row, ne_or_table, ne_or_or, sz_any, sz_none, sz_truth, sz_number, sz_word, sz_row, sz_table, sz_or, nei_1, nei_2, nei_3, nei_4]
  · show fnD 8 (b__law_fits (den (k + 2 * n + 2))) [_, t] () = _
    simp only [b__law_fits, ix0, hi1, hi3, hne, six, fnD, startD, endK, sRet, sRetN, sSeq, seqK, sIf, sAsg, sDrop, sNil, liftX, tgN, sFor, sOwn1, sOwn2, optK, putK2, sAsgO, sRetO, isRT, dAnd, dOr, dIf, bnd_e, dOp, dUn, dAll, dCons, dNil, ret_ap, dVar, getS, lift_e, lift_n, dC, dTst, isBl, dCall, up, tAndD, tOrD, tNotD, dItems, itemsD, dRange, dMt, dLc, rowD, tupD, truD, notD, tyIs, List.map_cons, List.map_nil, List.length_cons, List.length_nil, List.cons_append, List.nil_append, List.replicate_succ, List.replicate_zero, List.getElem?_cons_zero, List.getElem?_cons_succ, List.set_cons_zero, List.set_cons_succ, Option.join_some, Option.join_none, Option.map_some, Option.map_none, Option.bind_some, Option.bind_none, Nat.reduceAdd, Nat.reduceSub, Nat.zero_add, if_true, if_false, ite_true, ite_false, reduceIte, Bool.false_eq_true, Bool.true_eq_false, eq_self_iff_true, eq_any_any, eq_any_none, eq_any_truth, eq_any_number, eq_any_word, eq_any_row, eq_any_table, eq_any_or, eq_none_any, eq_none_none, eq_none_truth, eq_none_number, eq_none_word, eq_none_row, eq_none_table, eq_none_or, eq_truth_any, eq_truth_none, eq_truth_truth, eq_truth_number, eq_truth_word, eq_truth_row, eq_truth_table, eq_truth_or, eq_number_any, eq_number_none, eq_number_truth, eq_number_number, eq_number_word, eq_number_row, eq_number_table, eq_number_or, eq_word_any, eq_word_none, eq_word_truth, eq_word_number, eq_word_word, eq_word_row, eq_word_table, eq_word_or, eq_row_any, eq_row_none, eq_row_truth, eq_row_number, eq_row_word, eq_row_row, eq_row_table, eq_row_or, eq_table_any, eq_table_none, eq_table_truth, eq_table_number, eq_table_word, eq_table_row, eq_table_table, eq_table_or, eq_or_any, eq_or_none, eq_or_truth, eq_or_number, eq_or_word, eq_or_row, eq_or_table, eq_or_or, ne_any_any, ne_any_none, ne_any_truth, ne_any_number, ne_any_word, ne_any_row, ne_any_table, ne_any_or, ne_none_any, ne_none_none, ne_none_truth, ne_none_number, ne_none_word, ne_none_row, ne_none_table, ne_none_or, ne_truth_any, ne_truth_none, ne_truth_truth, ne_truth_number, ne_truth_word, ne_truth_row, ne_truth_table, ne_truth_or, ne_number_any, ne_number_none, ne_number_truth, ne_number_number, ne_number_word, ne_number_row, ne_number_table, ne_number_or, ne_word_any, ne_word_none, ne_word_truth, ne_word_number, ne_word_word, ne_word_row, ne_word_table, ne_word_or, ne_row_any, ne_row_none, ne_row_truth, ne_row_number, ne_row_word, ne_row_row, ne_row_table, ne_row_or, ne_table_any, ne_table_none, ne_table_truth, ne_table_number, ne_table_word, ne_table_row, ne_table_table, ne_table_or, ne_or_any, ne_or_none, ne_or_truth, ne_or_number, ne_or_word, ne_or_row, ne_or_table, ne_or_or, sz_any, sz_none, sz_truth, sz_number, sz_word, sz_row, sz_table, sz_or, nei_1, nei_2, nei_3, nei_4]
theorem miss_row (s : D) (a b : Int) {m : Nat} {t : D} (h : ThD m t) (hk : kw t ≠ "row") (n : Nat) : fitB (.tup [.str "row", s, .int a, .int b]) t n false := by
  obtain ⟨i, hi1, hi2⟩ := lkind_kw h
  have hi3 : ixD (.row [.str "none", .str "truth", .str "number", .str "word", .str "row", .str "table"]) (.int i) = some (.str (kw t)) := hi2
  have hne := ne_kw hk
  refine ⟨fun k => ?_, fun k => ?_⟩
  · show fnD 4 (b_is_fit (den (k + 2 * n + 2))) [_, t] () = _
    simp only [b_is_fit, ix0, kind_kw h, hne, fnD, startD, endK, sRet, sRetN, sSeq, seqK, sIf, sAsg, sDrop, sNil, liftX, tgN, sFor, sOwn1, sOwn2, optK, putK2, sAsgO, sRetO, isRT, dAnd, dOr, dIf, bnd_e, dOp, dUn, dAll, dCons, dNil, ret_ap, dVar, getS, lift_e, lift_n, dC, dTst, isBl, dCall, up, tAndD, tOrD, tNotD, dItems, itemsD, dRange, dMt, dLc, rowD, tupD, truD, notD, tyIs, List.map_cons, List.map_nil, List.length_cons, List.length_nil, List.cons_append, List.nil_append, List.replicate_succ, List.replicate_zero, List.getElem?_cons_zero, List.getElem?_cons_succ, List.set_cons_zero, List.set_cons_succ, Option.join_some, Option.join_none, Option.map_some, Option.map_none, Option.bind_some, Option.bind_none, Nat.reduceAdd, Nat.reduceSub, Nat.zero_add, if_true, if_false, ite_true, ite_false, reduceIte, Bool.false_eq_true, Bool.true_eq_false, eq_self_iff_true, eq_any_any, eq_any_none, eq_any_truth, eq_any_number, eq_any_word, eq_any_row, eq_any_table, eq_any_or, eq_none_any, eq_none_none, eq_none_truth, eq_none_number, eq_none_word, eq_none_row, eq_none_table, eq_none_or, eq_truth_any, eq_truth_none, eq_truth_truth, eq_truth_number, eq_truth_word, eq_truth_row, eq_truth_table, eq_truth_or, eq_number_any, eq_number_none, eq_number_truth, eq_number_number, eq_number_word, eq_number_row, eq_number_table, eq_number_or, eq_word_any, eq_word_none, eq_word_truth, eq_word_number, eq_word_word, eq_word_row, eq_word_table, eq_word_or, eq_row_any, eq_row_none, eq_row_truth, eq_row_number, eq_row_word, eq_row_row, eq_row_table, eq_row_or, eq_table_any, eq_table_none, eq_table_truth, eq_table_number, eq_table_word, eq_table_row, eq_table_table, eq_table_or, eq_or_any, eq_or_none, eq_or_truth, eq_or_number, eq_or_word, eq_or_row, eq_or_table, eq_or_or, ne_any_any, ne_any_none, ne_any_truth, ne_any_number, ne_any_word, ne_any_row, ne_any_table, ne_any_or, ne_none_any, ne_none_none, ne_none_truth, ne_none_number, ne_none_word, ne_none_row, ne_none_table, ne_none_or, ne_truth_any, ne_truth_none, ne_truth_truth, ne_truth_number, ne_truth_word, ne_truth_row, ne_truth_table, ne_truth_or, ne_number_any, ne_number_none, ne_number_truth, ne_number_number, ne_number_word, ne_number_row, ne_number_table, ne_number_or, ne_word_any, ne_word_none, ne_word_truth, ne_word_number, ne_word_word, ne_word_row, ne_word_table, ne_word_or, ne_row_any, ne_row_none, ne_row_truth, ne_row_number, ne_row_word, ne_row_row, ne_row_table, ne_row_or, ne_table_any, ne_table_none, ne_table_truth, ne_table_number, ne_table_word, ne_table_row, ne_table_table, ne_table_or, ne_or_any, ne_or_none, ne_or_truth, ne_or_number, ne_or_word, ne_or_row, ne_or_table, ne_or_or, sz_any, sz_none, sz_truth, sz_number, sz_word, sz_row, sz_table, sz_or, nei_1, nei_2, nei_3, nei_4]
  · show fnD 8 (b__law_fits (den (k + 2 * n + 2))) [_, t] () = _
    simp only [b__law_fits, ix0, hi1, hi3, hne, six, fnD, startD, endK, sRet, sRetN, sSeq, seqK, sIf, sAsg, sDrop, sNil, liftX, tgN, sFor, sOwn1, sOwn2, optK, putK2, sAsgO, sRetO, isRT, dAnd, dOr, dIf, bnd_e, dOp, dUn, dAll, dCons, dNil, ret_ap, dVar, getS, lift_e, lift_n, dC, dTst, isBl, dCall, up, tAndD, tOrD, tNotD, dItems, itemsD, dRange, dMt, dLc, rowD, tupD, truD, notD, tyIs, List.map_cons, List.map_nil, List.length_cons, List.length_nil, List.cons_append, List.nil_append, List.replicate_succ, List.replicate_zero, List.getElem?_cons_zero, List.getElem?_cons_succ, List.set_cons_zero, List.set_cons_succ, Option.join_some, Option.join_none, Option.map_some, Option.map_none, Option.bind_some, Option.bind_none, Nat.reduceAdd, Nat.reduceSub, Nat.zero_add, if_true, if_false, ite_true, ite_false, reduceIte, Bool.false_eq_true, Bool.true_eq_false, eq_self_iff_true, eq_any_any, eq_any_none, eq_any_truth, eq_any_number, eq_any_word, eq_any_row, eq_any_table, eq_any_or, eq_none_any, eq_none_none, eq_none_truth, eq_none_number, eq_none_word, eq_none_row, eq_none_table, eq_none_or, eq_truth_any, eq_truth_none, eq_truth_truth, eq_truth_number, eq_truth_word, eq_truth_row, eq_truth_table, eq_truth_or, eq_number_any, eq_number_none, eq_number_truth, eq_number_number, eq_number_word, eq_number_row, eq_number_table, eq_number_or, eq_word_any, eq_word_none, eq_word_truth, eq_word_number, eq_word_word, eq_word_row, eq_word_table, eq_word_or, eq_row_any, eq_row_none, eq_row_truth, eq_row_number, eq_row_word, eq_row_row, eq_row_table, eq_row_or, eq_table_any, eq_table_none, eq_table_truth, eq_table_number, eq_table_word, eq_table_row, eq_table_table, eq_table_or, eq_or_any, eq_or_none, eq_or_truth, eq_or_number, eq_or_word, eq_or_row, eq_or_table, eq_or_or, ne_any_any, ne_any_none, ne_any_truth, ne_any_number, ne_any_word, ne_any_row, ne_any_table, ne_any_or, ne_none_any, ne_none_none, ne_none_truth, ne_none_number, ne_none_word, ne_none_row, ne_none_table, ne_none_or, ne_truth_any, ne_truth_none, ne_truth_truth, ne_truth_number, ne_truth_word, ne_truth_row, ne_truth_table, ne_truth_or, ne_number_any, ne_number_none, ne_number_truth, ne_number_number, ne_number_word, ne_number_row, ne_number_table, ne_number_or, ne_word_any, ne_word_none, ne_word_truth, ne_word_number, ne_word_word, ne_word_row, ne_word_table, ne_word_or, ne_row_any, ne_row_none, ne_row_truth, ne_row_number, ne_row_word, ne_row_row, ne_row_table, ne_row_or, ne_table_any, ne_table_none, ne_table_truth, ne_table_number, ne_table_word, ne_table_row, ne_table_table, ne_table_or, ne_or_any, ne_or_none, ne_or_truth, ne_or_number, ne_or_word, ne_or_row, ne_or_table, ne_or_or, sz_any, sz_none, sz_truth, sz_number, sz_word, sz_row, sz_table, sz_or, nei_1, nei_2, nei_3, nei_4]
theorem miss_table (s r : D) {m : Nat} {t : D} (h : ThD m t) (hk : kw t ≠ "table") (n : Nat) : fitB (.tup [.str "table", s, r]) t n false := by
  obtain ⟨i, hi1, hi2⟩ := lkind_kw h
  have hi3 : ixD (.row [.str "none", .str "truth", .str "number", .str "word", .str "row", .str "table"]) (.int i) = some (.str (kw t)) := hi2
  have hne := ne_kw hk
  refine ⟨fun k => ?_, fun k => ?_⟩
  · show fnD 4 (b_is_fit (den (k + 2 * n + 2))) [_, t] () = _
    simp only [b_is_fit, ix0, kind_kw h, hne, fnD, startD, endK, sRet, sRetN, sSeq, seqK, sIf, sAsg, sDrop, sNil, liftX, tgN, sFor, sOwn1, sOwn2, optK, putK2, sAsgO, sRetO, isRT, dAnd, dOr, dIf, bnd_e, dOp, dUn, dAll, dCons, dNil, ret_ap, dVar, getS, lift_e, lift_n, dC, dTst, isBl, dCall, up, tAndD, tOrD, tNotD, dItems, itemsD, dRange, dMt, dLc, rowD, tupD, truD, notD, tyIs, List.map_cons, List.map_nil, List.length_cons, List.length_nil, List.cons_append, List.nil_append, List.replicate_succ, List.replicate_zero, List.getElem?_cons_zero, List.getElem?_cons_succ, List.set_cons_zero, List.set_cons_succ, Option.join_some, Option.join_none, Option.map_some, Option.map_none, Option.bind_some, Option.bind_none, Nat.reduceAdd, Nat.reduceSub, Nat.zero_add, if_true, if_false, ite_true, ite_false, reduceIte, Bool.false_eq_true, Bool.true_eq_false, eq_self_iff_true, eq_any_any, eq_any_none, eq_any_truth, eq_any_number, eq_any_word, eq_any_row, eq_any_table, eq_any_or, eq_none_any, eq_none_none, eq_none_truth, eq_none_number, eq_none_word, eq_none_row, eq_none_table, eq_none_or, eq_truth_any, eq_truth_none, eq_truth_truth, eq_truth_number, eq_truth_word, eq_truth_row, eq_truth_table, eq_truth_or, eq_number_any, eq_number_none, eq_number_truth, eq_number_number, eq_number_word, eq_number_row, eq_number_table, eq_number_or, eq_word_any, eq_word_none, eq_word_truth, eq_word_number, eq_word_word, eq_word_row, eq_word_table, eq_word_or, eq_row_any, eq_row_none, eq_row_truth, eq_row_number, eq_row_word, eq_row_row, eq_row_table, eq_row_or, eq_table_any, eq_table_none, eq_table_truth, eq_table_number, eq_table_word, eq_table_row, eq_table_table, eq_table_or, eq_or_any, eq_or_none, eq_or_truth, eq_or_number, eq_or_word, eq_or_row, eq_or_table, eq_or_or, ne_any_any, ne_any_none, ne_any_truth, ne_any_number, ne_any_word, ne_any_row, ne_any_table, ne_any_or, ne_none_any, ne_none_none, ne_none_truth, ne_none_number, ne_none_word, ne_none_row, ne_none_table, ne_none_or, ne_truth_any, ne_truth_none, ne_truth_truth, ne_truth_number, ne_truth_word, ne_truth_row, ne_truth_table, ne_truth_or, ne_number_any, ne_number_none, ne_number_truth, ne_number_number, ne_number_word, ne_number_row, ne_number_table, ne_number_or, ne_word_any, ne_word_none, ne_word_truth, ne_word_number, ne_word_word, ne_word_row, ne_word_table, ne_word_or, ne_row_any, ne_row_none, ne_row_truth, ne_row_number, ne_row_word, ne_row_row, ne_row_table, ne_row_or, ne_table_any, ne_table_none, ne_table_truth, ne_table_number, ne_table_word, ne_table_row, ne_table_table, ne_table_or, ne_or_any, ne_or_none, ne_or_truth, ne_or_number, ne_or_word, ne_or_row, ne_or_table, ne_or_or, sz_any, sz_none, sz_truth, sz_number, sz_word, sz_row, sz_table, sz_or, nei_1, nei_2, nei_3, nei_4]
  · show fnD 8 (b__law_fits (den (k + 2 * n + 2))) [_, t] () = _
    simp only [b__law_fits, ix0, hi1, hi3, hne, six, fnD, startD, endK, sRet, sRetN, sSeq, seqK, sIf, sAsg, sDrop, sNil, liftX, tgN, sFor, sOwn1, sOwn2, optK, putK2, sAsgO, sRetO, isRT, dAnd, dOr, dIf, bnd_e, dOp, dUn, dAll, dCons, dNil, ret_ap, dVar, getS, lift_e, lift_n, dC, dTst, isBl, dCall, up, tAndD, tOrD, tNotD, dItems, itemsD, dRange, dMt, dLc, rowD, tupD, truD, notD, tyIs, List.map_cons, List.map_nil, List.length_cons, List.length_nil, List.cons_append, List.nil_append, List.replicate_succ, List.replicate_zero, List.getElem?_cons_zero, List.getElem?_cons_succ, List.set_cons_zero, List.set_cons_succ, Option.join_some, Option.join_none, Option.map_some, Option.map_none, Option.bind_some, Option.bind_none, Nat.reduceAdd, Nat.reduceSub, Nat.zero_add, if_true, if_false, ite_true, ite_false, reduceIte, Bool.false_eq_true, Bool.true_eq_false, eq_self_iff_true, eq_any_any, eq_any_none, eq_any_truth, eq_any_number, eq_any_word, eq_any_row, eq_any_table, eq_any_or, eq_none_any, eq_none_none, eq_none_truth, eq_none_number, eq_none_word, eq_none_row, eq_none_table, eq_none_or, eq_truth_any, eq_truth_none, eq_truth_truth, eq_truth_number, eq_truth_word, eq_truth_row, eq_truth_table, eq_truth_or, eq_number_any, eq_number_none, eq_number_truth, eq_number_number, eq_number_word, eq_number_row, eq_number_table, eq_number_or, eq_word_any, eq_word_none, eq_word_truth, eq_word_number, eq_word_word, eq_word_row, eq_word_table, eq_word_or, eq_row_any, eq_row_none, eq_row_truth, eq_row_number, eq_row_word, eq_row_row, eq_row_table, eq_row_or, eq_table_any, eq_table_none, eq_table_truth, eq_table_number, eq_table_word, eq_table_row, eq_table_table, eq_table_or, eq_or_any, eq_or_none, eq_or_truth, eq_or_number, eq_or_word, eq_or_row, eq_or_table, eq_or_or, ne_any_any, ne_any_none, ne_any_truth, ne_any_number, ne_any_word, ne_any_row, ne_any_table, ne_any_or, ne_none_any, ne_none_none, ne_none_truth, ne_none_number, ne_none_word, ne_none_row, ne_none_table, ne_none_or, ne_truth_any, ne_truth_none, ne_truth_truth, ne_truth_number, ne_truth_word, ne_truth_row, ne_truth_table, ne_truth_or, ne_number_any, ne_number_none, ne_number_truth, ne_number_number, ne_number_word, ne_number_row, ne_number_table, ne_number_or, ne_word_any, ne_word_none, ne_word_truth, ne_word_number, ne_word_word, ne_word_row, ne_word_table, ne_word_or, ne_row_any, ne_row_none, ne_row_truth, ne_row_number, ne_row_word, ne_row_row, ne_row_table, ne_row_or, ne_table_any, ne_table_none, ne_table_truth, ne_table_number, ne_table_word, ne_table_row, ne_table_table, ne_table_or, ne_or_any, ne_or_none, ne_or_truth, ne_or_number, ne_or_word, ne_or_row, ne_or_table, ne_or_or, sz_any, sz_none, sz_truth, sz_number, sz_word, sz_row, sz_table, sz_or, nei_1, nei_2, nei_3, nei_4]
theorem keys_txt {kvs : List (Key × D)} (h : TxK kvs) : (kvs.map fun kv => kD kv.1) = (kS kvs).map D.str := by
  unfold kS
  rw [List.map_map]
  refine List.map_congr_left fun p hp => ?_
  obtain ⟨x, e⟩ := h p hp
  show kD p.1 = D.str (keyS p.1)
  rw [e]; rfl
theorem val_some {kvs : List (Key × D)} (h : TxK kvs) (x : Str) : (valD kvs (.inr x)).isSome = decide (x ∈ kS kvs) := by
  by_cases hx : x ∈ kS kvs
  · rw [(gv_val h hx).1, decide_eq_true hx]; rfl
  · rw [decide_eq_false hx]
    cases e : valD kvs (.inr x) with
    | none => rfl
    | some d => exact absurd ((kS_mem h).mpr (List.mem_map.mpr ⟨_, valD_mem e, rfl⟩)) hx
theorem in_tab {kvs : List (Key × D)} (h : TxK kvs) (x : Str) : inD false (.str x) (.tab kvs) = some (.bl (decide (x ∈ kS kvs))) := by
  show some (D.bl (valD kvs (.inr x)).isSome) = _
  rw [val_some h]
theorem notin_tab {kvs : List (Key × D)} (h : TxK kvs) (x : Str) : inD true (.str x) (.tab kvs) = some (.bl (!decide (x ∈ kS kvs))) := by
  show some (D.bl (!(valD kvs (.inr x)).isSome)) = _
  rw [val_some h]
theorem notin_row (x : Str) (ys : List Str) : inD true (.str x) (.row (ys.map D.str)) = some (.bl (!decide (x ∈ ys))) := by
  show (eqAny 60 (.str x) (ys.map D.str)).map (fun b => D.bl (if true then !b else b)) = _
  rw [eqAny_strs]; rfl
theorem ix_tab {kvs : List (Key × D)} (h : TxK kvs) {x : Str} (hx : x ∈ kS kvs) : ixD (.tab kvs) (.str x) = some (gv kvs x) := (gv_val h hx).1
theorem tru_bl (b : Bool) : truD (.bl b) = some b := rfl
theorem leaf_row {m : Nat} {xs : List D} (h : ThD m (.row xs)) : ∃ m', m = m' + 1 ∧ ∀ x ∈ xs, ThD m' x := by
  cases m with
  | zero => exact h.elim
  | succ m => exact ⟨m, rfl, h.2⟩
theorem leaf_tab {m : Nat} {kvs : List (Key × D)} (h : ThD m (.tab kvs)) : ∃ m', m = m' + 1 ∧ TxK kvs ∧ ∀ x ∈ kS kvs, ThD m' (gv kvs x) := by
  cases m with
  | zero => exact h.elim
  | succ m => exact ⟨m, rfl, th_txk h, fun x hx => (h.2.2 _ (gv_val (th_txk h) hx).2).2⟩
end Nw
set_option Elab.async false
set_option linter.all false
set_option maxRecDepth 100000
set_option maxHeartbeats 4000000
namespace Nw
open PySem PySem.Spec L2
/-! ### tables that fit -/
section
variable {es : List (Str × D × Bool)} {rest : D} {kvs : List (Key × D)} {n : Nat}
/-- what both look at: F at an entry whose key is there, G at a key that is told nowhere -/
structure TF (es : List (Str × D × Bool)) (rest : D) (kvs : List (Key × D)) (n : Nat) (F : Str × D × Bool → Bool) (G : Str → Bool) : Prop where
  tx : TxK kvs
  nd : (es.map (·.1)).Nodup
  len : es.length ≤ 4000
  f : ∀ e ∈ es, e.1 ∈ kS kvs → fitB e.2.1 (gv kvs e.1) n (F e)
  g : ∀ x ∈ kS kvs, rest ≠ .non → fitB rest (gv kvs x) n (G x)
def chk (kvs : List (Key × D)) (F : Str × D × Bool → Bool) : D → Bool
  | .tup [.str x, s, .bl m] => !((decide (x ∈ kS kvs) && !F (x, s, m)) || (m && !decide (x ∈ kS kvs)))
  | _ => false
def isn (d : D) : Bool := match d with | .non => true | _ => false
theorem isN_f (d : D) : isND false d = some (.bl (isn d)) := by cases d <;> rfl
theorem isN_t (d : D) : isND true d = some (.bl (!isn d)) := by cases d <;> rfl
theorem isn_ne {d : D} (h : isn d = false) : d ≠ .non := fun e => by rw [e] at h; cases h
def h2 (rest : D) (G : Str → Bool) (x : Str) : Bool := !isn rest && G x
theorem prog_tab {F : Str × D × Bool → Bool} {G : Str → Bool} (T : TF es rest kvs n F G) (k : Nat) : (den (k + 2 * n + 4)).is_table_fit [.tup [.str "table", .tup (es.map entD), rest], .tab kvs] () = .ok (.bl ((es.map entD).all (chk kvs F) && ((kS kvs).filter fun x => !decide (x ∈ es.map (·.1))).all (h2 rest G))) () := by
  show fnD 8 (b_is_table_fit (den (k + 2 * n + 3))) [_, .tab kvs] () = _
  have h7 : lcA (tgN 7) dYes (dOp ixD (dVar 7) (dC (.int 0))) [some (.tup [.str "table", .tup (es.map entD), rest]), some (.tab kvs), none, none, none, none, none, none] [] (es.map entD) () = .ok (.row ((es.map (·.1)).map D.str)) () := by
    rw [lcA_map (fun d => (ixD d (.int 0)).getD .non) (es.map entD) [] fun y hy => ?_, List.nil_append, List.map_map, List.map_map]
    · rfl
    · obtain ⟨e, he, rfl⟩ := List.mem_map.mp hy
      have h3 : ixD (entD e) (.int 0) = some (.str e.1) := ix0 _ _
      simp only [fnD, startD, endK, sRet, sRetN, sSeq, seqK, sIf, sAsg, sDrop, sNil, liftX, tgN, sFor, sOwn1, sOwn2, optK, putK2, sAsgO, sRetO, isRT, dAnd, dOr, dIf, bnd_e, dOp, dUn, dAll, dCons, dNil, ret_ap, dVar, getS, lift_e, lift_n, dC, dTst, isBl, dCall, up, tAndD, tOrD, tNotD, dItems, itemsD, dRange, dMt, dLc, rowD, tupD, truD, notD, tyIs, List.map_cons, List.map_nil, List.length_cons, List.length_nil, List.cons_append, List.nil_append, List.replicate_succ, List.replicate_zero, List.getElem?_cons_zero, List.getElem?_cons_succ, List.set_cons_zero, List.set_cons_succ, Option.join_some, Option.join_none, Option.map_some, Option.map_none, Option.bind_some, Option.bind_none, Nat.reduceAdd, Nat.reduceSub, Nat.zero_add, if_true, if_false, ite_true, ite_false, reduceIte, Bool.false_eq_true, Bool.true_eq_false, eq_self_iff_true, h3, Option.getD_some]
  have hl := forL_chk (tg := tgT [3, 4, 5]) (v := .bl false) (s := ()) (body := sIf (tOrD (tAndD (dTst (dOp (inD false) (dVar 3) (dVar 1)) isBl) (tNotD (dTst (dCall 2 (fun ds => up ((den (k + 2 * n + 3)).is_fit ds)) (dCons (dVar 4) (dCons (dOp ixD (dVar 1) (dVar 3)) dNil))) truD))) (tAndD (dTst (dVar 5) truD) (dTst (dOp (inD true) (dVar 3) (dVar 1)) isBl))) (sRet (dC (.bl false))) sNil)
    (fun _ r => ∃ a b c, r = [some (.tup [.str "table", .tup (es.map entD), rest]), some (.tab kvs), some (.row ((es.map (·.1)).map D.str)), a, b, c, none, none]) (chk kvs F) (es.map entD) (fun pre x suf r hx ⟨a, b, c, hr⟩ => by
      have hm : x ∈ es.map entD := by rw [hx]; exact List.mem_append_right _ List.mem_cons_self
      obtain ⟨e, he, rfl⟩ := List.mem_map.mp hm
      obtain ⟨x, sh, m⟩ := e
      subst hr
      refine ⟨[some (.tup [.str "table", .tup (es.map entD), rest]), some (.tab kvs), some (.row ((es.map (·.1)).map D.str)), some (.str x), some sh, some (.bl m), none, none], rfl, fun hp => ?_, fun hp => ?_⟩
      · have hp : (!((decide (x ∈ kS kvs) && !F (x, sh, m)) || (m && !decide (x ∈ kS kvs)))) = true := hp
        refine ⟨_, ?_, ⟨some (.str x), some sh, some (.bl m), rfl⟩⟩
        by_cases hk : x ∈ kS kvs
        · have hf0 := (T.f _ he hk).1 k
          have hf : (den (k + 2 * n + 3)).is_fit [sh, gv kvs x] () = .ok (.bl (F (x, sh, m))) () := hf0
          clear hf0
          rw [decide_eq_true hk] at hp
          have hF : F (x, sh, m) = true := by cases hq : F (x, sh, m) <;> rw [hq] at hp <;> first | rfl | (cases m <;> cases hp)
          rw [hF] at hf
          cases m <;> simp only [in_tab T.tx, notin_tab T.tx, ix_tab T.tx hk, hf, decide_eq_true hk, tru_bl, fnD, startD, endK, sRet, sRetN, sSeq, seqK, sIf, sAsg, sDrop, sNil, liftX, tgN, sFor, sOwn1, sOwn2, optK, putK2, sAsgO, sRetO, isRT, dAnd, dOr, dIf, bnd_e, dOp, dUn, dAll, dCons, dNil, ret_ap, dVar, getS, lift_e, lift_n, dC, dTst, isBl, dCall, up, tAndD, tOrD, tNotD, dItems, itemsD, dRange, dMt, dLc, rowD, tupD, truD, notD, tyIs, List.map_cons, List.map_nil, List.length_cons, List.length_nil, List.cons_append, List.nil_append, List.replicate_succ, List.replicate_zero, List.getElem?_cons_zero, List.getElem?_cons_succ, List.set_cons_zero, List.set_cons_succ, Option.join_some, Option.join_none, Option.map_some, Option.map_none, Option.bind_some, Option.bind_none, Nat.reduceAdd, Nat.reduceSub, Nat.zero_add, if_true, if_false, ite_true, ite_false, reduceIte, Bool.false_eq_true, Bool.true_eq_false, eq_self_iff_true, Bool.not_true, Bool.not_false]
        · rw [decide_eq_false hk] at hp
          have hm : m = false := by cases m <;> first | rfl | cases hp
          subst hm
          simp only [in_tab T.tx, notin_tab T.tx, decide_eq_false hk, tru_bl, fnD, startD, endK, sRet, sRetN, sSeq, seqK, sIf, sAsg, sDrop, sNil, liftX, tgN, sFor, sOwn1, sOwn2, optK, putK2, sAsgO, sRetO, isRT, dAnd, dOr, dIf, bnd_e, dOp, dUn, dAll, dCons, dNil, ret_ap, dVar, getS, lift_e, lift_n, dC, dTst, isBl, dCall, up, tAndD, tOrD, tNotD, dItems, itemsD, dRange, dMt, dLc, rowD, tupD, truD, notD, tyIs, List.map_cons, List.map_nil, List.length_cons, List.length_nil, List.cons_append, List.nil_append, List.replicate_succ, List.replicate_zero, List.getElem?_cons_zero, List.getElem?_cons_succ, List.set_cons_zero, List.set_cons_succ, Option.join_some, Option.join_none, Option.map_some, Option.map_none, Option.bind_some, Option.bind_none, Nat.reduceAdd, Nat.reduceSub, Nat.zero_add, if_true, if_false, ite_true, ite_false, reduceIte, Bool.false_eq_true, Bool.true_eq_false, eq_self_iff_true, Bool.not_true, Bool.not_false]
      · have hp : (!((decide (x ∈ kS kvs) && !F (x, sh, m)) || (m && !decide (x ∈ kS kvs)))) = false := hp
        by_cases hk : x ∈ kS kvs
        · have hf0 := (T.f _ he hk).1 k
          have hf : (den (k + 2 * n + 3)).is_fit [sh, gv kvs x] () = .ok (.bl (F (x, sh, m))) () := hf0
          clear hf0
          rw [decide_eq_true hk] at hp
          have hF : F (x, sh, m) = false := by cases hq : F (x, sh, m) <;> rw [hq] at hp <;> first | rfl | (cases m <;> cases hp)
          rw [hF] at hf
          simp only [in_tab T.tx, notin_tab T.tx, ix_tab T.tx hk, hf, decide_eq_true hk, tru_bl, fnD, startD, endK, sRet, sRetN, sSeq, seqK, sIf, sAsg, sDrop, sNil, liftX, tgN, sFor, sOwn1, sOwn2, optK, putK2, sAsgO, sRetO, isRT, dAnd, dOr, dIf, bnd_e, dOp, dUn, dAll, dCons, dNil, ret_ap, dVar, getS, lift_e, lift_n, dC, dTst, isBl, dCall, up, tAndD, tOrD, tNotD, dItems, itemsD, dRange, dMt, dLc, rowD, tupD, truD, notD, tyIs, List.map_cons, List.map_nil, List.length_cons, List.length_nil, List.cons_append, List.nil_append, List.replicate_succ, List.replicate_zero, List.getElem?_cons_zero, List.getElem?_cons_succ, List.set_cons_zero, List.set_cons_succ, Option.join_some, Option.join_none, Option.map_some, Option.map_none, Option.bind_some, Option.bind_none, Nat.reduceAdd, Nat.reduceSub, Nat.zero_add, if_true, if_false, ite_true, ite_false, reduceIte, Bool.false_eq_true, Bool.true_eq_false, eq_self_iff_true, Bool.not_true, Bool.not_false]
        · rw [decide_eq_false hk] at hp
          have hm : m = true := by cases m <;> first | rfl | cases hp
          subst hm
          simp only [in_tab T.tx, notin_tab T.tx, decide_eq_false hk, tru_bl, fnD, startD, endK, sRet, sRetN, sSeq, seqK, sIf, sAsg, sDrop, sNil, liftX, tgN, sFor, sOwn1, sOwn2, optK, putK2, sAsgO, sRetO, isRT, dAnd, dOr, dIf, bnd_e, dOp, dUn, dAll, dCons, dNil, ret_ap, dVar, getS, lift_e, lift_n, dC, dTst, isBl, dCall, up, tAndD, tOrD, tNotD, dItems, itemsD, dRange, dMt, dLc, rowD, tupD, truD, notD, tyIs, List.map_cons, List.map_nil, List.length_cons, List.length_nil, List.cons_append, List.nil_append, List.replicate_succ, List.replicate_zero, List.getElem?_cons_zero, List.getElem?_cons_succ, List.set_cons_zero, List.set_cons_succ, Option.join_some, Option.join_none, Option.map_some, Option.map_none, Option.bind_some, Option.bind_none, Nat.reduceAdd, Nat.reduceSub, Nat.zero_add, if_true, if_false, ite_true, ite_false, reduceIte, Bool.false_eq_true, Bool.true_eq_false, eq_self_iff_true, Bool.not_true, Bool.not_false])
    (es.map entD) [] [some (.tup [.str "table", .tup (es.map entD), rest]), some (.tab kvs), some (.row ((es.map (·.1)).map D.str)), none, none, none, none, none] rfl ⟨none, none, none, rfl⟩
  cases ha : (es.map entD).all (chk kvs F) with
  | false =>
    have hl2 := hl.2 ha
    simp only [b_is_table_fit, ix1, h7, hl2, fnD, startD, endK, sRet, sRetN, sSeq, seqK, sIf, sAsg, sDrop, sNil, liftX, tgN, sFor, sOwn1, sOwn2, optK, putK2, sAsgO, sRetO, isRT, dAnd, dOr, dIf, bnd_e, dOp, dUn, dAll, dCons, dNil, ret_ap, dVar, getS, lift_e, lift_n, dC, dTst, isBl, dCall, up, tAndD, tOrD, tNotD, dItems, itemsD, dRange, dMt, dLc, rowD, tupD, truD, notD, tyIs, List.map_cons, List.map_nil, List.length_cons, List.length_nil, List.cons_append, List.nil_append, List.replicate_succ, List.replicate_zero, List.getElem?_cons_zero, List.getElem?_cons_succ, List.set_cons_zero, List.set_cons_succ, Option.join_some, Option.join_none, Option.map_some, Option.map_none, Option.bind_some, Option.bind_none, Nat.reduceAdd, Nat.reduceSub, Nat.zero_add, if_true, if_false, ite_true, ite_false, reduceIte, Bool.false_eq_true, Bool.true_eq_false, eq_self_iff_true, Bool.false_and]
  | true =>
    obtain ⟨r, hl2, a, b, c, rfl⟩ := hl.1 ha
    have h10 : keysD (.tab kvs) = some ((kS kvs).map D.str) := by
      show some (kvs.map fun kv => kD kv.1) = _
      rw [keys_txt T.tx]
    have h8 : lcA (tgN 3) (dTst (dOp (inD true) (dVar 3) (dVar 2)) isBl) (dVar 3) [some (.tup [.str "table", .tup (es.map entD), rest]), some (.tab kvs), some (.row ((es.map (·.1)).map D.str)), a, b, c, none, none] [] ((kS kvs).map D.str) () = .ok (.row (((kS kvs).filter fun x => !decide (x ∈ es.map (·.1))).map D.str)) () := by
      rw [lcA_if (fun d => match d with | .str x => !decide (x ∈ es.map (·.1)) | _ => false) (fun d => d) ((kS kvs).map D.str) [] (fun y hy => ?_) (fun y hy _ => ?_), List.nil_append, List.map_id', List.filter_map]
      · rfl
      · obtain ⟨x, hx, rfl⟩ := List.mem_map.mp hy
        simp only [notin_row, fnD, startD, endK, sRet, sRetN, sSeq, seqK, sIf, sAsg, sDrop, sNil, liftX, tgN, sFor, sOwn1, sOwn2, optK, putK2, sAsgO, sRetO, isRT, dAnd, dOr, dIf, bnd_e, dOp, dUn, dAll, dCons, dNil, ret_ap, dVar, getS, lift_e, lift_n, dC, dTst, isBl, dCall, up, tAndD, tOrD, tNotD, dItems, itemsD, dRange, dMt, dLc, rowD, tupD, truD, notD, tyIs, List.map_cons, List.map_nil, List.length_cons, List.length_nil, List.cons_append, List.nil_append, List.replicate_succ, List.replicate_zero, List.getElem?_cons_zero, List.getElem?_cons_succ, List.set_cons_zero, List.set_cons_succ, Option.join_some, Option.join_none, Option.map_some, Option.map_none, Option.bind_some, Option.bind_none, Nat.reduceAdd, Nat.reduceSub, Nat.zero_add, if_true, if_false, ite_true, ite_false, reduceIte, Bool.false_eq_true, Bool.true_eq_false, eq_self_iff_true]
      · simp only [fnD, startD, endK, sRet, sRetN, sSeq, seqK, sIf, sAsg, sDrop, sNil, liftX, tgN, sFor, sOwn1, sOwn2, optK, putK2, sAsgO, sRetO, isRT, dAnd, dOr, dIf, bnd_e, dOp, dUn, dAll, dCons, dNil, ret_ap, dVar, getS, lift_e, lift_n, dC, dTst, isBl, dCall, up, tAndD, tOrD, tNotD, dItems, itemsD, dRange, dMt, dLc, rowD, tupD, truD, notD, tyIs, List.map_cons, List.map_nil, List.length_cons, List.length_nil, List.cons_append, List.nil_append, List.replicate_succ, List.replicate_zero, List.getElem?_cons_zero, List.getElem?_cons_succ, List.set_cons_zero, List.set_cons_succ, Option.join_some, Option.join_none, Option.map_some, Option.map_none, Option.bind_some, Option.bind_none, Nat.reduceAdd, Nat.reduceSub, Nat.zero_add, if_true, if_false, ite_true, ite_false, reduceIte, Bool.false_eq_true, Bool.true_eq_false, eq_self_iff_true]
    have h9 : lcA (tgN 3) dYes (dAnd (dUn (isND true) (dOp ixD (dVar 0) (dC (.int 2)))) (dCall 2 (fun ds => up ((den (k + 2 * n + 3)).is_fit ds)) (dCons (dOp ixD (dVar 0) (dC (.int 2))) (dCons (dOp ixD (dVar 1) (dVar 3)) dNil)))) [some (.tup [.str "table", .tup (es.map entD), rest]), some (.tab kvs), some (.row ((es.map (·.1)).map D.str)), a, b, c, some (.row (((kS kvs).filter fun x => !decide (x ∈ es.map (·.1))).map D.str)), none] [] (((kS kvs).filter fun x => !decide (x ∈ es.map (·.1))).map D.str) () = .ok (.row (((((kS kvs).filter fun x => !decide (x ∈ es.map (·.1))).map D.str).map fun d => match d with | .str x => h2 rest G x | _ => false).map D.bl)) () := by
      refine lcA_bl _ _ fun y hy => ?_
      obtain ⟨x, hx, rfl⟩ := List.mem_map.mp hy
      have hk : x ∈ kS kvs := (List.mem_filter.mp hx).1
      cases hn : isn rest with
      | true => simp only [ix2, isN_t, hn, h2, tru_bl, fnD, startD, endK, sRet, sRetN, sSeq, seqK, sIf, sAsg, sDrop, sNil, liftX, tgN, sFor, sOwn1, sOwn2, optK, putK2, sAsgO, sRetO, isRT, dAnd, dOr, dIf, bnd_e, dOp, dUn, dAll, dCons, dNil, ret_ap, dVar, getS, lift_e, lift_n, dC, dTst, isBl, dCall, up, tAndD, tOrD, tNotD, dItems, itemsD, dRange, dMt, dLc, rowD, tupD, truD, notD, tyIs, List.map_cons, List.map_nil, List.length_cons, List.length_nil, List.cons_append, List.nil_append, List.replicate_succ, List.replicate_zero, List.getElem?_cons_zero, List.getElem?_cons_succ, List.set_cons_zero, List.set_cons_succ, Option.join_some, Option.join_none, Option.map_some, Option.map_none, Option.bind_some, Option.bind_none, Nat.reduceAdd, Nat.reduceSub, Nat.zero_add, if_true, if_false, ite_true, ite_false, reduceIte, Bool.false_eq_true, Bool.true_eq_false, eq_self_iff_true, Bool.not_true, Bool.false_and]
      | false =>
        have hf := (T.g x hk (isn_ne hn)).1 k
        simp only [ix2, isN_t, hn, h2, ix_tab T.tx hk, hf, tru_bl, fnD, startD, endK, sRet, sRetN, sSeq, seqK, sIf, sAsg, sDrop, sNil, liftX, tgN, sFor, sOwn1, sOwn2, optK, putK2, sAsgO, sRetO, isRT, dAnd, dOr, dIf, bnd_e, dOp, dUn, dAll, dCons, dNil, ret_ap, dVar, getS, lift_e, lift_n, dC, dTst, isBl, dCall, up, tAndD, tOrD, tNotD, dItems, itemsD, dRange, dMt, dLc, rowD, tupD, truD, notD, tyIs, List.map_cons, List.map_nil, List.length_cons, List.length_nil, List.cons_append, List.nil_append, List.replicate_succ, List.replicate_zero, List.getElem?_cons_zero, List.getElem?_cons_succ, List.set_cons_zero, List.set_cons_succ, Option.join_some, Option.join_none, Option.map_some, Option.map_none, Option.bind_some, Option.bind_none, Nat.reduceAdd, Nat.reduceSub, Nat.zero_add, if_true, if_false, ite_true, ite_false, reduceIte, Bool.false_eq_true, Bool.true_eq_false, eq_self_iff_true, Bool.not_false, Bool.true_and]
    simp only [b_is_table_fit, ix1, h7, hl2, h10, h8, h9, all_bls, fnD, startD, endK, sRet, sRetN, sSeq, seqK, sIf, sAsg, sDrop, sNil, liftX, tgN, sFor, sOwn1, sOwn2, optK, putK2, sAsgO, sRetO, isRT, dAnd, dOr, dIf, bnd_e, dOp, dUn, dAll, dCons, dNil, ret_ap, dVar, getS, lift_e, lift_n, dC, dTst, isBl, dCall, up, tAndD, tOrD, tNotD, dItems, itemsD, dRange, dMt, dLc, rowD, tupD, truD, notD, tyIs, List.map_cons, List.map_nil, List.length_cons, List.length_nil, List.cons_append, List.nil_append, List.replicate_succ, List.replicate_zero, List.getElem?_cons_zero, List.getElem?_cons_succ, List.set_cons_zero, List.set_cons_succ, Option.join_some, Option.join_none, Option.map_some, Option.map_none, Option.bind_some, Option.bind_none, Nat.reduceAdd, Nat.reduceSub, Nat.zero_add, if_true, if_false, ite_true, ite_false, reduceIte, Bool.false_eq_true, Bool.true_eq_false, eq_self_iff_true, Bool.true_and, List.all_map]
    rfl
def FK (es : List (Str × D × Bool)) (F : Str × D × Bool → Bool) (x : Str) : Bool := match es.find? fun e => decide (e.1 = x) with | some e => F e | none => false
def P2 (es : List (Str × D × Bool)) (rest : D) (F : Str × D × Bool → Bool) (G : Str → Bool) : D → Bool
  | .str x => if x ∈ es.map (·.1) then FK es F x else h2 rest G x
  | _ => false
def mst (kvs : List (Key × D)) : D → Bool
  | .tup [.str x, _, .bl m] => !(m && !decide (x ∈ kS kvs))
  | _ => false
theorem find_ent (nd : (es.map (·.1)).Nodup) {e : Str × D × Bool} (he : e ∈ es) : es.find? (fun q => decide (q.1 = e.1)) = some e := by
  induction es with
  | nil => cases he
  | cons a l ih =>
    obtain ⟨n1, n2⟩ := List.nodup_cons.mp (show (a.1 :: l.map (·.1)).Nodup from nd)
    rcases List.mem_cons.mp he with rfl | he
    · rw [List.find?_cons_of_pos (by simp)]
    · have hne : ¬ a.1 = e.1 := fun z => n1 (z ▸ List.mem_map_of_mem he)
      rw [List.find?_cons_of_neg (by simpa using hne)]
      exact ih n2 he
def toldT (es : List (Str × D × Bool)) : List (Key × D) := es.map fun e => ((Sum.inr e.1 : Key), e.2.1)
theorem told_val (nd : (es.map (·.1)).Nodup) {e : Str × D × Bool} (he : e ∈ es) : valD (toldT es) (.inr e.1) = some e.2.1 := by
  unfold valD toldT
  rw [List.find?_map]
  have h : (fun q : Str × D × Bool => decide (q.1 = e.1)) = ((fun kv : Key × D => decide (kv.1 = (Sum.inr e.1 : Key))) ∘ fun q : Str × D × Bool => ((Sum.inr q.1 : Key), q.2.1)) := by
    funext q
    show decide (q.1 = e.1) = decide ((Sum.inr q.1 : Key) = Sum.inr e.1)
    exact decide_eq_decide.mpr ⟨fun z => by rw [z], fun z => Sum.inr.inj z⟩
  rw [← h, find_ent nd he]; rfl
theorem told_tx : TxK (toldT es) := fun p hp => by
  obtain ⟨e, _, rfl⟩ := List.mem_map.mp hp
  exact ⟨e.1, rfl⟩
theorem told_kS : kS (toldT es) = es.map (·.1) := by
  unfold kS toldT
  rw [List.map_map]; rfl
theorem entD_inj {a b : Str × D × Bool} (h : entD a = entD b) : a = b := by
  obtain ⟨x, s, m⟩ := a
  obtain ⟨y, u, o⟩ := b
  injection h with h1
  injection h1 with h2 h3
  injection h3 with h4 h5
  injection h5 with h6 h7
  injection h2 with h2
  injection h6 with h6
  have h4 : s = u := h4
  have h2 : x = y := h2
  have h6 : m = o := h6
  rw [h2, h4, h6]
theorem law_tab {F : Str × D × Bool → Bool} {G : Str → Bool} (T : TF es rest kvs n F G) (i : Int) (hi1 : ∀ k, (den (k + 1))._law_kind [.tab kvs] () = .ok (.int i) ()) (hi3 : ixD (.row [.str "none", .str "truth", .str "number", .str "word", .str "row", .str "table"]) (.int i) = some (.str "table")) (k : Nat) :
    (den (k + 2 * n + 4))._law_fits [.tup [.str "table", .tup (es.map entD), rest], .tab kvs] () = .ok (.bl ((es.map entD).all (mst kvs) && ((kS kvs).map D.str).all (P2 es rest F G))) () := by
  show fnD 8 (b__law_fits (den (k + 2 * n + 3))) [_, .tab kvs] () = _
  have hl := forL_chk (tg := tgT [4, 5, 6]) (v := .bl false) (s := ()) (body := sSeq (sOwn2 3 setTD (dVar 4) (dVar 5))
    (sIf (tAndD (dTst (dVar 6) truD) (dTst (dOp (inD true) (dVar 4) (dVar 1)) isBl)) (sRet (dC (.bl false))) sNil))
    (fun pre r => ∃ es' a b c, pre = es'.map entD ∧ r = [some (.tup [.str "table", .tup (es.map entD), rest]), some (.tab kvs), some (.str "table"), some (.tab (toldT es')), a, b, c, none]) (mst kvs) (es.map entD) (fun pre x suf r hx ⟨es', a, b, c, hpre, hr⟩ => by
      have hm : x ∈ es.map entD := by rw [hx]; exact List.mem_append_right _ List.mem_cons_self
      obtain ⟨e, he, rfl⟩ := List.mem_map.mp hm
      have hes : ∃ suf', es = es' ++ e :: suf' := by
        subst hpre
        have h0 := hx
        have hlen : es'.length < es.length := by
          have := congrArg List.length hx
          rw [List.length_map, List.length_append, List.length_map, List.length_cons] at this
          omega
        refine ⟨es.drop (es'.length + 1), ?_⟩
        have inj : ∀ (l1 l2 : List (Str × D × Bool)), l1.map entD = l2.map entD → l1 = l2 := by
          intro l1
          induction l1 with
          | nil => intro l2 h; cases l2 with
            | nil => rfl
            | cons _ _ => cases h
          | cons p l1 ih =>
            intro l2 h
            cases l2 with
            | nil => cases h
            | cons q l2 =>
              rw [List.map_cons, List.map_cons] at h
              injection h with h1 h2
              rw [entD_inj h1, ih l2 h2]
        have h1 : (es.take es'.length) = es' := by
          apply inj
          rw [List.map_take, hx, List.take_append_of_le_length (by rw [List.length_map]; exact Nat.le_refl _)]
          rw [List.take_of_length_le (by rw [List.length_map]; exact Nat.le_refl _)]
        have h2 : es[es'.length] = e := by
          apply entD_inj
          have h3 : (es.map entD)[es'.length]? = some (entD e) := by
            rw [hx, List.getElem?_append_right (by rw [List.length_map]; exact Nat.le_refl _), List.length_map, Nat.sub_self]; rfl
          rw [List.getElem?_map, List.getElem?_eq_getElem hlen] at h3
          exact Option.some.inj h3
        calc es = es.take es'.length ++ es.drop es'.length := (List.take_append_drop _ _).symm
          _ = es' ++ es.drop es'.length := by rw [h1]
          _ = es' ++ e :: es.drop (es'.length + 1) := by rw [List.drop_eq_getElem_cons hlen, h2]
      obtain ⟨suf', hes⟩ := hes
      obtain ⟨x, sh, m⟩ := e
      subst hr
      have hn : (Sum.inr x : Key) ∉ (toldT es').map (·.1) := fun z => by
        have nd := T.nd
        rw [hes, List.map_append, List.map_cons] at nd
        obtain ⟨_, _, h3⟩ := List.nodup_append.mp nd
        have h4 : x ∈ es'.map (·.1) := by
          rw [← told_kS]; exact (kS_mem told_tx).mpr z
        exact h3 _ h4 _ List.mem_cons_self rfl
      have hl2 : (toldT es').length < sizeLine := by
        have h1 := T.len
        rw [hes, List.length_append, List.length_cons] at h1
        unfold toldT
        rw [List.length_map, sizeLine_eq]; omega
      have e3 : setTD (.tab (toldT es')) (.str x) sh = some (.tab (toldT (es' ++ [(x, sh, m)]))) := by
        show (if (toldT es').length < sizeLine then some (D.tab (putD (toldT es') (.inr x) sh)) else none) = _
        rw [if_pos hl2, putD_new hn]
        unfold toldT
        rw [List.map_append]; rfl
      refine ⟨[some (.tup [.str "table", .tup (es.map entD), rest]), some (.tab kvs), some (.str "table"), some (.tab (toldT es')), some (.str x), some sh, some (.bl m), none], rfl, fun hp => ?_, fun hp => ?_⟩
      · have hp : (!(m && !decide (x ∈ kS kvs))) = true := hp
        refine ⟨[some (.tup [.str "table", .tup (es.map entD), rest]), some (.tab kvs), some (.str "table"), some (.tab (toldT (es' ++ [(x, sh, m)]))), some (.str x), some sh, some (.bl m), none], ?_, es' ++ [(x, sh, m)], some (.str x), some sh, some (.bl m), by rw [hpre, List.map_append]; rfl, rfl⟩
        cases m with
        | false => simp only [e3, tru_bl, fnD, startD, endK, sRet, sRetN, sSeq, seqK, sIf, sAsg, sDrop, sNil, liftX, tgN, sFor, sOwn1, sOwn2, optK, putK2, sAsgO, sRetO, isRT, dAnd, dOr, dIf, bnd_e, dOp, dUn, dAll, dCons, dNil, ret_ap, dVar, getS, lift_e, lift_n, dC, dTst, isBl, dCall, up, tAndD, tOrD, tNotD, dItems, itemsD, dRange, dMt, dLc, rowD, tupD, truD, notD, tyIs, List.map_cons, List.map_nil, List.length_cons, List.length_nil, List.cons_append, List.nil_append, List.replicate_succ, List.replicate_zero, List.getElem?_cons_zero, List.getElem?_cons_succ, List.set_cons_zero, List.set_cons_succ, Option.join_some, Option.join_none, Option.map_some, Option.map_none, Option.bind_some, Option.bind_none, Nat.reduceAdd, Nat.reduceSub, Nat.zero_add, if_true, if_false, ite_true, ite_false, reduceIte, Bool.false_eq_true, Bool.true_eq_false, eq_self_iff_true]
        | true =>
          by_cases hk : x ∈ kS kvs
          · simp only [e3, notin_tab T.tx, decide_eq_true hk, tru_bl, fnD, startD, endK, sRet, sRetN, sSeq, seqK, sIf, sAsg, sDrop, sNil, liftX, tgN, sFor, sOwn1, sOwn2, optK, putK2, sAsgO, sRetO, isRT, dAnd, dOr, dIf, bnd_e, dOp, dUn, dAll, dCons, dNil, ret_ap, dVar, getS, lift_e, lift_n, dC, dTst, isBl, dCall, up, tAndD, tOrD, tNotD, dItems, itemsD, dRange, dMt, dLc, rowD, tupD, truD, notD, tyIs, List.map_cons, List.map_nil, List.length_cons, List.length_nil, List.cons_append, List.nil_append, List.replicate_succ, List.replicate_zero, List.getElem?_cons_zero, List.getElem?_cons_succ, List.set_cons_zero, List.set_cons_succ, Option.join_some, Option.join_none, Option.map_some, Option.map_none, Option.bind_some, Option.bind_none, Nat.reduceAdd, Nat.reduceSub, Nat.zero_add, if_true, if_false, ite_true, ite_false, reduceIte, Bool.false_eq_true, Bool.true_eq_false, eq_self_iff_true, Bool.not_true, Bool.not_false]
          · rw [decide_eq_false hk] at hp; cases hp
      · have hp : (!(m && !decide (x ∈ kS kvs))) = false := hp
        cases m with
        | false => cases hp
        | true =>
          by_cases hk : x ∈ kS kvs
          · rw [decide_eq_true hk] at hp; cases hp
          · simp only [e3, notin_tab T.tx, decide_eq_false hk, tru_bl, fnD, startD, endK, sRet, sRetN, sSeq, seqK, sIf, sAsg, sDrop, sNil, liftX, tgN, sFor, sOwn1, sOwn2, optK, putK2, sAsgO, sRetO, isRT, dAnd, dOr, dIf, bnd_e, dOp, dUn, dAll, dCons, dNil, ret_ap, dVar, getS, lift_e, lift_n, dC, dTst, isBl, dCall, up, tAndD, tOrD, tNotD, dItems, itemsD, dRange, dMt, dLc, rowD, tupD, truD, notD, tyIs, List.map_cons, List.map_nil, List.length_cons, List.length_nil, List.cons_append, List.nil_append, List.replicate_succ, List.replicate_zero, List.getElem?_cons_zero, List.getElem?_cons_succ, List.set_cons_zero, List.set_cons_succ, Option.join_some, Option.join_none, Option.map_some, Option.map_none, Option.bind_some, Option.bind_none, Nat.reduceAdd, Nat.reduceSub, Nat.zero_add, if_true, if_false, ite_true, ite_false, reduceIte, Bool.false_eq_true, Bool.true_eq_false, eq_self_iff_true, Bool.not_true, Bool.not_false])
    (es.map entD) [] [some (.tup [.str "table", .tup (es.map entD), rest]), some (.tab kvs), some (.str "table"), some (.tab []), none, none, none, none] rfl ⟨[], none, none, none, rfl, rfl⟩
  cases ha : (es.map entD).all (mst kvs) with
  | false =>
    have hl2 := hl.2 ha
    simp only [b__law_fits, ix0, ix1, hi1, hi3, hl2, six, fnD, startD, endK, sRet, sRetN, sSeq, seqK, sIf, sAsg, sDrop, sNil, liftX, tgN, sFor, sOwn1, sOwn2, optK, putK2, sAsgO, sRetO, isRT, dAnd, dOr, dIf, bnd_e, dOp, dUn, dAll, dCons, dNil, ret_ap, dVar, getS, lift_e, lift_n, dC, dTst, isBl, dCall, up, tAndD, tOrD, tNotD, dItems, itemsD, dRange, dMt, dLc, rowD, tupD, truD, notD, tyIs, List.map_cons, List.map_nil, List.length_cons, List.length_nil, List.cons_append, List.nil_append, List.replicate_succ, List.replicate_zero, List.getElem?_cons_zero, List.getElem?_cons_succ, List.set_cons_zero, List.set_cons_succ, Option.join_some, Option.join_none, Option.map_some, Option.map_none, Option.bind_some, Option.bind_none, Nat.reduceAdd, Nat.reduceSub, Nat.zero_add, if_true, if_false, ite_true, ite_false, reduceIte, Bool.false_eq_true, Bool.true_eq_false, eq_self_iff_true, eq_any_any, eq_any_none, eq_any_truth, eq_any_number, eq_any_word, eq_any_row, eq_any_table, eq_any_or, eq_none_any, eq_none_none, eq_none_truth, eq_none_number, eq_none_word, eq_none_row, eq_none_table, eq_none_or, eq_truth_any, eq_truth_none, eq_truth_truth, eq_truth_number, eq_truth_word, eq_truth_row, eq_truth_table, eq_truth_or, eq_number_any, eq_number_none, eq_number_truth, eq_number_number, eq_number_word, eq_number_row, eq_number_table, eq_number_or, eq_word_any, eq_word_none, eq_word_truth, eq_word_number, eq_word_word, eq_word_row, eq_word_table, eq_word_or, eq_row_any, eq_row_none, eq_row_truth, eq_row_number, eq_row_word, eq_row_row, eq_row_table, eq_row_or, eq_table_any, eq_table_none, eq_table_truth, eq_table_number, eq_table_word, eq_table_row, eq_table_table, eq_table_or, eq_or_any, eq_or_none, eq_or_truth, eq_or_number, eq_or_word, eq_or_row, eq_or_table, eq_or_or, ne_any_any, ne_any_none, ne_any_truth, ne_any_number, ne_any_word, ne_any_row, ne_any_table, ne_any_or, ne_none_any, ne_none_none, ne_none_truth, ne_none_number, ne_none_word, ne_none_row, ne_none_table, ne_none_or, ne_truth_any, ne_truth_none, ne_truth_truth, ne_truth_number, ne_truth_word, ne_truth_row, ne_truth_table, ne_truth_or, ne_number_any, ne_number_none, ne_number_truth, ne_number_number, ne_number_word, ne_number_row, ne_number_table, ne_number_or, ne_word_any, ne_word_none, ne_word_truth, ne_word_number, ne_word_word, ne_word_row, ne_word_table, ne_word_or, ne_row_any, ne_row_none, ne_row_truth, ne_row_number, ne_row_word, ne_row_row, ne_row_table, ne_row_or, ne_table_any, ne_table_none, ne_table_truth, ne_table_number, ne_table_word, ne_table_row, ne_table_table, ne_table_or, ne_or_any, ne_or_none, ne_or_truth, ne_or_number, ne_or_word, ne_or_row, ne_or_table, ne_or_or, sz_any, sz_none, sz_truth, sz_number, sz_word, sz_row, sz_table, sz_or, nei_1, nei_2, nei_3, nei_4, Bool.false_and]
  | true =>
    obtain ⟨r, hl2, es', a, b, c, hpre, rfl⟩ := hl.1 ha
    have hes : es' = es := by
      have inj : ∀ (l1 l2 : List (Str × D × Bool)), l1.map entD = l2.map entD → l1 = l2 := by
        intro l1
        induction l1 with
        | nil => intro l2 h; cases l2 with
          | nil => rfl
          | cons _ _ => cases h
        | cons p l1 ih =>
          intro l2 h
          cases l2 with
          | nil => cases h
          | cons q l2 =>
            rw [List.map_cons, List.map_cons] at h
            injection h with h1 h2
            rw [entD_inj h1, ih l2 h2]
      exact (inj _ _ hpre).symm
    subst hes
    have h10 : keysD (.tab kvs) = some ((kS kvs).map D.str) := by
      show some (kvs.map fun kv => kD kv.1) = _
      rw [keys_txt T.tx]
    have hl3 := forL_chk (tg := tgN 4) (v := .bl false) (s := ()) (body := sIf (tOrD (tAndD (dTst (dOp (inD true) (dVar 4) (dVar 3)) isBl) (dTst (dUn (isND false) (dOp ixD (dVar 0) (dC (.int 2)))) isBl)) (tNotD (dTst (dCall 2 (fun ds => up ((den (k + 2 * n + 3))._law_fits ds)) (dCons (dMt "dict" get2D (dVar 3) (dCons (dVar 4) (dCons (dOp ixD (dVar 0) (dC (.int 2))) dNil))) (dCons (dOp ixD (dVar 1) (dVar 4)) dNil))) truD))) (sRet (dC (.bl false))) sNil)
      (fun _ r => ∃ a, r = [some (.tup [.str "table", .tup (es'.map entD), rest]), some (.tab kvs), some (.str "table"), some (.tab (toldT es')), a, b, c, none]) (P2 es' rest F G) ((kS kvs).map D.str) (fun pre x suf r hx ⟨a, hr⟩ => by
        have hm : x ∈ (kS kvs).map D.str := by rw [hx]; exact List.mem_append_right _ List.mem_cons_self
        obtain ⟨x, hk, rfl⟩ := List.mem_map.mp hm
        subst hr
        have hnt : inD true (.str x) (.tab (toldT es')) = some (.bl (!decide (x ∈ es'.map (·.1)))) := by rw [notin_tab told_tx, told_kS]
        refine ⟨[some (.tup [.str "table", .tup (es'.map entD), rest]), some (.tab kvs), some (.str "table"), some (.tab (toldT es')), some (.str x), b, c, none], rfl, ?_⟩
        by_cases hin : x ∈ es'.map (·.1)
        · obtain ⟨e, he, rfl⟩ := List.mem_map.mp hin
          have hf := (T.f e he hk).2 k
          have hget : get2D (.tab (toldT es')) [.str e.1, rest] = some e.2.1 := by
            show some ((valD (toldT es') (.inr e.1)).getD rest) = _
            rw [told_val T.nd he]; rfl
          have hP : P2 es' rest F G (.str e.1) = F e := by
            show (if e.1 ∈ es'.map (·.1) then FK es' F e.1 else _) = _
            rw [if_pos hin]
            unfold FK
            rw [find_ent T.nd he]
          rw [hP]
          refine ⟨fun hp => ⟨_, ?_, some (.str e.1), rfl⟩, fun hp => ?_⟩
          · rw [hp] at hf
            simp only [hnt, decide_eq_true hin, ix2, hget, ix_tab T.tx hk, hf, tru_bl, isN_f, fnD, startD, endK, sRet, sRetN, sSeq, seqK, sIf, sAsg, sDrop, sNil, liftX, tgN, sFor, sOwn1, sOwn2, optK, putK2, sAsgO, sRetO, isRT, dAnd, dOr, dIf, bnd_e, dOp, dUn, dAll, dCons, dNil, ret_ap, dVar, getS, lift_e, lift_n, dC, dTst, isBl, dCall, up, tAndD, tOrD, tNotD, dItems, itemsD, dRange, dMt, dLc, rowD, tupD, truD, notD, tyIs, List.map_cons, List.map_nil, List.length_cons, List.length_nil, List.cons_append, List.nil_append, List.replicate_succ, List.replicate_zero, List.getElem?_cons_zero, List.getElem?_cons_succ, List.set_cons_zero, List.set_cons_succ, Option.join_some, Option.join_none, Option.map_some, Option.map_none, Option.bind_some, Option.bind_none, Nat.reduceAdd, Nat.reduceSub, Nat.zero_add, if_true, if_false, ite_true, ite_false, reduceIte, Bool.false_eq_true, Bool.true_eq_false, eq_self_iff_true, Bool.not_true, Bool.not_false]
          · rw [hp] at hf
            simp only [hnt, decide_eq_true hin, ix2, hget, ix_tab T.tx hk, hf, tru_bl, isN_f, fnD, startD, endK, sRet, sRetN, sSeq, seqK, sIf, sAsg, sDrop, sNil, liftX, tgN, sFor, sOwn1, sOwn2, optK, putK2, sAsgO, sRetO, isRT, dAnd, dOr, dIf, bnd_e, dOp, dUn, dAll, dCons, dNil, ret_ap, dVar, getS, lift_e, lift_n, dC, dTst, isBl, dCall, up, tAndD, tOrD, tNotD, dItems, itemsD, dRange, dMt, dLc, rowD, tupD, truD, notD, tyIs, List.map_cons, List.map_nil, List.length_cons, List.length_nil, List.cons_append, List.nil_append, List.replicate_succ, List.replicate_zero, List.getElem?_cons_zero, List.getElem?_cons_succ, List.set_cons_zero, List.set_cons_succ, Option.join_some, Option.join_none, Option.map_some, Option.map_none, Option.bind_some, Option.bind_none, Nat.reduceAdd, Nat.reduceSub, Nat.zero_add, if_true, if_false, ite_true, ite_false, reduceIte, Bool.false_eq_true, Bool.true_eq_false, eq_self_iff_true, Bool.not_true, Bool.not_false]
        · have hP : P2 es' rest F G (.str x) = h2 rest G x := by
            show (if x ∈ es'.map (·.1) then _ else _) = _
            rw [if_neg hin]
          rw [hP]
          have hnone : valD (toldT es') (.inr x) = none := by
            have h1 := val_some (told_tx (es := es')) x
            rw [told_kS, decide_eq_false hin] at h1
            cases hq : valD (toldT es') (.inr x) with
            | none => rfl
            | some _ => rw [hq] at h1; cases h1
          have hget : get2D (.tab (toldT es')) [.str x, rest] = some rest := by
            show some ((valD (toldT es') (.inr x)).getD rest) = _
            rw [hnone]; rfl
          unfold h2
          cases hn : isn rest with
          | true =>
            refine ⟨(fun hp => nomatch hp), fun hp => ?_⟩
            simp only [hnt, decide_eq_false hin, ix2, isN_f, hn, tru_bl, fnD, startD, endK, sRet, sRetN, sSeq, seqK, sIf, sAsg, sDrop, sNil, liftX, tgN, sFor, sOwn1, sOwn2, optK, putK2, sAsgO, sRetO, isRT, dAnd, dOr, dIf, bnd_e, dOp, dUn, dAll, dCons, dNil, ret_ap, dVar, getS, lift_e, lift_n, dC, dTst, isBl, dCall, up, tAndD, tOrD, tNotD, dItems, itemsD, dRange, dMt, dLc, rowD, tupD, truD, notD, tyIs, List.map_cons, List.map_nil, List.length_cons, List.length_nil, List.cons_append, List.nil_append, List.replicate_succ, List.replicate_zero, List.getElem?_cons_zero, List.getElem?_cons_succ, List.set_cons_zero, List.set_cons_succ, Option.join_some, Option.join_none, Option.map_some, Option.map_none, Option.bind_some, Option.bind_none, Nat.reduceAdd, Nat.reduceSub, Nat.zero_add, if_true, if_false, ite_true, ite_false, reduceIte, Bool.false_eq_true, Bool.true_eq_false, eq_self_iff_true, Bool.not_true, Bool.not_false]
          | false =>
            have hf := (T.g x hk (isn_ne hn)).2 k
            rw [Bool.not_false, Bool.true_and]
            refine ⟨fun hp => ⟨_, ?_, some (.str x), rfl⟩, fun hp => ?_⟩
            · rw [hp] at hf
              simp only [hnt, decide_eq_false hin, ix2, isN_f, hn, hget, ix_tab T.tx hk, hf, tru_bl, fnD, startD, endK, sRet, sRetN, sSeq, seqK, sIf, sAsg, sDrop, sNil, liftX, tgN, sFor, sOwn1, sOwn2, optK, putK2, sAsgO, sRetO, isRT, dAnd, dOr, dIf, bnd_e, dOp, dUn, dAll, dCons, dNil, ret_ap, dVar, getS, lift_e, lift_n, dC, dTst, isBl, dCall, up, tAndD, tOrD, tNotD, dItems, itemsD, dRange, dMt, dLc, rowD, tupD, truD, notD, tyIs, List.map_cons, List.map_nil, List.length_cons, List.length_nil, List.cons_append, List.nil_append, List.replicate_succ, List.replicate_zero, List.getElem?_cons_zero, List.getElem?_cons_succ, List.set_cons_zero, List.set_cons_succ, Option.join_some, Option.join_none, Option.map_some, Option.map_none, Option.bind_some, Option.bind_none, Nat.reduceAdd, Nat.reduceSub, Nat.zero_add, if_true, if_false, ite_true, ite_false, reduceIte, Bool.false_eq_true, Bool.true_eq_false, eq_self_iff_true, Bool.not_true, Bool.not_false]
            · rw [hp] at hf
              simp only [hnt, decide_eq_false hin, ix2, isN_f, hn, hget, ix_tab T.tx hk, hf, tru_bl, fnD, startD, endK, sRet, sRetN, sSeq, seqK, sIf, sAsg, sDrop, sNil, liftX, tgN, sFor, sOwn1, sOwn2, optK, putK2, sAsgO, sRetO, isRT, dAnd, dOr, dIf, bnd_e, dOp, dUn, dAll, dCons, dNil, ret_ap, dVar, getS, lift_e, lift_n, dC, dTst, isBl, dCall, up, tAndD, tOrD, tNotD, dItems, itemsD, dRange, dMt, dLc, rowD, tupD, truD, notD, tyIs, List.map_cons, List.map_nil, List.length_cons, List.length_nil, List.cons_append, List.nil_append, List.replicate_succ, List.replicate_zero, List.getElem?_cons_zero, List.getElem?_cons_succ, List.set_cons_zero, List.set_cons_succ, Option.join_some, Option.join_none, Option.map_some, Option.map_none, Option.bind_some, Option.bind_none, Nat.reduceAdd, Nat.reduceSub, Nat.zero_add, if_true, if_false, ite_true, ite_false, reduceIte, Bool.false_eq_true, Bool.true_eq_false, eq_self_iff_true, Bool.not_true, Bool.not_false])
      ((kS kvs).map D.str) [] [some (.tup [.str "table", .tup (es'.map entD), rest]), some (.tab kvs), some (.str "table"), some (.tab (toldT es')), a, b, c, none] rfl ⟨a, rfl⟩
    cases hb : ((kS kvs).map D.str).all (P2 es' rest F G) with
    | false =>
      have hl4 := hl3.2 hb
      simp only [b__law_fits, ix0, ix1, hi1, hi3, hl2, h10, hl4, six, fnD, startD, endK, sRet, sRetN, sSeq, seqK, sIf, sAsg, sDrop, sNil, liftX, tgN, sFor, sOwn1, sOwn2, optK, putK2, sAsgO, sRetO, isRT, dAnd, dOr, dIf, bnd_e, dOp, dUn, dAll, dCons, dNil, ret_ap, dVar, getS, lift_e, lift_n, dC, dTst, isBl, dCall, up, tAndD, tOrD, tNotD, dItems, itemsD, dRange, dMt, dLc, rowD, tupD, truD, notD, tyIs, List.map_cons, List.map_nil, List.length_cons, List.length_nil, List.cons_append, List.nil_append, List.replicate_succ, List.replicate_zero, List.getElem?_cons_zero, List.getElem?_cons_succ, List.set_cons_zero, List.set_cons_succ, Option.join_some, Option.join_none, Option.map_some, Option.map_none, Option.bind_some, Option.bind_none, Nat.reduceAdd, Nat.reduceSub, Nat.zero_add, if_true, if_false, ite_true, ite_false, reduceIte, Bool.false_eq_true, Bool.true_eq_false, eq_self_iff_true, eq_any_any, eq_any_none, eq_any_truth, eq_any_number, eq_any_word, eq_any_row, eq_any_table, eq_any_or, eq_none_any, eq_none_none, eq_none_truth, eq_none_number, eq_none_word, eq_none_row, eq_none_table, eq_none_or, eq_truth_any, eq_truth_none, eq_truth_truth, eq_truth_number, eq_truth_word, eq_truth_row, eq_truth_table, eq_truth_or, eq_number_any, eq_number_none, eq_number_truth, eq_number_number, eq_number_word, eq_number_row, eq_number_table, eq_number_or, eq_word_any, eq_word_none, eq_word_truth, eq_word_number, eq_word_word, eq_word_row, eq_word_table, eq_word_or, eq_row_any, eq_row_none, eq_row_truth, eq_row_number, eq_row_word, eq_row_row, eq_row_table, eq_row_or, eq_table_any, eq_table_none, eq_table_truth, eq_table_number, eq_table_word, eq_table_row, eq_table_table, eq_table_or, eq_or_any, eq_or_none, eq_or_truth, eq_or_number, eq_or_word, eq_or_row, eq_or_table, eq_or_or, ne_any_any, ne_any_none, ne_any_truth, ne_any_number, ne_any_word, ne_any_row, ne_any_table, ne_any_or, ne_none_any, ne_none_none, ne_none_truth, ne_none_number, ne_none_word, ne_none_row, ne_none_table, ne_none_or, ne_truth_any, ne_truth_none, ne_truth_truth, ne_truth_number, ne_truth_word, ne_truth_row, ne_truth_table, ne_truth_or, ne_number_any, ne_number_none, ne_number_truth, ne_number_number, ne_number_word, ne_number_row, ne_number_table, ne_number_or, ne_word_any, ne_word_none, ne_word_truth, ne_word_number, ne_word_word, ne_word_row, ne_word_table, ne_word_or, ne_row_any, ne_row_none, ne_row_truth, ne_row_number, ne_row_word, ne_row_row, ne_row_table, ne_row_or, ne_table_any, ne_table_none, ne_table_truth, ne_table_number, ne_table_word, ne_table_row, ne_table_table, ne_table_or, ne_or_any, ne_or_none, ne_or_truth, ne_or_number, ne_or_word, ne_or_row, ne_or_table, ne_or_or, sz_any, sz_none, sz_truth, sz_number, sz_word, sz_row, sz_table, sz_or, nei_1, nei_2, nei_3, nei_4, Bool.true_and]
    | true =>
      obtain ⟨r, hl4, a', rfl⟩ := hl3.1 hb
      simp only [b__law_fits, ix0, ix1, hi1, hi3, hl2, h10, hl4, six, fnD, startD, endK, sRet, sRetN, sSeq, seqK, sIf, sAsg, sDrop, sNil, liftX, tgN, sFor, sOwn1, sOwn2, optK, putK2, sAsgO, sRetO, isRT, dAnd, dOr, dIf, bnd_e, dOp, dUn, dAll, dCons, dNil, ret_ap, dVar, getS, lift_e, lift_n, dC, dTst, isBl, dCall, up, tAndD, tOrD, tNotD, dItems, itemsD, dRange, dMt, dLc, rowD, tupD, truD, notD, tyIs, List.map_cons, List.map_nil, List.length_cons, List.length_nil, List.cons_append, List.nil_append, List.replicate_succ, List.replicate_zero, List.getElem?_cons_zero, List.getElem?_cons_succ, List.set_cons_zero, List.set_cons_succ, Option.join_some, Option.join_none, Option.map_some, Option.map_none, Option.bind_some, Option.bind_none, Nat.reduceAdd, Nat.reduceSub, Nat.zero_add, if_true, if_false, ite_true, ite_false, reduceIte, Bool.false_eq_true, Bool.true_eq_false, eq_self_iff_true, eq_any_any, eq_any_none, eq_any_truth, eq_any_number, eq_any_word, eq_any_row, eq_any_table, eq_any_or, eq_none_any, eq_none_none, eq_none_truth, eq_none_number, eq_none_word, eq_none_row, eq_none_table, eq_none_or, eq_truth_any, eq_truth_none, eq_truth_truth, eq_truth_number, eq_truth_word, eq_truth_row, eq_truth_table, eq_truth_or, eq_number_any, eq_number_none, eq_number_truth, eq_number_number, eq_number_word, eq_number_row, eq_number_table, eq_number_or, eq_word_any, eq_word_none, eq_word_truth, eq_word_number, eq_word_word, eq_word_row, eq_word_table, eq_word_or, eq_row_any, eq_row_none, eq_row_truth, eq_row_number, eq_row_word, eq_row_row, eq_row_table, eq_row_or, eq_table_any, eq_table_none, eq_table_truth, eq_table_number, eq_table_word, eq_table_row, eq_table_table, eq_table_or, eq_or_any, eq_or_none, eq_or_truth, eq_or_number, eq_or_word, eq_or_row, eq_or_table, eq_or_or, ne_any_any, ne_any_none, ne_any_truth, ne_any_number, ne_any_word, ne_any_row, ne_any_table, ne_any_or, ne_none_any, ne_none_none, ne_none_truth, ne_none_number, ne_none_word, ne_none_row, ne_none_table, ne_none_or, ne_truth_any, ne_truth_none, ne_truth_truth, ne_truth_number, ne_truth_word, ne_truth_row, ne_truth_table, ne_truth_or, ne_number_any, ne_number_none, ne_number_truth, ne_number_number, ne_number_word, ne_number_row, ne_number_table, ne_number_or, ne_word_any, ne_word_none, ne_word_truth, ne_word_number, ne_word_word, ne_word_row, ne_word_table, ne_word_or, ne_row_any, ne_row_none, ne_row_truth, ne_row_number, ne_row_word, ne_row_row, ne_row_table, ne_row_or, ne_table_any, ne_table_none, ne_table_truth, ne_table_number, ne_table_word, ne_table_row, ne_table_table, ne_table_or, ne_or_any, ne_or_none, ne_or_truth, ne_or_number, ne_or_word, ne_or_row, ne_or_table, ne_or_or, sz_any, sz_none, sz_truth, sz_number, sz_word, sz_row, sz_table, sz_or, nei_1, nei_2, nei_3, nei_4, Bool.true_and]
theorem tab_same {F : Str × D × Bool → Bool} {G : Str → Bool} (T : TF es rest kvs n F G) : ((es.map entD).all (chk kvs F) && ((kS kvs).filter fun x => !decide (x ∈ es.map (·.1))).all (h2 rest G)) = ((es.map entD).all (mst kvs) && ((kS kvs).map D.str).all (P2 es rest F G)) := by
  rw [Bool.eq_iff_iff, Bool.and_eq_true, Bool.and_eq_true, List.all_map, List.all_map, List.all_map, List.all_eq_true, List.all_eq_true, List.all_eq_true, List.all_eq_true]
  constructor
  · rintro ⟨h1, h3⟩
    refine ⟨fun e he => ?_, fun x hx => ?_⟩
    · have h := h1 e he
      obtain ⟨x, s, m⟩ := e
      have h : (!((decide (x ∈ kS kvs) && !F (x, s, m)) || (m && !decide (x ∈ kS kvs)))) = true := h
      show (!(m && !decide (x ∈ kS kvs))) = true
      rw [Bool.not_or, Bool.and_eq_true] at h
      exact h.2
    · show (if x ∈ es.map (·.1) then FK es F x else h2 rest G x) = true
      by_cases hin : x ∈ es.map (·.1)
      · rw [if_pos hin]
        obtain ⟨e, he, rfl⟩ := List.mem_map.mp hin
        unfold FK
        rw [find_ent T.nd he]
        have h := h1 e he
        obtain ⟨x, s, m⟩ := e
        have h : (!((decide (x ∈ kS kvs) && !F (x, s, m)) || (m && !decide (x ∈ kS kvs)))) = true := h
        have hx : x ∈ kS kvs := hx
        rw [decide_eq_true hx] at h
        show F (x, s, m) = true
        cases hq : F (x, s, m) with
        | true => rfl
        | false => rw [hq] at h; cases h
      · rw [if_neg hin]
        exact h3 x (List.mem_filter.mpr ⟨hx, by rw [decide_eq_false hin]; rfl⟩)
  · rintro ⟨h1, h3⟩
    refine ⟨fun e he => ?_, fun x hx => ?_⟩
    · have h := h1 e he
      have hin : e.1 ∈ es.map (·.1) := List.mem_map_of_mem he
      have hff := find_ent T.nd he
      obtain ⟨x, s, m⟩ := e
      have h : (!(m && !decide (x ∈ kS kvs))) = true := h
      show (!((decide (x ∈ kS kvs) && !F (x, s, m)) || (m && !decide (x ∈ kS kvs)))) = true
      by_cases hk : x ∈ kS kvs
      · have h4 : (if x ∈ es.map (·.1) then FK es F x else h2 rest G x) = true := h3 x hk
        rw [if_pos hin] at h4
        unfold FK at h4
        have hff : es.find? (fun q => decide (q.1 = x)) = some (x, s, m) := hff
        rw [hff] at h4
        have h4 : F (x, s, m) = true := h4
        rw [decide_eq_true hk, h4]
        cases m <;> rfl
      · rw [decide_eq_false hk] at h ⊢
        cases m <;> first | rfl | cases h
    · obtain ⟨hk, hn⟩ := List.mem_filter.mp hx
      have h4 : (if x ∈ es.map (·.1) then FK es F x else h2 rest G x) = true := h3 x hk
      by_cases hin : x ∈ es.map (·.1)
      · rw [decide_eq_true hin] at hn; cases hn
      · rw [if_neg hin] at h4; exact h4
end
end Nw
set_option Elab.async false
set_option linter.all false
set_option maxRecDepth 100000
set_option maxHeartbeats 4000000
namespace Nw
open PySem PySem.Spec L2
theorem th_inv {m : Nat} {t : D} {w : Str} (h : ThD m t) (hk : kw t = w) : (w = "none" → t = .non) ∧ (w = "truth" → ∃ b, t = .bl b) ∧ (w = "number" → ∃ i, t = .int i) ∧ (w = "word" → ∃ x, t = .str x) ∧ (w = "row" → ∃ xs, t = .row xs) ∧ (w = "table" → ∃ kvs, t = .tab kvs) := by
  subst hk
  rcases th_kinds h with rfl | ⟨b, rfl⟩ | ⟨b, rfl⟩ | ⟨b, rfl⟩ | ⟨b, rfl⟩ | ⟨b, rfl⟩
  · exact ⟨fun _ => rfl, fun z => absurd (show ("none" : Str) = "truth" from z) (by decide +kernel), fun z => absurd (show ("none" : Str) = "number" from z) (by decide +kernel), fun z => absurd (show ("none" : Str) = "word" from z) (by decide +kernel), fun z => absurd (show ("none" : Str) = "row" from z) (by decide +kernel), fun z => absurd (show ("none" : Str) = "table" from z) (by decide +kernel)⟩
  · exact ⟨fun z => absurd (show ("truth" : Str) = "none" from z) (by decide +kernel), fun _ => ⟨_, rfl⟩, fun z => absurd (show ("truth" : Str) = "number" from z) (by decide +kernel), fun z => absurd (show ("truth" : Str) = "word" from z) (by decide +kernel), fun z => absurd (show ("truth" : Str) = "row" from z) (by decide +kernel), fun z => absurd (show ("truth" : Str) = "table" from z) (by decide +kernel)⟩
  · exact ⟨fun z => absurd (show ("number" : Str) = "none" from z) (by decide +kernel), fun z => absurd (show ("number" : Str) = "truth" from z) (by decide +kernel), fun _ => ⟨_, rfl⟩, fun z => absurd (show ("number" : Str) = "word" from z) (by decide +kernel), fun z => absurd (show ("number" : Str) = "row" from z) (by decide +kernel), fun z => absurd (show ("number" : Str) = "table" from z) (by decide +kernel)⟩
  · exact ⟨fun z => absurd (show ("word" : Str) = "none" from z) (by decide +kernel), fun z => absurd (show ("word" : Str) = "truth" from z) (by decide +kernel), fun z => absurd (show ("word" : Str) = "number" from z) (by decide +kernel), fun _ => ⟨_, rfl⟩, fun z => absurd (show ("word" : Str) = "row" from z) (by decide +kernel), fun z => absurd (show ("word" : Str) = "table" from z) (by decide +kernel)⟩
  · exact ⟨fun z => absurd (show ("row" : Str) = "none" from z) (by decide +kernel), fun z => absurd (show ("row" : Str) = "truth" from z) (by decide +kernel), fun z => absurd (show ("row" : Str) = "number" from z) (by decide +kernel), fun z => absurd (show ("row" : Str) = "word" from z) (by decide +kernel), fun _ => ⟨_, rfl⟩, fun z => absurd (show ("row" : Str) = "table" from z) (by decide +kernel)⟩
  · exact ⟨fun z => absurd (show ("table" : Str) = "none" from z) (by decide +kernel), fun z => absurd (show ("table" : Str) = "truth" from z) (by decide +kernel), fun z => absurd (show ("table" : Str) = "number" from z) (by decide +kernel), fun z => absurd (show ("table" : Str) = "word" from z) (by decide +kernel), fun z => absurd (show ("table" : Str) = "row" from z) (by decide +kernel), fun _ => ⟨_, rfl⟩⟩
theorem kd0 : ixD (.row [.str "none", .str "truth", .str "number", .str "word", .str "row", .str "table"]) (.int 0) = some (.str "none") := by kernel_rfl
theorem kd1 : ixD (.row [.str "none", .str "truth", .str "number", .str "word", .str "row", .str "table"]) (.int 1) = some (.str "truth") := by kernel_rfl
theorem kd2 : ixD (.row [.str "none", .str "truth", .str "number", .str "word", .str "row", .str "table"]) (.int 2) = some (.str "number") := by kernel_rfl
theorem kd3 : ixD (.row [.str "none", .str "truth", .str "number", .str "word", .str "row", .str "table"]) (.int 3) = some (.str "word") := by kernel_rfl
theorem kd4 : ixD (.row [.str "none", .str "truth", .str "number", .str "word", .str "row", .str "table"]) (.int 4) = some (.str "row") := by kernel_rfl
theorem kd5 : ixD (.row [.str "none", .str "truth", .str "number", .str "word", .str "row", .str "table"]) (.int 5) = some (.str "table") := by kernel_rfl
theorem len_row (xs : List D) : lenD [.row xs] = some (.int (xs.length : Int)) := rfl
theorem len_str (x : Str) : lenD [.str x] = some (.int (x.length : Nat)) := rfl
/-- a thing fits -/
inductive Ft : D → D → Prop
  | any {t : D} : Ft (.tup [.str "any"]) t
  | none : Ft (.tup [.str "none"]) .non
  | truth {b : Bool} : Ft (.tup [.str "truth"]) (.bl b)
  | number {a b i : Int} : a ≤ i → i ≤ b → Ft (.tup [.str "number", .int a, .int b]) (.int i)
  | word {a : Int} {x : Str} : ((x.length : Nat) : Int) ≤ a → Ft (.tup [.str "word", .int a]) (.str x)
  | row {s : D} {a b : Int} {xs : List D} : a ≤ (xs.length : Int) → (xs.length : Int) ≤ b → (∀ x ∈ xs, Ft s x) → Ft (.tup [.str "row", s, .int a, .int b]) (.row xs)
  | or_ {ps : List D} {t p : D} : p ∈ ps → Ft p t → Ft (.tup [.str "or", .tup ps]) t
  | table {es : List (Str × D × Bool)} {rest : D} {kvs : List (Key × D)} : (∀ e ∈ es, e.1 ∈ kS kvs → Ft e.2.1 (gv kvs e.1)) → (∀ e ∈ es, e.2.2 = true → e.1 ∈ kS kvs) → (∀ x ∈ kS kvs, x ∈ es.map (·.1)) → Ft (.tup [.str "table", .tup (es.map entD), rest]) (.tab kvs)
theorem ft_kw {w : Str} {l : List D} {t : D} (h : Ft (.tup (.str w :: l)) t) (hw : (decide (w = "any") || decide (w = "or")) = false) : kw t = w := by
  cases h with
  | any => exact absurd hw (by decide +kernel)
  | or_ _ _ => exact absurd hw (by decide +kernel)
  | _ => rfl
theorem map_ent_inj : ∀ {l1 l2 : List (Str × D × Bool)}, l1.map entD = l2.map entD → l1 = l2
  | [], [], _ => rfl
  | [], _ :: _, h => by cases h
  | _ :: _, [], h => by cases h
  | p :: l1, q :: l2, h => by
    rw [List.map_cons, List.map_cons] at h
    injection h with h1 h2
    rw [entD_inj h1, map_ent_inj h2]
theorem fit_eq {n : Nat} {d : D} (h : Sh n d) : ∀ {m : Nat} {t : D}, ThD m t → ∃ b : Bool, fitB d t n b ∧ (Ft d t → b = true) := by
  induction h with
  | @any n =>
    intro m t ht
    refine ⟨true, ⟨fun k => ?_, fun k => ?_⟩, fun _ => rfl⟩
    · rw [show (den (k + 2 * n + 3)).is_fit = fnD 4 (b_is_fit (den (k + 2 * n + 2))) from rfl]
      simp only [b_is_fit, ix0, fnD, startD, endK, sRet, sRetN, sSeq, seqK, sIf, sAsg, sDrop, sNil, liftX, tgN, sFor, sOwn1, sOwn2, optK, putK2, sAsgO, sRetO, isRT, dAnd, dOr, dIf, bnd_e, dOp, dUn, dAll, dCons, dNil, ret_ap, dVar, getS, lift_e, lift_n, dC, dTst, isBl, dCall, up, tAndD, tOrD, tNotD, dItems, itemsD, dRange, dMt, dLc, rowD, tupD, truD, notD, tyIs, List.map_cons, List.map_nil, List.length_cons, List.length_nil, List.cons_append, List.nil_append, List.replicate_succ, List.replicate_zero, List.getElem?_cons_zero, List.getElem?_cons_succ, List.set_cons_zero, List.set_cons_succ, Option.join_some, Option.join_none, Option.map_some, Option.map_none, Option.bind_some, Option.bind_none, Nat.reduceAdd, Nat.reduceSub, Nat.zero_add, if_true, if_false, ite_true, ite_false, reduceIte, Bool.false_eq_true, Bool.true_eq_false, eq_self_iff_true, eq_any_any, eq_any_none, eq_any_truth, eq_any_number, eq_any_word, eq_any_row, eq_any_table, eq_any_or, eq_none_any, eq_none_none, eq_none_truth, eq_none_number, eq_none_word, eq_none_row, eq_none_table, eq_none_or, eq_truth_any, eq_truth_none, eq_truth_truth, eq_truth_number, eq_truth_word, eq_truth_row, eq_truth_table, eq_truth_or, eq_number_any, eq_number_none, eq_number_truth, eq_number_number, eq_number_word, eq_number_row, eq_number_table, eq_number_or, eq_word_any, eq_word_none, eq_word_truth, eq_word_number, eq_word_word, eq_word_row, eq_word_table, eq_word_or, eq_row_any, eq_row_none, eq_row_truth, eq_row_number, eq_row_word, eq_row_row, eq_row_table, eq_row_or, eq_table_any, eq_table_none, eq_table_truth, eq_table_number, eq_table_word, eq_table_row, eq_table_table, eq_table_or, eq_or_any, eq_or_none, eq_or_truth, eq_or_number, eq_or_word, eq_or_row, eq_or_table, eq_or_or, ne_any_any, ne_any_none, ne_any_truth, ne_any_number, ne_any_word, ne_any_row, ne_any_table, ne_any_or, ne_none_any, ne_none_none, ne_none_truth, ne_none_number, ne_none_word, ne_none_row, ne_none_table, ne_none_or, ne_truth_any, ne_truth_none, ne_truth_truth, ne_truth_number, ne_truth_word, ne_truth_row, ne_truth_table, ne_truth_or, ne_number_any, ne_number_none, ne_number_truth, ne_number_number, ne_number_word, ne_number_row, ne_number_table, ne_number_or, ne_word_any, ne_word_none, ne_word_truth, ne_word_number, ne_word_word, ne_word_row, ne_word_table, ne_word_or, ne_row_any, ne_row_none, ne_row_truth, ne_row_number, ne_row_word, ne_row_row, ne_row_table, ne_row_or, ne_table_any, ne_table_none, ne_table_truth, ne_table_number, ne_table_word, ne_table_row, ne_table_table, ne_table_or, ne_or_any, ne_or_none, ne_or_truth, ne_or_number, ne_or_word, ne_or_row, ne_or_table, ne_or_or, sz_any, sz_none, sz_truth, sz_number, sz_word, sz_row, sz_table, sz_or, nei_1, nei_2, nei_3, nei_4]
    · rw [show (den (k + 2 * n + 3))._law_fits = fnD 8 (b__law_fits (den (k + 2 * n + 2))) from rfl]
      simp only [b__law_fits, ix0, fnD, startD, endK, sRet, sRetN, sSeq, seqK, sIf, sAsg, sDrop, sNil, liftX, tgN, sFor, sOwn1, sOwn2, optK, putK2, sAsgO, sRetO, isRT, dAnd, dOr, dIf, bnd_e, dOp, dUn, dAll, dCons, dNil, ret_ap, dVar, getS, lift_e, lift_n, dC, dTst, isBl, dCall, up, tAndD, tOrD, tNotD, dItems, itemsD, dRange, dMt, dLc, rowD, tupD, truD, notD, tyIs, List.map_cons, List.map_nil, List.length_cons, List.length_nil, List.cons_append, List.nil_append, List.replicate_succ, List.replicate_zero, List.getElem?_cons_zero, List.getElem?_cons_succ, List.set_cons_zero, List.set_cons_succ, Option.join_some, Option.join_none, Option.map_some, Option.map_none, Option.bind_some, Option.bind_none, Nat.reduceAdd, Nat.reduceSub, Nat.zero_add, if_true, if_false, ite_true, ite_false, reduceIte, Bool.false_eq_true, Bool.true_eq_false, eq_self_iff_true, eq_any_any, eq_any_none, eq_any_truth, eq_any_number, eq_any_word, eq_any_row, eq_any_table, eq_any_or, eq_none_any, eq_none_none, eq_none_truth, eq_none_number, eq_none_word, eq_none_row, eq_none_table, eq_none_or, eq_truth_any, eq_truth_none, eq_truth_truth, eq_truth_number, eq_truth_word, eq_truth_row, eq_truth_table, eq_truth_or, eq_number_any, eq_number_none, eq_number_truth, eq_number_number, eq_number_word, eq_number_row, eq_number_table, eq_number_or, eq_word_any, eq_word_none, eq_word_truth, eq_word_number, eq_word_word, eq_word_row, eq_word_table, eq_word_or, eq_row_any, eq_row_none, eq_row_truth, eq_row_number, eq_row_word, eq_row_row, eq_row_table, eq_row_or, eq_table_any, eq_table_none, eq_table_truth, eq_table_number, eq_table_word, eq_table_row, eq_table_table, eq_table_or, eq_or_any, eq_or_none, eq_or_truth, eq_or_number, eq_or_word, eq_or_row, eq_or_table, eq_or_or, ne_any_any, ne_any_none, ne_any_truth, ne_any_number, ne_any_word, ne_any_row, ne_any_table, ne_any_or, ne_none_any, ne_none_none, ne_none_truth, ne_none_number, ne_none_word, ne_none_row, ne_none_table, ne_none_or, ne_truth_any, ne_truth_none, ne_truth_truth, ne_truth_number, ne_truth_word, ne_truth_row, ne_truth_table, ne_truth_or, ne_number_any, ne_number_none, ne_number_truth, ne_number_number, ne_number_word, ne_number_row, ne_number_table, ne_number_or, ne_word_any, ne_word_none, ne_word_truth, ne_word_number, ne_word_word, ne_word_row, ne_word_table, ne_word_or, ne_row_any, ne_row_none, ne_row_truth, ne_row_number, ne_row_word, ne_row_row, ne_row_table, ne_row_or, ne_table_any, ne_table_none, ne_table_truth, ne_table_number, ne_table_word, ne_table_row, ne_table_table, ne_table_or, ne_or_any, ne_or_none, ne_or_truth, ne_or_number, ne_or_word, ne_or_row, ne_or_table, ne_or_or, sz_any, sz_none, sz_truth, sz_number, sz_word, sz_row, sz_table, sz_or, nei_1, nei_2, nei_3, nei_4]
  | @none n =>
    intro m t ht
    by_cases hk : kw t = "none"
    · obtain rfl := (th_inv ht hk).1 rfl
      refine ⟨true, ⟨fun k => ?_, fun k => ?_⟩, fun _ => rfl⟩
      · rw [show (den (k + 2 * n + 3)).is_fit = fnD 4 (b_is_fit (den (k + 2 * n + 2))) from rfl]
        simp only [b_is_fit, ix0, kind_non, fnD, startD, endK, sRet, sRetN, sSeq, seqK, sIf, sAsg, sDrop, sNil, liftX, tgN, sFor, sOwn1, sOwn2, optK, putK2, sAsgO, sRetO, isRT, dAnd, dOr, dIf, bnd_e, dOp, dUn, dAll, dCons, dNil, ret_ap, dVar, getS, lift_e, lift_n, dC, dTst, isBl, dCall, up, tAndD, tOrD, tNotD, dItems, itemsD, dRange, dMt, dLc, rowD, tupD, truD, notD, tyIs, List.map_cons, List.map_nil, List.length_cons, List.length_nil, List.cons_append, List.nil_append, List.replicate_succ, List.replicate_zero, List.getElem?_cons_zero, List.getElem?_cons_succ, List.set_cons_zero, List.set_cons_succ, Option.join_some, Option.join_none, Option.map_some, Option.map_none, Option.bind_some, Option.bind_none, Nat.reduceAdd, Nat.reduceSub, Nat.zero_add, if_true, if_false, ite_true, ite_false, reduceIte, Bool.false_eq_true, Bool.true_eq_false, eq_self_iff_true, eq_any_any, eq_any_none, eq_any_truth, eq_any_number, eq_any_word, eq_any_row, eq_any_table, eq_any_or, eq_none_any, eq_none_none, eq_none_truth, eq_none_number, eq_none_word, eq_none_row, eq_none_table, eq_none_or, eq_truth_any, eq_truth_none, eq_truth_truth, eq_truth_number, eq_truth_word, eq_truth_row, eq_truth_table, eq_truth_or, eq_number_any, eq_number_none, eq_number_truth, eq_number_number, eq_number_word, eq_number_row, eq_number_table, eq_number_or, eq_word_any, eq_word_none, eq_word_truth, eq_word_number, eq_word_word, eq_word_row, eq_word_table, eq_word_or, eq_row_any, eq_row_none, eq_row_truth, eq_row_number, eq_row_word, eq_row_row, eq_row_table, eq_row_or, eq_table_any, eq_table_none, eq_table_truth, eq_table_number, eq_table_word, eq_table_row, eq_table_table, eq_table_or, eq_or_any, eq_or_none, eq_or_truth, eq_or_number, eq_or_word, eq_or_row, eq_or_table, eq_or_or, ne_any_any, ne_any_none, ne_any_truth, ne_any_number, ne_any_word, ne_any_row, ne_any_table, ne_any_or, ne_none_any, ne_none_none, ne_none_truth, ne_none_number, ne_none_word, ne_none_row, ne_none_table, ne_none_or, ne_truth_any, ne_truth_none, ne_truth_truth, ne_truth_number, ne_truth_word, ne_truth_row, ne_truth_table, ne_truth_or, ne_number_any, ne_number_none, ne_number_truth, ne_number_number, ne_number_word, ne_number_row, ne_number_table, ne_number_or, ne_word_any, ne_word_none, ne_word_truth, ne_word_number, ne_word_word, ne_word_row, ne_word_table, ne_word_or, ne_row_any, ne_row_none, ne_row_truth, ne_row_number, ne_row_word, ne_row_row, ne_row_table, ne_row_or, ne_table_any, ne_table_none, ne_table_truth, ne_table_number, ne_table_word, ne_table_row, ne_table_table, ne_table_or, ne_or_any, ne_or_none, ne_or_truth, ne_or_number, ne_or_word, ne_or_row, ne_or_table, ne_or_or, sz_any, sz_none, sz_truth, sz_number, sz_word, sz_row, sz_table, sz_or, nei_1, nei_2, nei_3, nei_4]
      · rw [show (den (k + 2 * n + 3))._law_fits = fnD 8 (b__law_fits (den (k + 2 * n + 2))) from rfl]
        simp only [b__law_fits, ix0, lkind_non, kd0, six, fnD, startD, endK, sRet, sRetN, sSeq, seqK, sIf, sAsg, sDrop, sNil, liftX, tgN, sFor, sOwn1, sOwn2, optK, putK2, sAsgO, sRetO, isRT, dAnd, dOr, dIf, bnd_e, dOp, dUn, dAll, dCons, dNil, ret_ap, dVar, getS, lift_e, lift_n, dC, dTst, isBl, dCall, up, tAndD, tOrD, tNotD, dItems, itemsD, dRange, dMt, dLc, rowD, tupD, truD, notD, tyIs, List.map_cons, List.map_nil, List.length_cons, List.length_nil, List.cons_append, List.nil_append, List.replicate_succ, List.replicate_zero, List.getElem?_cons_zero, List.getElem?_cons_succ, List.set_cons_zero, List.set_cons_succ, Option.join_some, Option.join_none, Option.map_some, Option.map_none, Option.bind_some, Option.bind_none, Nat.reduceAdd, Nat.reduceSub, Nat.zero_add, if_true, if_false, ite_true, ite_false, reduceIte, Bool.false_eq_true, Bool.true_eq_false, eq_self_iff_true, eq_any_any, eq_any_none, eq_any_truth, eq_any_number, eq_any_word, eq_any_row, eq_any_table, eq_any_or, eq_none_any, eq_none_none, eq_none_truth, eq_none_number, eq_none_word, eq_none_row, eq_none_table, eq_none_or, eq_truth_any, eq_truth_none, eq_truth_truth, eq_truth_number, eq_truth_word, eq_truth_row, eq_truth_table, eq_truth_or, eq_number_any, eq_number_none, eq_number_truth, eq_number_number, eq_number_word, eq_number_row, eq_number_table, eq_number_or, eq_word_any, eq_word_none, eq_word_truth, eq_word_number, eq_word_word, eq_word_row, eq_word_table, eq_word_or, eq_row_any, eq_row_none, eq_row_truth, eq_row_number, eq_row_word, eq_row_row, eq_row_table, eq_row_or, eq_table_any, eq_table_none, eq_table_truth, eq_table_number, eq_table_word, eq_table_row, eq_table_table, eq_table_or, eq_or_any, eq_or_none, eq_or_truth, eq_or_number, eq_or_word, eq_or_row, eq_or_table, eq_or_or, ne_any_any, ne_any_none, ne_any_truth, ne_any_number, ne_any_word, ne_any_row, ne_any_table, ne_any_or, ne_none_any, ne_none_none, ne_none_truth, ne_none_number, ne_none_word, ne_none_row, ne_none_table, ne_none_or, ne_truth_any, ne_truth_none, ne_truth_truth, ne_truth_number, ne_truth_word, ne_truth_row, ne_truth_table, ne_truth_or, ne_number_any, ne_number_none, ne_number_truth, ne_number_number, ne_number_word, ne_number_row, ne_number_table, ne_number_or, ne_word_any, ne_word_none, ne_word_truth, ne_word_number, ne_word_word, ne_word_row, ne_word_table, ne_word_or, ne_row_any, ne_row_none, ne_row_truth, ne_row_number, ne_row_word, ne_row_row, ne_row_table, ne_row_or, ne_table_any, ne_table_none, ne_table_truth, ne_table_number, ne_table_word, ne_table_row, ne_table_table, ne_table_or, ne_or_any, ne_or_none, ne_or_truth, ne_or_number, ne_or_word, ne_or_row, ne_or_table, ne_or_or, sz_any, sz_none, sz_truth, sz_number, sz_word, sz_row, sz_table, sz_or, nei_1, nei_2, nei_3, nei_4]
    · exact ⟨false, miss_none ht hk _, fun z => absurd (ft_kw z (by first | decide +kernel | rfl)) hk⟩
  | @truth n =>
    intro m t ht
    by_cases hk : kw t = "truth"
    · obtain ⟨b, rfl⟩ := (th_inv ht hk).2.1 rfl
      refine ⟨true, ⟨fun k => ?_, fun k => ?_⟩, fun _ => rfl⟩
      · rw [show (den (k + 2 * n + 3)).is_fit = fnD 4 (b_is_fit (den (k + 2 * n + 2))) from rfl]
        simp only [b_is_fit, ix0, kind_bl, fnD, startD, endK, sRet, sRetN, sSeq, seqK, sIf, sAsg, sDrop, sNil, liftX, tgN, sFor, sOwn1, sOwn2, optK, putK2, sAsgO, sRetO, isRT, dAnd, dOr, dIf, bnd_e, dOp, dUn, dAll, dCons, dNil, ret_ap, dVar, getS, lift_e, lift_n, dC, dTst, isBl, dCall, up, tAndD, tOrD, tNotD, dItems, itemsD, dRange, dMt, dLc, rowD, tupD, truD, notD, tyIs, List.map_cons, List.map_nil, List.length_cons, List.length_nil, List.cons_append, List.nil_append, List.replicate_succ, List.replicate_zero, List.getElem?_cons_zero, List.getElem?_cons_succ, List.set_cons_zero, List.set_cons_succ, Option.join_some, Option.join_none, Option.map_some, Option.map_none, Option.bind_some, Option.bind_none, Nat.reduceAdd, Nat.reduceSub, Nat.zero_add, if_true, if_false, ite_true, ite_false, reduceIte, Bool.false_eq_true, Bool.true_eq_false, eq_self_iff_true, eq_any_any, eq_any_none, eq_any_truth, eq_any_number, eq_any_word, eq_any_row, eq_any_table, eq_any_or, eq_none_any, eq_none_none, eq_none_truth, eq_none_number, eq_none_word, eq_none_row, eq_none_table, eq_none_or, eq_truth_any, eq_truth_none, eq_truth_truth, eq_truth_number, eq_truth_word, eq_truth_row, eq_truth_table, eq_truth_or, eq_number_any, eq_number_none, eq_number_truth, eq_number_number, eq_number_word, eq_number_row, eq_number_table, eq_number_or, eq_word_any, eq_word_none, eq_word_truth, eq_word_number, eq_word_word, eq_word_row, eq_word_table, eq_word_or, eq_row_any, eq_row_none, eq_row_truth, eq_row_number, eq_row_word, eq_row_row, eq_row_table, eq_row_or, eq_table_any, eq_table_none, eq_table_truth, eq_table_number, eq_table_word, eq_table_row, eq_table_table, eq_table_or, eq_or_any, eq_or_none, eq_or_truth, eq_or_number, eq_or_word, eq_or_row, eq_or_table, eq_or_or, ne_any_any, ne_any_none, ne_any_truth, ne_any_number, ne_any_word, ne_any_row, ne_any_table, ne_any_or, ne_none_any, ne_none_none, ne_none_truth, ne_none_number, ne_none_word, ne_none_row, ne_none_table, ne_none_or, ne_truth_any, ne_truth_none, ne_truth_truth, ne_truth_number, ne_truth_word, ne_truth_row, ne_truth_table, ne_truth_or, ne_number_any, ne_number_none, ne_number_truth, ne_number_number, ne_number_word, ne_number_row, ne_number_table, ne_number_or, ne_word_any, ne_word_none, ne_word_truth, ne_word_number, ne_word_word, ne_word_row, ne_word_table, ne_word_or, ne_row_any, ne_row_none, ne_row_truth, ne_row_number, ne_row_word, ne_row_row, ne_row_table, ne_row_or, ne_table_any, ne_table_none, ne_table_truth, ne_table_number, ne_table_word, ne_table_row, ne_table_table, ne_table_or, ne_or_any, ne_or_none, ne_or_truth, ne_or_number, ne_or_word, ne_or_row, ne_or_table, ne_or_or, sz_any, sz_none, sz_truth, sz_number, sz_word, sz_row, sz_table, sz_or, nei_1, nei_2, nei_3, nei_4]
      · rw [show (den (k + 2 * n + 3))._law_fits = fnD 8 (b__law_fits (den (k + 2 * n + 2))) from rfl]
        simp only [b__law_fits, ix0, lkind_bl, kd1, six, fnD, startD, endK, sRet, sRetN, sSeq, seqK, sIf, sAsg, sDrop, sNil, liftX, tgN, sFor, sOwn1, sOwn2, optK, putK2, sAsgO, sRetO, isRT, dAnd, dOr, dIf, bnd_e, dOp, dUn, dAll, dCons, dNil, ret_ap, dVar, getS, lift_e, lift_n, dC, dTst, isBl, dCall, up, tAndD, tOrD, tNotD, dItems, itemsD, dRange, dMt, dLc, rowD, tupD, truD, notD, tyIs, List.map_cons, List.map_nil, List.length_cons, List.length_nil, List.cons_append, List.nil_append, List.replicate_succ, List.replicate_zero, List.getElem?_cons_zero, List.getElem?_cons_succ, List.set_cons_zero, List.set_cons_succ, Option.join_some, Option.join_none, Option.map_some, Option.map_none, Option.bind_some, Option.bind_none, Nat.reduceAdd, Nat.reduceSub, Nat.zero_add, if_true, if_false, ite_true, ite_false, reduceIte, Bool.false_eq_true, Bool.true_eq_false, eq_self_iff_true, eq_any_any, eq_any_none, eq_any_truth, eq_any_number, eq_any_word, eq_any_row, eq_any_table, eq_any_or, eq_none_any, eq_none_none, eq_none_truth, eq_none_number, eq_none_word, eq_none_row, eq_none_table, eq_none_or, eq_truth_any, eq_truth_none, eq_truth_truth, eq_truth_number, eq_truth_word, eq_truth_row, eq_truth_table, eq_truth_or, eq_number_any, eq_number_none, eq_number_truth, eq_number_number, eq_number_word, eq_number_row, eq_number_table, eq_number_or, eq_word_any, eq_word_none, eq_word_truth, eq_word_number, eq_word_word, eq_word_row, eq_word_table, eq_word_or, eq_row_any, eq_row_none, eq_row_truth, eq_row_number, eq_row_word, eq_row_row, eq_row_table, eq_row_or, eq_table_any, eq_table_none, eq_table_truth, eq_table_number, eq_table_word, eq_table_row, eq_table_table, eq_table_or, eq_or_any, eq_or_none, eq_or_truth, eq_or_number, eq_or_word, eq_or_row, eq_or_table, eq_or_or, ne_any_any, ne_any_none, ne_any_truth, ne_any_number, ne_any_word, ne_any_row, ne_any_table, ne_any_or, ne_none_any, ne_none_none, ne_none_truth, ne_none_number, ne_none_word, ne_none_row, ne_none_table, ne_none_or, ne_truth_any, ne_truth_none, ne_truth_truth, ne_truth_number, ne_truth_word, ne_truth_row, ne_truth_table, ne_truth_or, ne_number_any, ne_number_none, ne_number_truth, ne_number_number, ne_number_word, ne_number_row, ne_number_table, ne_number_or, ne_word_any, ne_word_none, ne_word_truth, ne_word_number, ne_word_word, ne_word_row, ne_word_table, ne_word_or, ne_row_any, ne_row_none, ne_row_truth, ne_row_number, ne_row_word, ne_row_row, ne_row_table, ne_row_or, ne_table_any, ne_table_none, ne_table_truth, ne_table_number, ne_table_word, ne_table_row, ne_table_table, ne_table_or, ne_or_any, ne_or_none, ne_or_truth, ne_or_number, ne_or_word, ne_or_row, ne_or_table, ne_or_or, sz_any, sz_none, sz_truth, sz_number, sz_word, sz_row, sz_table, sz_or, nei_1, nei_2, nei_3, nei_4]
    · exact ⟨false, miss_truth ht hk _, fun z => absurd (ft_kw z (by first | decide +kernel | rfl)) hk⟩
  | @number n a b h1 h2 h3 =>
    intro m t ht
    by_cases hk : kw t = "number"
    · obtain ⟨i, rfl⟩ := (th_inv ht hk).2.2.1 rfl
      refine ⟨decide (a ≤ i) && decide (i ≤ b), ⟨fun k => ?_, fun k => ?_⟩, fun z => by cases z with | number z1 z2 => rw [decide_eq_true z1, decide_eq_true z2]; rfl⟩
      · rw [show (den (k + 2 * n + 3)).is_fit = fnD 4 (b_is_fit (den (k + 2 * n + 2))) from rfl]
        cases e1 : decide (a ≤ i) <;> simp only [b_is_fit, ix0, ix1, ix2, kind_int, dChain, le_e, e1, fnD, startD, endK, sRet, sRetN, sSeq, seqK, sIf, sAsg, sDrop, sNil, liftX, tgN, sFor, sOwn1, sOwn2, optK, putK2, sAsgO, sRetO, isRT, dAnd, dOr, dIf, bnd_e, dOp, dUn, dAll, dCons, dNil, ret_ap, dVar, getS, lift_e, lift_n, dC, dTst, isBl, dCall, up, tAndD, tOrD, tNotD, dItems, itemsD, dRange, dMt, dLc, rowD, tupD, truD, notD, tyIs, List.map_cons, List.map_nil, List.length_cons, List.length_nil, List.cons_append, List.nil_append, List.replicate_succ, List.replicate_zero, List.getElem?_cons_zero, List.getElem?_cons_succ, List.set_cons_zero, List.set_cons_succ, Option.join_some, Option.join_none, Option.map_some, Option.map_none, Option.bind_some, Option.bind_none, Nat.reduceAdd, Nat.reduceSub, Nat.zero_add, if_true, if_false, ite_true, ite_false, reduceIte, Bool.false_eq_true, Bool.true_eq_false, eq_self_iff_true, eq_any_any, eq_any_none, eq_any_truth, eq_any_number, eq_any_word, eq_any_row, eq_any_table, eq_any_or, eq_none_any, eq_none_none, eq_none_truth, eq_none_number, eq_none_word, eq_none_row, eq_none_table, eq_none_or, eq_truth_any, eq_truth_none, eq_truth_truth, eq_truth_number, eq_truth_word, eq_truth_row, eq_truth_table, eq_truth_or, eq_number_any, eq_number_none, eq_number_truth, eq_number_number, eq_number_word, eq_number_row, eq_number_table, eq_number_or, eq_word_any, eq_word_none, eq_word_truth, eq_word_number, eq_word_word, eq_word_row, eq_word_table, eq_word_or, eq_row_any, eq_row_none, eq_row_truth, eq_row_number, eq_row_word, eq_row_row, eq_row_table, eq_row_or, eq_table_any, eq_table_none, eq_table_truth, eq_table_number, eq_table_word, eq_table_row, eq_table_table, eq_table_or, eq_or_any, eq_or_none, eq_or_truth, eq_or_number, eq_or_word, eq_or_row, eq_or_table, eq_or_or, ne_any_any, ne_any_none, ne_any_truth, ne_any_number, ne_any_word, ne_any_row, ne_any_table, ne_any_or, ne_none_any, ne_none_none, ne_none_truth, ne_none_number, ne_none_word, ne_none_row, ne_none_table, ne_none_or, ne_truth_any, ne_truth_none, ne_truth_truth, ne_truth_number, ne_truth_word, ne_truth_row, ne_truth_table, ne_truth_or, ne_number_any, ne_number_none, ne_number_truth, ne_number_number, ne_number_word, ne_number_row, ne_number_table, ne_number_or, ne_word_any, ne_word_none, ne_word_truth, ne_word_number, ne_word_word, ne_word_row, ne_word_table, ne_word_or, ne_row_any, ne_row_none, ne_row_truth, ne_row_number, ne_row_word, ne_row_row, ne_row_table, ne_row_or, ne_table_any, ne_table_none, ne_table_truth, ne_table_number, ne_table_word, ne_table_row, ne_table_table, ne_table_or, ne_or_any, ne_or_none, ne_or_truth, ne_or_number, ne_or_word, ne_or_row, ne_or_table, ne_or_or, sz_any, sz_none, sz_truth, sz_number, sz_word, sz_row, sz_table, sz_or, nei_1, nei_2, nei_3, nei_4, Bool.true_and, Bool.false_and]
      · rw [show (den (k + 2 * n + 3))._law_fits = fnD 8 (b__law_fits (den (k + 2 * n + 2))) from rfl]
        cases e1 : decide (a ≤ i) <;> simp only [b__law_fits, ix0, ix1, ix2, lkind_int, kd2, six, dChain, le_e, e1, fnD, startD, endK, sRet, sRetN, sSeq, seqK, sIf, sAsg, sDrop, sNil, liftX, tgN, sFor, sOwn1, sOwn2, optK, putK2, sAsgO, sRetO, isRT, dAnd, dOr, dIf, bnd_e, dOp, dUn, dAll, dCons, dNil, ret_ap, dVar, getS, lift_e, lift_n, dC, dTst, isBl, dCall, up, tAndD, tOrD, tNotD, dItems, itemsD, dRange, dMt, dLc, rowD, tupD, truD, notD, tyIs, List.map_cons, List.map_nil, List.length_cons, List.length_nil, List.cons_append, List.nil_append, List.replicate_succ, List.replicate_zero, List.getElem?_cons_zero, List.getElem?_cons_succ, List.set_cons_zero, List.set_cons_succ, Option.join_some, Option.join_none, Option.map_some, Option.map_none, Option.bind_some, Option.bind_none, Nat.reduceAdd, Nat.reduceSub, Nat.zero_add, if_true, if_false, ite_true, ite_false, reduceIte, Bool.false_eq_true, Bool.true_eq_false, eq_self_iff_true, eq_any_any, eq_any_none, eq_any_truth, eq_any_number, eq_any_word, eq_any_row, eq_any_table, eq_any_or, eq_none_any, eq_none_none, eq_none_truth, eq_none_number, eq_none_word, eq_none_row, eq_none_table, eq_none_or, eq_truth_any, eq_truth_none, eq_truth_truth, eq_truth_number, eq_truth_word, eq_truth_row, eq_truth_table, eq_truth_or, eq_number_any, eq_number_none, eq_number_truth, eq_number_number, eq_number_word, eq_number_row, eq_number_table, eq_number_or, eq_word_any, eq_word_none, eq_word_truth, eq_word_number, eq_word_word, eq_word_row, eq_word_table, eq_word_or, eq_row_any, eq_row_none, eq_row_truth, eq_row_number, eq_row_word, eq_row_row, eq_row_table, eq_row_or, eq_table_any, eq_table_none, eq_table_truth, eq_table_number, eq_table_word, eq_table_row, eq_table_table, eq_table_or, eq_or_any, eq_or_none, eq_or_truth, eq_or_number, eq_or_word, eq_or_row, eq_or_table, eq_or_or, ne_any_any, ne_any_none, ne_any_truth, ne_any_number, ne_any_word, ne_any_row, ne_any_table, ne_any_or, ne_none_any, ne_none_none, ne_none_truth, ne_none_number, ne_none_word, ne_none_row, ne_none_table, ne_none_or, ne_truth_any, ne_truth_none, ne_truth_truth, ne_truth_number, ne_truth_word, ne_truth_row, ne_truth_table, ne_truth_or, ne_number_any, ne_number_none, ne_number_truth, ne_number_number, ne_number_word, ne_number_row, ne_number_table, ne_number_or, ne_word_any, ne_word_none, ne_word_truth, ne_word_number, ne_word_word, ne_word_row, ne_word_table, ne_word_or, ne_row_any, ne_row_none, ne_row_truth, ne_row_number, ne_row_word, ne_row_row, ne_row_table, ne_row_or, ne_table_any, ne_table_none, ne_table_truth, ne_table_number, ne_table_word, ne_table_row, ne_table_table, ne_table_or, ne_or_any, ne_or_none, ne_or_truth, ne_or_number, ne_or_word, ne_or_row, ne_or_table, ne_or_or, sz_any, sz_none, sz_truth, sz_number, sz_word, sz_row, sz_table, sz_or, nei_1, nei_2, nei_3, nei_4, Bool.true_and, Bool.false_and]
    · exact ⟨false, miss_number _ _ ht hk _, fun z => absurd (ft_kw z (by first | decide +kernel | rfl)) hk⟩
  | @word n a h1 h2 =>
    intro m t ht
    by_cases hk : kw t = "word"
    · obtain ⟨x, rfl⟩ := (th_inv ht hk).2.2.2.1 rfl
      refine ⟨decide (((x.length : Nat) : Int) ≤ a), ⟨fun k => ?_, fun k => ?_⟩, fun z => by cases z with | word z1 => exact decide_eq_true z1⟩
      · rw [show (den (k + 2 * n + 3)).is_fit = fnD 4 (b_is_fit (den (k + 2 * n + 2))) from rfl]
        simp only [b_is_fit, ix0, ix1, kind_str, len_str, le_e, fnD, startD, endK, sRet, sRetN, sSeq, seqK, sIf, sAsg, sDrop, sNil, liftX, tgN, sFor, sOwn1, sOwn2, optK, putK2, sAsgO, sRetO, isRT, dAnd, dOr, dIf, bnd_e, dOp, dUn, dAll, dCons, dNil, ret_ap, dVar, getS, lift_e, lift_n, dC, dTst, isBl, dCall, up, tAndD, tOrD, tNotD, dItems, itemsD, dRange, dMt, dLc, rowD, tupD, truD, notD, tyIs, List.map_cons, List.map_nil, List.length_cons, List.length_nil, List.cons_append, List.nil_append, List.replicate_succ, List.replicate_zero, List.getElem?_cons_zero, List.getElem?_cons_succ, List.set_cons_zero, List.set_cons_succ, Option.join_some, Option.join_none, Option.map_some, Option.map_none, Option.bind_some, Option.bind_none, Nat.reduceAdd, Nat.reduceSub, Nat.zero_add, if_true, if_false, ite_true, ite_false, reduceIte, Bool.false_eq_true, Bool.true_eq_false, eq_self_iff_true, eq_any_any, eq_any_none, eq_any_truth, eq_any_number, eq_any_word, eq_any_row, eq_any_table, eq_any_or, eq_none_any, eq_none_none, eq_none_truth, eq_none_number, eq_none_word, eq_none_row, eq_none_table, eq_none_or, eq_truth_any, eq_truth_none, eq_truth_truth, eq_truth_number, eq_truth_word, eq_truth_row, eq_truth_table, eq_truth_or, eq_number_any, eq_number_none, eq_number_truth, eq_number_number, eq_number_word, eq_number_row, eq_number_table, eq_number_or, eq_word_any, eq_word_none, eq_word_truth, eq_word_number, eq_word_word, eq_word_row, eq_word_table, eq_word_or, eq_row_any, eq_row_none, eq_row_truth, eq_row_number, eq_row_word, eq_row_row, eq_row_table, eq_row_or, eq_table_any, eq_table_none, eq_table_truth, eq_table_number, eq_table_word, eq_table_row, eq_table_table, eq_table_or, eq_or_any, eq_or_none, eq_or_truth, eq_or_number, eq_or_word, eq_or_row, eq_or_table, eq_or_or, ne_any_any, ne_any_none, ne_any_truth, ne_any_number, ne_any_word, ne_any_row, ne_any_table, ne_any_or, ne_none_any, ne_none_none, ne_none_truth, ne_none_number, ne_none_word, ne_none_row, ne_none_table, ne_none_or, ne_truth_any, ne_truth_none, ne_truth_truth, ne_truth_number, ne_truth_word, ne_truth_row, ne_truth_table, ne_truth_or, ne_number_any, ne_number_none, ne_number_truth, ne_number_number, ne_number_word, ne_number_row, ne_number_table, ne_number_or, ne_word_any, ne_word_none, ne_word_truth, ne_word_number, ne_word_word, ne_word_row, ne_word_table, ne_word_or, ne_row_any, ne_row_none, ne_row_truth, ne_row_number, ne_row_word, ne_row_row, ne_row_table, ne_row_or, ne_table_any, ne_table_none, ne_table_truth, ne_table_number, ne_table_word, ne_table_row, ne_table_table, ne_table_or, ne_or_any, ne_or_none, ne_or_truth, ne_or_number, ne_or_word, ne_or_row, ne_or_table, ne_or_or, sz_any, sz_none, sz_truth, sz_number, sz_word, sz_row, sz_table, sz_or, nei_1, nei_2, nei_3, nei_4]
      · rw [show (den (k + 2 * n + 3))._law_fits = fnD 8 (b__law_fits (den (k + 2 * n + 2))) from rfl]
        simp only [b__law_fits, ix0, ix1, lkind_str, kd3, six, len_str, le_e, fnD, startD, endK, sRet, sRetN, sSeq, seqK, sIf, sAsg, sDrop, sNil, liftX, tgN, sFor, sOwn1, sOwn2, optK, putK2, sAsgO, sRetO, isRT, dAnd, dOr, dIf, bnd_e, dOp, dUn, dAll, dCons, dNil, ret_ap, dVar, getS, lift_e, lift_n, dC, dTst, isBl, dCall, up, tAndD, tOrD, tNotD, dItems, itemsD, dRange, dMt, dLc, rowD, tupD, truD, notD, tyIs, List.map_cons, List.map_nil, List.length_cons, List.length_nil, List.cons_append, List.nil_append, List.replicate_succ, List.replicate_zero, List.getElem?_cons_zero, List.getElem?_cons_succ, List.set_cons_zero, List.set_cons_succ, Option.join_some, Option.join_none, Option.map_some, Option.map_none, Option.bind_some, Option.bind_none, Nat.reduceAdd, Nat.reduceSub, Nat.zero_add, if_true, if_false, ite_true, ite_false, reduceIte, Bool.false_eq_true, Bool.true_eq_false, eq_self_iff_true, eq_any_any, eq_any_none, eq_any_truth, eq_any_number, eq_any_word, eq_any_row, eq_any_table, eq_any_or, eq_none_any, eq_none_none, eq_none_truth, eq_none_number, eq_none_word, eq_none_row, eq_none_table, eq_none_or, eq_truth_any, eq_truth_none, eq_truth_truth, eq_truth_number, eq_truth_word, eq_truth_row, eq_truth_table, eq_truth_or, eq_number_any, eq_number_none, eq_number_truth, eq_number_number, eq_number_word, eq_number_row, eq_number_table, eq_number_or, eq_word_any, eq_word_none, eq_word_truth, eq_word_number, eq_word_word, eq_word_row, eq_word_table, eq_word_or, eq_row_any, eq_row_none, eq_row_truth, eq_row_number, eq_row_word, eq_row_row, eq_row_table, eq_row_or, eq_table_any, eq_table_none, eq_table_truth, eq_table_number, eq_table_word, eq_table_row, eq_table_table, eq_table_or, eq_or_any, eq_or_none, eq_or_truth, eq_or_number, eq_or_word, eq_or_row, eq_or_table, eq_or_or, ne_any_any, ne_any_none, ne_any_truth, ne_any_number, ne_any_word, ne_any_row, ne_any_table, ne_any_or, ne_none_any, ne_none_none, ne_none_truth, ne_none_number, ne_none_word, ne_none_row, ne_none_table, ne_none_or, ne_truth_any, ne_truth_none, ne_truth_truth, ne_truth_number, ne_truth_word, ne_truth_row, ne_truth_table, ne_truth_or, ne_number_any, ne_number_none, ne_number_truth, ne_number_number, ne_number_word, ne_number_row, ne_number_table, ne_number_or, ne_word_any, ne_word_none, ne_word_truth, ne_word_number, ne_word_word, ne_word_row, ne_word_table, ne_word_or, ne_row_any, ne_row_none, ne_row_truth, ne_row_number, ne_row_word, ne_row_row, ne_row_table, ne_row_or, ne_table_any, ne_table_none, ne_table_truth, ne_table_number, ne_table_word, ne_table_row, ne_table_table, ne_table_or, ne_or_any, ne_or_none, ne_or_truth, ne_or_number, ne_or_word, ne_or_row, ne_or_table, ne_or_or, sz_any, sz_none, sz_truth, sz_number, sz_word, sz_row, sz_table, sz_or, nei_1, nei_2, nei_3, nei_4]
    · exact ⟨false, miss_word _ ht hk _, fun z => absurd (ft_kw z (by first | decide +kernel | rfl)) hk⟩
  | @row n s a b h1 h2 h3 hs ih =>
    intro m t ht
    by_cases hk : kw t = "row"
    · obtain ⟨xs, rfl⟩ := (th_inv ht hk).2.2.2.2.1 rfl
      obtain ⟨m', _, hx⟩ := leaf_row ht
      obtain ⟨f, hf0⟩ := fn_of xs (fun x b => fitB s x n b ∧ (Ft s x → b = true)) fun x hx' => ih (hx x hx')
      have hf := fun x hx => (hf0 x hx).1
      have key : ∀ k, (den (k + 2 * (n + 1) + 2)) = den (k + 1 + 2 * n + 3) := fun k => by rw [show k + 2 * (n + 1) + 2 = k + 1 + 2 * n + 3 from by omega]
      refine ⟨(decide (a ≤ (xs.length : Int)) && decide ((xs.length : Int) ≤ b)) && (xs.map f).all id, ⟨fun k => ?_, fun k => ?_⟩, fun z => by
        cases z with
        | row z1 z2 z3 =>
          rw [decide_eq_true z1, decide_eq_true z2, Bool.true_and, Bool.true_and, List.all_map, List.all_eq_true]
          exact fun x hx => (hf0 x hx).2 (z3 x hx)⟩
      · show fnD 4 (b_is_fit (den (k + 2 * (n + 1) + 2))) [_, _] () = _
        have h6 : lcA (tgN 3) dYes (dCall 2 (fun ds => up ((den (k + 2 * (n + 1) + 2)).is_fit ds)) (dCons (dOp ixD (dVar 0) (dC (.int 1))) (dCons (dVar 3) dNil))) [some (.tup [.str "row", s, .int a, .int b]), some (.row xs), some (.str "row"), none] [] xs () = .ok (.row ((xs.map f).map D.bl)) () := by
          refine lcA_bl f xs fun y hy => ?_
          have h7 := (hf y hy).1 (k + 1)
          rw [← key k] at h7
          simp only [fnD, startD, endK, sRet, sRetN, sSeq, seqK, sIf, sAsg, sDrop, sNil, liftX, tgN, sFor, sOwn1, sOwn2, optK, putK2, sAsgO, sRetO, isRT, dAnd, dOr, dIf, bnd_e, dOp, dUn, dAll, dCons, dNil, ret_ap, dVar, getS, lift_e, lift_n, dC, dTst, isBl, dCall, up, tAndD, tOrD, tNotD, dItems, itemsD, dRange, dMt, dLc, rowD, tupD, truD, notD, tyIs, List.map_cons, List.map_nil, List.length_cons, List.length_nil, List.cons_append, List.nil_append, List.replicate_succ, List.replicate_zero, List.getElem?_cons_zero, List.getElem?_cons_succ, List.set_cons_zero, List.set_cons_succ, Option.join_some, Option.join_none, Option.map_some, Option.map_none, Option.bind_some, Option.bind_none, Nat.reduceAdd, Nat.reduceSub, Nat.zero_add, if_true, if_false, ite_true, ite_false, reduceIte, Bool.false_eq_true, Bool.true_eq_false, eq_self_iff_true, ix1, h7]
        cases e1 : decide (a ≤ (xs.length : Int)) <;> cases e2 : decide ((xs.length : Int) ≤ b) <;> simp only [b_is_fit, ix0, ix1, ix2, ix3, kind_row, dChain, le_e, len_row, h6, all_bls, e1, e2, fnD, startD, endK, sRet, sRetN, sSeq, seqK, sIf, sAsg, sDrop, sNil, liftX, tgN, sFor, sOwn1, sOwn2, optK, putK2, sAsgO, sRetO, isRT, dAnd, dOr, dIf, bnd_e, dOp, dUn, dAll, dCons, dNil, ret_ap, dVar, getS, lift_e, lift_n, dC, dTst, isBl, dCall, up, tAndD, tOrD, tNotD, dItems, itemsD, dRange, dMt, dLc, rowD, tupD, truD, notD, tyIs, List.map_cons, List.map_nil, List.length_cons, List.length_nil, List.cons_append, List.nil_append, List.replicate_succ, List.replicate_zero, List.getElem?_cons_zero, List.getElem?_cons_succ, List.set_cons_zero, List.set_cons_succ, Option.join_some, Option.join_none, Option.map_some, Option.map_none, Option.bind_some, Option.bind_none, Nat.reduceAdd, Nat.reduceSub, Nat.zero_add, if_true, if_false, ite_true, ite_false, reduceIte, Bool.false_eq_true, Bool.true_eq_false, eq_self_iff_true, eq_any_any, eq_any_none, eq_any_truth, eq_any_number, eq_any_word, eq_any_row, eq_any_table, eq_any_or, eq_none_any, eq_none_none, eq_none_truth, eq_none_number, eq_none_word, eq_none_row, eq_none_table, eq_none_or, eq_truth_any, eq_truth_none, eq_truth_truth, eq_truth_number, eq_truth_word, eq_truth_row, eq_truth_table, eq_truth_or, eq_number_any, eq_number_none, eq_number_truth, eq_number_number, eq_number_word, eq_number_row, eq_number_table, eq_number_or, eq_word_any, eq_word_none, eq_word_truth, eq_word_number, eq_word_word, eq_word_row, eq_word_table, eq_word_or, eq_row_any, eq_row_none, eq_row_truth, eq_row_number, eq_row_word, eq_row_row, eq_row_table, eq_row_or, eq_table_any, eq_table_none, eq_table_truth, eq_table_number, eq_table_word, eq_table_row, eq_table_table, eq_table_or, eq_or_any, eq_or_none, eq_or_truth, eq_or_number, eq_or_word, eq_or_row, eq_or_table, eq_or_or, ne_any_any, ne_any_none, ne_any_truth, ne_any_number, ne_any_word, ne_any_row, ne_any_table, ne_any_or, ne_none_any, ne_none_none, ne_none_truth, ne_none_number, ne_none_word, ne_none_row, ne_none_table, ne_none_or, ne_truth_any, ne_truth_none, ne_truth_truth, ne_truth_number, ne_truth_word, ne_truth_row, ne_truth_table, ne_truth_or, ne_number_any, ne_number_none, ne_number_truth, ne_number_number, ne_number_word, ne_number_row, ne_number_table, ne_number_or, ne_word_any, ne_word_none, ne_word_truth, ne_word_number, ne_word_word, ne_word_row, ne_word_table, ne_word_or, ne_row_any, ne_row_none, ne_row_truth, ne_row_number, ne_row_word, ne_row_row, ne_row_table, ne_row_or, ne_table_any, ne_table_none, ne_table_truth, ne_table_number, ne_table_word, ne_table_row, ne_table_table, ne_table_or, ne_or_any, ne_or_none, ne_or_truth, ne_or_number, ne_or_word, ne_or_row, ne_or_table, ne_or_or, sz_any, sz_none, sz_truth, sz_number, sz_word, sz_row, sz_table, sz_or, nei_1, nei_2, nei_3, nei_4, Bool.true_and, Bool.false_and, Bool.and_false]
      · show fnD 8 (b__law_fits (den (k + 2 * (n + 1) + 2))) [_, _] () = _
        have h6 : lcA (tgN 7) dYes (dCall 2 (fun ds => up ((den (k + 2 * (n + 1) + 2))._law_fits ds)) (dCons (dOp ixD (dVar 0) (dC (.int 1))) (dCons (dVar 7) dNil))) [some (.tup [.str "row", s, .int a, .int b]), some (.row xs), some (.str "row"), none, none, none, none, none] [] xs () = .ok (.row ((xs.map f).map D.bl)) () := by
          refine lcA_bl f xs fun y hy => ?_
          have h7 := (hf y hy).2 (k + 1)
          rw [← key k] at h7
          simp only [fnD, startD, endK, sRet, sRetN, sSeq, seqK, sIf, sAsg, sDrop, sNil, liftX, tgN, sFor, sOwn1, sOwn2, optK, putK2, sAsgO, sRetO, isRT, dAnd, dOr, dIf, bnd_e, dOp, dUn, dAll, dCons, dNil, ret_ap, dVar, getS, lift_e, lift_n, dC, dTst, isBl, dCall, up, tAndD, tOrD, tNotD, dItems, itemsD, dRange, dMt, dLc, rowD, tupD, truD, notD, tyIs, List.map_cons, List.map_nil, List.length_cons, List.length_nil, List.cons_append, List.nil_append, List.replicate_succ, List.replicate_zero, List.getElem?_cons_zero, List.getElem?_cons_succ, List.set_cons_zero, List.set_cons_succ, Option.join_some, Option.join_none, Option.map_some, Option.map_none, Option.bind_some, Option.bind_none, Nat.reduceAdd, Nat.reduceSub, Nat.zero_add, if_true, if_false, ite_true, ite_false, reduceIte, Bool.false_eq_true, Bool.true_eq_false, eq_self_iff_true, ix1, h7]
        cases e1 : decide (a ≤ (xs.length : Int)) <;> cases e2 : decide ((xs.length : Int) ≤ b) <;> simp only [b__law_fits, ix0, ix1, ix2, ix3, lkind_row, kd4, six, dChain, le_e, len_row, h6, all_bls, e1, e2, fnD, startD, endK, sRet, sRetN, sSeq, seqK, sIf, sAsg, sDrop, sNil, liftX, tgN, sFor, sOwn1, sOwn2, optK, putK2, sAsgO, sRetO, isRT, dAnd, dOr, dIf, bnd_e, dOp, dUn, dAll, dCons, dNil, ret_ap, dVar, getS, lift_e, lift_n, dC, dTst, isBl, dCall, up, tAndD, tOrD, tNotD, dItems, itemsD, dRange, dMt, dLc, rowD, tupD, truD, notD, tyIs, List.map_cons, List.map_nil, List.length_cons, List.length_nil, List.cons_append, List.nil_append, List.replicate_succ, List.replicate_zero, List.getElem?_cons_zero, List.getElem?_cons_succ, List.set_cons_zero, List.set_cons_succ, Option.join_some, Option.join_none, Option.map_some, Option.map_none, Option.bind_some, Option.bind_none, Nat.reduceAdd, Nat.reduceSub, Nat.zero_add, if_true, if_false, ite_true, ite_false, reduceIte, Bool.false_eq_true, Bool.true_eq_false, eq_self_iff_true, eq_any_any, eq_any_none, eq_any_truth, eq_any_number, eq_any_word, eq_any_row, eq_any_table, eq_any_or, eq_none_any, eq_none_none, eq_none_truth, eq_none_number, eq_none_word, eq_none_row, eq_none_table, eq_none_or, eq_truth_any, eq_truth_none, eq_truth_truth, eq_truth_number, eq_truth_word, eq_truth_row, eq_truth_table, eq_truth_or, eq_number_any, eq_number_none, eq_number_truth, eq_number_number, eq_number_word, eq_number_row, eq_number_table, eq_number_or, eq_word_any, eq_word_none, eq_word_truth, eq_word_number, eq_word_word, eq_word_row, eq_word_table, eq_word_or, eq_row_any, eq_row_none, eq_row_truth, eq_row_number, eq_row_word, eq_row_row, eq_row_table, eq_row_or, eq_table_any, eq_table_none, eq_table_truth, eq_table_number, eq_table_word, eq_table_row, eq_table_table, eq_table_or, eq_or_any, eq_or_none, eq_or_truth, eq_or_number, eq_or_word, eq_or_row, eq_or_table, eq_or_or, ne_any_any, ne_any_none, ne_any_truth, ne_any_number, ne_any_word, ne_any_row, ne_any_table, ne_any_or, ne_none_any, ne_none_none, ne_none_truth, ne_none_number, ne_none_word, ne_none_row, ne_none_table, ne_none_or, ne_truth_any, ne_truth_none, ne_truth_truth, ne_truth_number, ne_truth_word, ne_truth_row, ne_truth_table, ne_truth_or, ne_number_any, ne_number_none, ne_number_truth, ne_number_number, ne_number_word, ne_number_row, ne_number_table, ne_number_or, ne_word_any, ne_word_none, ne_word_truth, ne_word_number, ne_word_word, ne_word_row, ne_word_table, ne_word_or, ne_row_any, ne_row_none, ne_row_truth, ne_row_number, ne_row_word, ne_row_row, ne_row_table, ne_row_or, ne_table_any, ne_table_none, ne_table_truth, ne_table_number, ne_table_word, ne_table_row, ne_table_table, ne_table_or, ne_or_any, ne_or_none, ne_or_truth, ne_or_number, ne_or_word, ne_or_row, ne_or_table, ne_or_or, sz_any, sz_none, sz_truth, sz_number, sz_word, sz_row, sz_table, sz_or, nei_1, nei_2, nei_3, nei_4, Bool.true_and, Bool.false_and, Bool.and_false]
    · exact ⟨false, miss_row _ _ _ ht hk _, fun z => absurd (ft_kw z (by first | decide +kernel | rfl)) hk⟩
  | @or_ n ps hl hs ih =>
    intro m t ht
    obtain ⟨f, hf0⟩ := fn_of ps (fun p b => fitB p t n b ∧ (Ft p t → b = true)) fun p hp => ih p hp ht
    have hf := fun x hx => (hf0 x hx).1
    have key : ∀ k, (den (k + 2 * (n + 1) + 2)) = den (k + 1 + 2 * n + 3) := fun k => by rw [show k + 2 * (n + 1) + 2 = k + 1 + 2 * n + 3 from by omega]
    refine ⟨(ps.map f).any id, ⟨fun k => ?_, fun k => ?_⟩, fun z => by
      cases z with
      | or_ z1 z2 =>
        rw [List.any_map, List.any_eq_true]
        exact ⟨_, z1, (hf0 _ z1).2 z2⟩⟩
    · show fnD 4 (b_is_fit (den (k + 2 * (n + 1) + 2))) [_, _] () = _
      have h6 : lcA (tgN 3) dYes (dCall 2 (fun ds => up ((den (k + 2 * (n + 1) + 2)).is_fit ds)) (dCons (dVar 3) (dCons (dVar 1) dNil))) [some (.tup [.str "or", .tup ps]), some t, some (.str "or"), none] [] ps () = .ok (.row ((ps.map f).map D.bl)) () := by
        refine lcA_bl f ps fun y hy => ?_
        have h7 := (hf y hy).1 (k + 1)
        rw [← key k] at h7
        simp only [fnD, startD, endK, sRet, sRetN, sSeq, seqK, sIf, sAsg, sDrop, sNil, liftX, tgN, sFor, sOwn1, sOwn2, optK, putK2, sAsgO, sRetO, isRT, dAnd, dOr, dIf, bnd_e, dOp, dUn, dAll, dCons, dNil, ret_ap, dVar, getS, lift_e, lift_n, dC, dTst, isBl, dCall, up, tAndD, tOrD, tNotD, dItems, itemsD, dRange, dMt, dLc, rowD, tupD, truD, notD, tyIs, List.map_cons, List.map_nil, List.length_cons, List.length_nil, List.cons_append, List.nil_append, List.replicate_succ, List.replicate_zero, List.getElem?_cons_zero, List.getElem?_cons_succ, List.set_cons_zero, List.set_cons_succ, Option.join_some, Option.join_none, Option.map_some, Option.map_none, Option.bind_some, Option.bind_none, Nat.reduceAdd, Nat.reduceSub, Nat.zero_add, if_true, if_false, ite_true, ite_false, reduceIte, Bool.false_eq_true, Bool.true_eq_false, eq_self_iff_true, h7]
      simp only [b_is_fit, ix0, ix1, h6, any_bls, fnD, startD, endK, sRet, sRetN, sSeq, seqK, sIf, sAsg, sDrop, sNil, liftX, tgN, sFor, sOwn1, sOwn2, optK, putK2, sAsgO, sRetO, isRT, dAnd, dOr, dIf, bnd_e, dOp, dUn, dAll, dCons, dNil, ret_ap, dVar, getS, lift_e, lift_n, dC, dTst, isBl, dCall, up, tAndD, tOrD, tNotD, dItems, itemsD, dRange, dMt, dLc, rowD, tupD, truD, notD, tyIs, List.map_cons, List.map_nil, List.length_cons, List.length_nil, List.cons_append, List.nil_append, List.replicate_succ, List.replicate_zero, List.getElem?_cons_zero, List.getElem?_cons_succ, List.set_cons_zero, List.set_cons_succ, Option.join_some, Option.join_none, Option.map_some, Option.map_none, Option.bind_some, Option.bind_none, Nat.reduceAdd, Nat.reduceSub, Nat.zero_add, if_true, if_false, ite_true, ite_false, reduceIte, Bool.false_eq_true, Bool.true_eq_false, eq_self_iff_true, eq_any_any, eq_any_none, eq_any_truth, eq_any_number, eq_any_word, eq_any_row, eq_any_table, eq_any_or, eq_none_any, eq_none_none, eq_none_truth, eq_none_number, eq_none_word, eq_none_row, eq_none_table, eq_none_or, eq_truth_any, eq_truth_none, eq_truth_truth, eq_truth_number, eq_truth_word, eq_truth_row, eq_truth_table, eq_truth_or, eq_number_any, eq_number_none, eq_number_truth, eq_number_number, eq_number_word, eq_number_row, eq_number_table, eq_number_or, eq_word_any, eq_word_none, eq_word_truth, eq_word_number, eq_word_word, eq_word_row, eq_word_table, eq_word_or, eq_row_any, eq_row_none, eq_row_truth, eq_row_number, eq_row_word, eq_row_row, eq_row_table, eq_row_or, eq_table_any, eq_table_none, eq_table_truth, eq_table_number, eq_table_word, eq_table_row, eq_table_table, eq_table_or, eq_or_any, eq_or_none, eq_or_truth, eq_or_number, eq_or_word, eq_or_row, eq_or_table, eq_or_or, ne_any_any, ne_any_none, ne_any_truth, ne_any_number, ne_any_word, ne_any_row, ne_any_table, ne_any_or, ne_none_any, ne_none_none, ne_none_truth, ne_none_number, ne_none_word, ne_none_row, ne_none_table, ne_none_or, ne_truth_any, ne_truth_none, ne_truth_truth, ne_truth_number, ne_truth_word, ne_truth_row, ne_truth_table, ne_truth_or, ne_number_any, ne_number_none, ne_number_truth, ne_number_number, ne_number_word, ne_number_row, ne_number_table, ne_number_or, ne_word_any, ne_word_none, ne_word_truth, ne_word_number, ne_word_word, ne_word_row, ne_word_table, ne_word_or, ne_row_any, ne_row_none, ne_row_truth, ne_row_number, ne_row_word, ne_row_row, ne_row_table, ne_row_or, ne_table_any, ne_table_none, ne_table_truth, ne_table_number, ne_table_word, ne_table_row, ne_table_table, ne_table_or, ne_or_any, ne_or_none, ne_or_truth, ne_or_number, ne_or_word, ne_or_row, ne_or_table, ne_or_or, sz_any, sz_none, sz_truth, sz_number, sz_word, sz_row, sz_table, sz_or, nei_1, nei_2, nei_3, nei_4]
    · show fnD 8 (b__law_fits (den (k + 2 * (n + 1) + 2))) [_, _] () = _
      have h6 : lcA (tgN 7) dYes (dCall 2 (fun ds => up ((den (k + 2 * (n + 1) + 2))._law_fits ds)) (dCons (dVar 7) (dCons (dVar 1) dNil))) [some (.tup [.str "or", .tup ps]), some t, some (.str "or"), none, none, none, none, none] [] ps () = .ok (.row ((ps.map f).map D.bl)) () := by
        refine lcA_bl f ps fun y hy => ?_
        have h7 := (hf y hy).2 (k + 1)
        rw [← key k] at h7
        simp only [fnD, startD, endK, sRet, sRetN, sSeq, seqK, sIf, sAsg, sDrop, sNil, liftX, tgN, sFor, sOwn1, sOwn2, optK, putK2, sAsgO, sRetO, isRT, dAnd, dOr, dIf, bnd_e, dOp, dUn, dAll, dCons, dNil, ret_ap, dVar, getS, lift_e, lift_n, dC, dTst, isBl, dCall, up, tAndD, tOrD, tNotD, dItems, itemsD, dRange, dMt, dLc, rowD, tupD, truD, notD, tyIs, List.map_cons, List.map_nil, List.length_cons, List.length_nil, List.cons_append, List.nil_append, List.replicate_succ, List.replicate_zero, List.getElem?_cons_zero, List.getElem?_cons_succ, List.set_cons_zero, List.set_cons_succ, Option.join_some, Option.join_none, Option.map_some, Option.map_none, Option.bind_some, Option.bind_none, Nat.reduceAdd, Nat.reduceSub, Nat.zero_add, if_true, if_false, ite_true, ite_false, reduceIte, Bool.false_eq_true, Bool.true_eq_false, eq_self_iff_true, h7]
      simp only [b__law_fits, ix0, ix1, h6, any_bls, fnD, startD, endK, sRet, sRetN, sSeq, seqK, sIf, sAsg, sDrop, sNil, liftX, tgN, sFor, sOwn1, sOwn2, optK, putK2, sAsgO, sRetO, isRT, dAnd, dOr, dIf, bnd_e, dOp, dUn, dAll, dCons, dNil, ret_ap, dVar, getS, lift_e, lift_n, dC, dTst, isBl, dCall, up, tAndD, tOrD, tNotD, dItems, itemsD, dRange, dMt, dLc, rowD, tupD, truD, notD, tyIs, List.map_cons, List.map_nil, List.length_cons, List.length_nil, List.cons_append, List.nil_append, List.replicate_succ, List.replicate_zero, List.getElem?_cons_zero, List.getElem?_cons_succ, List.set_cons_zero, List.set_cons_succ, Option.join_some, Option.join_none, Option.map_some, Option.map_none, Option.bind_some, Option.bind_none, Nat.reduceAdd, Nat.reduceSub, Nat.zero_add, if_true, if_false, ite_true, ite_false, reduceIte, Bool.false_eq_true, Bool.true_eq_false, eq_self_iff_true, eq_any_any, eq_any_none, eq_any_truth, eq_any_number, eq_any_word, eq_any_row, eq_any_table, eq_any_or, eq_none_any, eq_none_none, eq_none_truth, eq_none_number, eq_none_word, eq_none_row, eq_none_table, eq_none_or, eq_truth_any, eq_truth_none, eq_truth_truth, eq_truth_number, eq_truth_word, eq_truth_row, eq_truth_table, eq_truth_or, eq_number_any, eq_number_none, eq_number_truth, eq_number_number, eq_number_word, eq_number_row, eq_number_table, eq_number_or, eq_word_any, eq_word_none, eq_word_truth, eq_word_number, eq_word_word, eq_word_row, eq_word_table, eq_word_or, eq_row_any, eq_row_none, eq_row_truth, eq_row_number, eq_row_word, eq_row_row, eq_row_table, eq_row_or, eq_table_any, eq_table_none, eq_table_truth, eq_table_number, eq_table_word, eq_table_row, eq_table_table, eq_table_or, eq_or_any, eq_or_none, eq_or_truth, eq_or_number, eq_or_word, eq_or_row, eq_or_table, eq_or_or, ne_any_any, ne_any_none, ne_any_truth, ne_any_number, ne_any_word, ne_any_row, ne_any_table, ne_any_or, ne_none_any, ne_none_none, ne_none_truth, ne_none_number, ne_none_word, ne_none_row, ne_none_table, ne_none_or, ne_truth_any, ne_truth_none, ne_truth_truth, ne_truth_number, ne_truth_word, ne_truth_row, ne_truth_table, ne_truth_or, ne_number_any, ne_number_none, ne_number_truth, ne_number_number, ne_number_word, ne_number_row, ne_number_table, ne_number_or, ne_word_any, ne_word_none, ne_word_truth, ne_word_number, ne_word_word, ne_word_row, ne_word_table, ne_word_or, ne_row_any, ne_row_none, ne_row_truth, ne_row_number, ne_row_word, ne_row_row, ne_row_table, ne_row_or, ne_table_any, ne_table_none, ne_table_truth, ne_table_number, ne_table_word, ne_table_row, ne_table_table, ne_table_or, ne_or_any, ne_or_none, ne_or_truth, ne_or_number, ne_or_word, ne_or_row, ne_or_table, ne_or_or, sz_any, sz_none, sz_truth, sz_number, sz_word, sz_row, sz_table, sz_or, nei_1, nei_2, nei_3, nei_4]
  | @table n es rest hl hk0 hw hs hr ih ihr =>
    intro m t ht
    by_cases hk : kw t = "table"
    · obtain ⟨kvs, rfl⟩ := (th_inv ht hk).2.2.2.2.2 rfl
      obtain ⟨m', _, tx, hx⟩ := leaf_tab ht
      obtain ⟨F, hF0⟩ := fn_of es (fun e b => e.1 ∈ kS kvs → fitB e.2.1 (gv kvs e.1) n b ∧ (Ft e.2.1 (gv kvs e.1) → b = true)) fun e he => by
        by_cases hin : e.1 ∈ kS kvs
        · obtain ⟨b, hb⟩ := ih e he (hx _ hin)
          exact ⟨b, fun _ => hb⟩
        · exact ⟨false, fun z => absurd z hin⟩
      obtain ⟨G, hG⟩ := fn_of (kS kvs) (fun x b => rest ≠ .non → fitB rest (gv kvs x) n b) fun x hx' => by
        by_cases hin : rest = .non
        · exact ⟨false, fun z => absurd hin z⟩
        · obtain ⟨b, hb⟩ := ihr hin (hx _ hx')
          exact ⟨b, fun _ => hb.1⟩
      have hF := fun e he hin => (hF0 e he hin).1
      have nd : (es.map (·.1)).Nodup := by
        rw [← hk0]
        exact (sortS_perm _).nodup_iff.mpr (ddS_nodup _)
      have T : TF es rest kvs n F G := ⟨tx, nd, hl, hF, hG⟩
      have key : ∀ k, (den (k + 2 * (n + 1) + 2)) = den (k + 2 * n + 4) := fun k => by rw [show k + 2 * (n + 1) + 2 = k + 2 * n + 4 from by omega]
      refine ⟨((es.map entD).all (chk kvs F) && ((kS kvs).filter fun x => !decide (x ∈ es.map (·.1))).all (h2 rest G)), ⟨fun k => ?_, fun k => ?_⟩, fun z => ?_⟩
      · show fnD 4 (b_is_fit (den (k + 2 * (n + 1) + 2))) [_, _] () = _
        have h6 := prog_tab T k
        rw [← key k] at h6
        simp only [b_is_fit, ix0, kind_tab, h6, tru_bl, fnD, startD, endK, sRet, sRetN, sSeq, seqK, sIf, sAsg, sDrop, sNil, liftX, tgN, sFor, sOwn1, sOwn2, optK, putK2, sAsgO, sRetO, isRT, dAnd, dOr, dIf, bnd_e, dOp, dUn, dAll, dCons, dNil, ret_ap, dVar, getS, lift_e, lift_n, dC, dTst, isBl, dCall, up, tAndD, tOrD, tNotD, dItems, itemsD, dRange, dMt, dLc, rowD, tupD, truD, notD, tyIs, List.map_cons, List.map_nil, List.length_cons, List.length_nil, List.cons_append, List.nil_append, List.replicate_succ, List.replicate_zero, List.getElem?_cons_zero, List.getElem?_cons_succ, List.set_cons_zero, List.set_cons_succ, Option.join_some, Option.join_none, Option.map_some, Option.map_none, Option.bind_some, Option.bind_none, Nat.reduceAdd, Nat.reduceSub, Nat.zero_add, if_true, if_false, ite_true, ite_false, reduceIte, Bool.false_eq_true, Bool.true_eq_false, eq_self_iff_true, eq_any_any, eq_any_none, eq_any_truth, eq_any_number, eq_any_word, eq_any_row, eq_any_table, eq_any_or, eq_none_any, eq_none_none, eq_none_truth, eq_none_number, eq_none_word, eq_none_row, eq_none_table, eq_none_or, eq_truth_any, eq_truth_none, eq_truth_truth, eq_truth_number, eq_truth_word, eq_truth_row, eq_truth_table, eq_truth_or, eq_number_any, eq_number_none, eq_number_truth, eq_number_number, eq_number_word, eq_number_row, eq_number_table, eq_number_or, eq_word_any, eq_word_none, eq_word_truth, eq_word_number, eq_word_word, eq_word_row, eq_word_table, eq_word_or, eq_row_any, eq_row_none, eq_row_truth, eq_row_number, eq_row_word, eq_row_row, eq_row_table, eq_row_or, eq_table_any, eq_table_none, eq_table_truth, eq_table_number, eq_table_word, eq_table_row, eq_table_table, eq_table_or, eq_or_any, eq_or_none, eq_or_truth, eq_or_number, eq_or_word, eq_or_row, eq_or_table, eq_or_or, ne_any_any, ne_any_none, ne_any_truth, ne_any_number, ne_any_word, ne_any_row, ne_any_table, ne_any_or, ne_none_any, ne_none_none, ne_none_truth, ne_none_number, ne_none_word, ne_none_row, ne_none_table, ne_none_or, ne_truth_any, ne_truth_none, ne_truth_truth, ne_truth_number, ne_truth_word, ne_truth_row, ne_truth_table, ne_truth_or, ne_number_any, ne_number_none, ne_number_truth, ne_number_number, ne_number_word, ne_number_row, ne_number_table, ne_number_or, ne_word_any, ne_word_none, ne_word_truth, ne_word_number, ne_word_word, ne_word_row, ne_word_table, ne_word_or, ne_row_any, ne_row_none, ne_row_truth, ne_row_number, ne_row_word, ne_row_row, ne_row_table, ne_row_or, ne_table_any, ne_table_none, ne_table_truth, ne_table_number, ne_table_word, ne_table_row, ne_table_table, ne_table_or, ne_or_any, ne_or_none, ne_or_truth, ne_or_number, ne_or_word, ne_or_row, ne_or_table, ne_or_or, sz_any, sz_none, sz_truth, sz_number, sz_word, sz_row, sz_table, sz_or, nei_1, nei_2, nei_3, nei_4]
      · have h6 := law_tab T 5 (fun k => lkind_tab k kvs) kd5 (k + 1)
        rw [show k + 1 + 2 * n + 4 = k + 2 * (n + 1) + 3 from by omega] at h6
        rw [h6, tab_same T]
      · generalize hes : es.map entD = L at z
        cases z with
        | table z1 z2 z3 =>
          have e := map_ent_inj hes
          subst e
          rw [Bool.and_eq_true, List.all_map, List.all_eq_true, List.all_eq_true]
          refine ⟨fun e he => ?_, fun x hx => ?_⟩
          · have h1 := z2 e he
            have h3 := hF0 e he
            obtain ⟨x, s, m⟩ := e
            show (!((decide (x ∈ kS kvs) && !F (x, s, m)) || (m && !decide (x ∈ kS kvs)))) = true
            by_cases hin : x ∈ kS kvs
            · rw [decide_eq_true hin, (h3 hin).2 (z1 _ he hin)]
              cases m <;> rfl
            · have hm : m = false := by
                cases hq : m with
                | false => rfl
                | true => exact absurd (h1 hq) hin
              rw [decide_eq_false hin, hm]; rfl
          · obtain ⟨hk1, hk2⟩ := List.mem_filter.mp hx
            rw [decide_eq_true (z3 x hk1)] at hk2
            cases hk2
    · exact ⟨false, miss_table _ _ ht hk _, fun z => absurd (ft_kw z (by first | decide +kernel | rfl)) hk⟩
/-! ### what is told -/
theorem look_shape_eq {n : Nat} {d : D} (h : Sh n d) (hn : n ≤ 30) (k : Nat) : (den (k + 3 * n + 5)).look_shape [d] () = .ok .non () := by
  show fnD 1 (b_look_shape (den (k + 3 * n + 4))) [d] () = _
  have h2 : (den (k + 3 * n + 4)).is_shape [d, .int 0] () = .ok (.bl true) () := is_shape_eq h 0 k (by omega)
  simp only [b_look_shape, h2, fnD, startD, endK, sRet, sRetN, sSeq, seqK, sIf, sAsg, sDrop, sNil, liftX, tgN, sFor, sOwn1, sOwn2, optK, putK2, sAsgO, sRetO, isRT, dAnd, dOr, dIf, bnd_e, dOp, dUn, dAll, dCons, dNil, ret_ap, dVar, getS, lift_e, lift_n, dC, dTst, isBl, dCall, up, tAndD, tOrD, tNotD, dItems, itemsD, dRange, dMt, dLc, rowD, tupD, truD, notD, tyIs, List.map_cons, List.map_nil, List.length_cons, List.length_nil, List.cons_append, List.nil_append, List.replicate_succ, List.replicate_zero, List.getElem?_cons_zero, List.getElem?_cons_succ, List.set_cons_zero, List.set_cons_succ, Option.join_some, Option.join_none, Option.map_some, Option.map_none, Option.bind_some, Option.bind_none, Nat.reduceAdd, Nat.reduceSub, Nat.zero_add, if_true, if_false, ite_true, ite_false, reduceIte, Bool.false_eq_true, Bool.true_eq_false, eq_self_iff_true, Bool.not_true]
end Nw
set_option Elab.async false
set_option linter.all false
set_option maxRecDepth 100000
set_option maxHeartbeats 4000000
namespace Nw
open PySem PySem.Spec L2
/-! ### few things -/
def fwL : D → Prop
  | .non => True
  | .bl _ => True
  | .int i => -7 ≤ i ∧ i ≤ 99
  | .str x => isW x = true ∧ x.length ≤ 3
  | _ => False
def Fw : Nat → D → Prop
  | 0, d => fwL d
  | n + 1, .row xs => xs.length ≤ 3 ∧ ∀ x ∈ xs, Fw n x
  | n + 1, .tab kvs => kvs.length ≤ 3 ∧ (kvs.map (·.1)).Nodup ∧ ∀ p ∈ kvs, (∃ x, p.1 = Sum.inr x ∧ isW x = true) ∧ Fw n p.2
  | _ + 1, d => fwL d
theorem fwL_ok {d : D} (h : fwL d) : okL d := by
  cases d with
  | non => trivial
  | bl b => trivial
  | int i => exact okL_int ⟨by have := h.1; omega, by have := h.2; omega⟩
  | str x => exact h.1
  | _ => exact h.elim
theorem Fw.leaf {n : Nat} {d : D} (h : fwL d) : Fw n d := by
  cases n with
  | zero => exact h
  | succ n => cases d <;> first | exact h | exact h.elim
theorem Fw.th : ∀ {n : Nat} {d : D}, Fw n d → ThD n d
  | 0, d, h => .leaf (fwL_ok h)
  | n + 1, d, h => by
    cases d with
    | row xs => exact ⟨by have := h.1; omega, fun x hx => (h.2 x hx).th⟩
    | tab kvs => exact ⟨by have := h.1; omega, h.2.1, fun p hp => ⟨(h.2.2 p hp).1, (h.2.2 p hp).2.th⟩⟩
    | non => exact .leaf (fwL_ok h)
    | bl b => exact .leaf (fwL_ok (d := .bl b) h)
    | int b => exact .leaf (fwL_ok (d := .int b) h)
    | str b => exact .leaf (fwL_ok (d := .str b) h)
    | _ => exact h.elim
/-- a loop that draws -/
theorem forL_ex {tg : D → Sl → Option Sl} {body : Sl → Mo Nat} (I : List D → Sl → Prop) (B L : Nat) (all : List D)
    (hs : ∀ pre x suf r s, all = pre ++ x :: suf → I pre r → s + B ≤ L → ∃ r' r'' s', tg x r = some r' ∧ body r' s = some (.next r'', s') ∧ I (pre ++ [x]) r'' ∧ s' ≤ s + B) : ∀ (xs pre : List D) (r : Sl) (s : Nat), all = pre ++ xs → I pre r → s + B * xs.length ≤ L →
    ∃ r' s', forL tg body xs r s = some (.next r', s') ∧ I all r' ∧ s' ≤ s + B * xs.length
  | [], pre, r, s, ha, h, _ => ⟨r, s, rfl, by rw [ha, List.append_nil]; exact h, by omega⟩
  | x :: xs, pre, r, s, ha, h, hl => by
    have hm : B * (xs.length + 1) = B * xs.length + B := by rw [Nat.mul_add, Nat.mul_one]
    rw [List.length_cons, hm] at hl ⊢
    obtain ⟨r', r'', s1, e1, e2, h1, h2⟩ := hs pre x xs r s ha h (by omega)
    obtain ⟨r3, s2, e3, h3, h4⟩ := forL_ex I B L all hs xs (pre ++ [x]) r'' s1 (by rw [ha, List.append_assoc]; rfl) h1 (by omega)
    refine ⟨r3, s2, ?_, h3, by omega⟩
    rw [forL_cons, e1]
    show loopK (forL tg body xs) (body r' s) = _
    rw [e2]; exact e3
def BF : Nat → Nat
  | 0 => 3
  | n + 1 => 3 * BF n + 5
theorem BF_pos : ∀ n, 3 ≤ BF n
  | 0 => Nat.le_refl _
  | n + 1 => by show 3 ≤ 3 * BF n + 5; omega
/-- a table of few things as it grows -/
def GoF (n : Nat) (kvs : List (Key × D)) : Prop := (kvs.map (·.1)).Nodup ∧ ∀ p ∈ kvs, (∃ x, p.1 = Sum.inr x ∧ isW x = true) ∧ Fw n p.2
theorem few_leaf (ns : List Int) (k s : Nat) (hs : s + 2 ≤ sizeLine) : ∃ (u : Int) (x : D), (den (k + 4))._law_draw [scriptD ns, .obj 0, .int 100] s = .ok (.int u) (s + 1) ∧ (den (k + 4))._law_pick [scriptD ns, .obj 0, .row [.non, .bl true, .bl false, .int 0, .int 1, .int (-7), .int u, .str "", .str "a", .str "abc"]] (s + 1) = .ok x (s + 1 + 1) ∧ fwL x := by
  obtain ⟨u, u0, u1, hu⟩ := draw_eq ns (k + 1) s 100 (by decide) (by omega)
  obtain ⟨x, hx, hp⟩ := pick_eq ns k (s + 1) [.non, .bl true, .bl false, .int 0, .int 1, .int (-7), .int u, .str "", .str "a", .str "abc"] (fun z => nomatch z) (by omega)
  refine ⟨u, x, hu, hp, ?_⟩
  simp only [List.mem_cons, List.not_mem_nil, or_false] at hx
  rcases hx with rfl | rfl | rfl | rfl | rfl | rfl | rfl | rfl | rfl | rfl
  · trivial
  · trivial
  · trivial
  · exact ⟨by decide, by decide⟩
  · exact ⟨by decide, by decide⟩
  · exact ⟨by decide, by decide⟩
  · exact ⟨by omega, by omega⟩
  · exact ⟨by decide +kernel, by decide +kernel⟩
  · exact ⟨by decide +kernel, by decide +kernel⟩
  · exact ⟨by decide +kernel, by decide +kernel⟩
theorem neg7 : negD (.int 7) = some (.int (-7)) := rfl
theorem GoF.put {n : Nat} {kvs : List (Key × D)} (h : GoF n kvs) {x : Str} {d : D} (hn : (Sum.inr x : Key) ∉ kvs.map (·.1)) (hx : isW x = true) (hd : Fw n d) : GoF n (kvs ++ [(Sum.inr x, d)]) := by
  refine ⟨?_, fun p hp => ?_⟩
  · rw [List.map_append, List.nodup_append]
    exact ⟨h.1, List.nodup_cons.mpr ⟨by simp, List.nodup_nil⟩, fun a ha b hb e => by
      have hb : b = Sum.inr x := List.mem_singleton.mp hb
      rw [hb] at e
      rw [e] at ha
      exact hn ha⟩
  · rcases List.mem_append.mp hp with hp | hp
    · exact h.2 p hp
    · rw [List.mem_singleton.mp hp]; exact ⟨⟨x, rfl, hx⟩, hd⟩
theorem few_eq (ns : List Int) : ∀ (n k s : Nat), s + BF n ≤ sizeLine → ∃ d s', (den (k + n + 5))._law_few [scriptD ns, .obj 0, .int (n : Nat)] s = .ok d s' ∧ Fw n d ∧ s' ≤ s + BF n := by
  intro n
  induction n with
  | zero =>
    intro k s hs
    have hs' : s + 3 ≤ sizeLine := hs
    show ∃ d s', fnD 8 (b__law_few (den (k + 4))) [scriptD ns, .obj 0, .int ((0 : Nat) : Int)] s = _ ∧ _
    obtain ⟨v, v0, v1, hv⟩ := draw_eq ns (k + 1) s 4 (by decide) (by omega)
    obtain ⟨u, x, h1, h2, h3⟩ := few_leaf ns k (s + 1) (by omega)
    refine ⟨x, s + 1 + 1 + 1, ?_, h3, by show s + 1 + 1 + 1 ≤ s + 3; omega⟩
    have g1 : gtD (.int ((0 : Nat) : Int)) (.int 0) = some (.bl false) := by kernel_rfl
    simp only [b__law_few, g1, hv, lt_e, decide_eq_true v1, neg7, h1, h2, fnD, startD, endK, sRet, sRetN, sSeq, seqK, sIf, sAsg, sDrop, sNil, liftX, tgN, sFor, sOwn1, sOwn2, optK, putK2, sAsgO, sRetO, isRT, dAnd, dOr, dIf, bnd_e, dOp, dUn, dAll, dCons, dNil, ret_ap, dVar, getS, lift_e, lift_n, dC, dTst, isBl, dCall, up, tAndD, tOrD, tNotD, dItems, itemsD, dRange, dMt, dLc, rowD, tupD, truD, notD, tyIs, List.map_cons, List.map_nil, List.length_cons, List.length_nil, List.cons_append, List.nil_append, List.replicate_succ, List.replicate_zero, List.getElem?_cons_zero, List.getElem?_cons_succ, List.set_cons_zero, List.set_cons_succ, Option.join_some, Option.join_none, Option.map_some, Option.map_none, Option.bind_some, Option.bind_none, Nat.reduceAdd, Nat.reduceSub, Nat.zero_add, if_true, if_false, ite_true, ite_false, reduceIte, Bool.false_eq_true, Bool.true_eq_false, eq_self_iff_true, show (10 : Nat) ≤ sizeLine from by decide]
  | succ n ih =>
    intro k s hs
    have hB : BF (n + 1) = 3 * BF n + 5 := rfl
    have hp := BF_pos n
    rw [hB] at hs ⊢
    show ∃ d s', fnD 8 (b__law_few (den (k + n + 5))) [scriptD ns, .obj 0, .int ((n + 1 : Nat) : Int)] s = _ ∧ _
    have g1 : gtD (.int ((n + 1 : Nat) : Int)) (.int 0) = some (.bl true) := by rw [gt_e, decide_eq_true (by omega)]
    have hsub : subD (.int ((n + 1 : Nat) : Int)) (.int 1) = some (.int (n : Nat)) := by
      show some (D.int _) = _
      congr 2; omega
    obtain ⟨v, v0, v1, hv⟩ := draw_eq ns (k + n + 2) s 9 (by decide) (by omega)
    by_cases h4 : v < 4
    · obtain ⟨u, x, h1, h2, h3⟩ := few_leaf ns (k + n + 1) (s + 1) (by omega)
      refine ⟨x, s + 1 + 1 + 1, ?_, .leaf h3, by omega⟩
      simp only [b__law_few, g1, hv, lt_e, decide_eq_true h4, neg7, h1, h2, fnD, startD, endK, sRet, sRetN, sSeq, seqK, sIf, sAsg, sDrop, sNil, liftX, tgN, sFor, sOwn1, sOwn2, optK, putK2, sAsgO, sRetO, isRT, dAnd, dOr, dIf, bnd_e, dOp, dUn, dAll, dCons, dNil, ret_ap, dVar, getS, lift_e, lift_n, dC, dTst, isBl, dCall, up, tAndD, tOrD, tNotD, dItems, itemsD, dRange, dMt, dLc, rowD, tupD, truD, notD, tyIs, List.map_cons, List.map_nil, List.length_cons, List.length_nil, List.cons_append, List.nil_append, List.replicate_succ, List.replicate_zero, List.getElem?_cons_zero, List.getElem?_cons_succ, List.set_cons_zero, List.set_cons_succ, Option.join_some, Option.join_none, Option.map_some, Option.map_none, Option.bind_some, Option.bind_none, Nat.reduceAdd, Nat.reduceSub, Nat.zero_add, if_true, if_false, ite_true, ite_false, reduceIte, Bool.false_eq_true, Bool.true_eq_false, eq_self_iff_true, show (10 : Nat) ≤ sizeLine from by decide]
    · by_cases h6 : v < 6
      · obtain ⟨c, c0, c1, hc⟩ := draw_eq ns (k + n + 2) (s + 1) 4 (by decide) (by omega)
        have hr := rng_int c0 (show c ≤ 100 by omega)
        have hll : ((List.range c.toNat).map fun (j : Nat) => D.int (j : Int)).length = c.toNat := by rw [List.length_map, List.length_range]
        have hc3 : c.toNat ≤ 3 := by omega
        have hmul : BF n * c.toNat ≤ BF n * 3 := Nat.mul_le_mul_left _ hc3
        obtain ⟨ys, s', h1, h2, h3, h5⟩ := lcA_ex (i := 7) (f := dCall 3 (den (k + n + 5))._law_few (dCons (dVar 0) (dCons (dVar 1) (dCons (dOp subD (dVar 2) (dC (.int 1))) dNil)))) (r := [some (scriptD ns), some (.obj 0), some (.int ((n + 1 : Nat) : Int)), some (.int v), none, none, none, none]) (Fw n) (BF n) sizeLine ((List.range c.toNat).map fun (j : Nat) => D.int (j : Int)) [] (s + 1 + 1) (fun x hx s hs => by
          obtain ⟨d, s', e1, e2, e3⟩ := ih k s hs
          refine ⟨d, s', ?_, e2, e3⟩
          simp only [hsub, e1, fnD, startD, endK, sRet, sRetN, sSeq, seqK, sIf, sAsg, sDrop, sNil, liftX, tgN, sFor, sOwn1, sOwn2, optK, putK2, sAsgO, sRetO, isRT, dAnd, dOr, dIf, bnd_e, dOp, dUn, dAll, dCons, dNil, ret_ap, dVar, getS, lift_e, lift_n, dC, dTst, isBl, dCall, up, tAndD, tOrD, tNotD, dItems, itemsD, dRange, dMt, dLc, rowD, tupD, truD, notD, tyIs, List.map_cons, List.map_nil, List.length_cons, List.length_nil, List.cons_append, List.nil_append, List.replicate_succ, List.replicate_zero, List.getElem?_cons_zero, List.getElem?_cons_succ, List.set_cons_zero, List.set_cons_succ, Option.join_some, Option.join_none, Option.map_some, Option.map_none, Option.bind_some, Option.bind_none, Nat.reduceAdd, Nat.reduceSub, Nat.zero_add, if_true, if_false, ite_true, ite_false, reduceIte, Bool.false_eq_true, Bool.true_eq_false, eq_self_iff_true]) (by rw [hll]; omega)
        rw [hll] at h5 h2
        rw [List.nil_append] at h1
        refine ⟨.row ys, s', ?_, ⟨by rw [h2]; exact hc3, h3⟩, by omega⟩
        simp only [b__law_few, g1, hv, lt_e, decide_eq_false h4, decide_eq_true h6, hc, hr, h1, fnD, startD, endK, sRet, sRetN, sSeq, seqK, sIf, sAsg, sDrop, sNil, liftX, tgN, sFor, sOwn1, sOwn2, optK, putK2, sAsgO, sRetO, isRT, dAnd, dOr, dIf, bnd_e, dOp, dUn, dAll, dCons, dNil, ret_ap, dVar, getS, lift_e, lift_n, dC, dTst, isBl, dCall, up, tAndD, tOrD, tNotD, dItems, itemsD, dRange, dMt, dLc, rowD, tupD, truD, notD, tyIs, List.map_cons, List.map_nil, List.length_cons, List.length_nil, List.cons_append, List.nil_append, List.replicate_succ, List.replicate_zero, List.getElem?_cons_zero, List.getElem?_cons_succ, List.set_cons_zero, List.set_cons_succ, Option.join_some, Option.join_none, Option.map_some, Option.map_none, Option.bind_some, Option.bind_none, Nat.reduceAdd, Nat.reduceSub, Nat.zero_add, if_true, if_false, ite_true, ite_false, reduceIte, Bool.false_eq_true, Bool.true_eq_false, eq_self_iff_true]
      · obtain ⟨r', s', e1, ⟨kvs, a, hpre, e2, e3, e4⟩, e5⟩ := forL_ex (tg := tgN 6) (body := sIf (dTst (dOp gtD (dCall 3 (den (k + n + 5))._law_draw (dCons (dVar 0) (dCons (dVar 1) (dCons (dC (.int 3)) dNil)))) (dC (.int 0))) isBl) (sOwn2 5 setTD (dVar 6) (dCall 3 (den (k + n + 5))._law_few (dCons (dVar 0) (dCons (dVar 1) (dCons (dOp subD (dVar 2) (dC (.int 1))) dNil))))) sNil)
          (fun pre r => ∃ kvs a, r = [some (scriptD ns), some (.obj 0), some (.int ((n + 1 : Nat) : Int)), some (.int v), none, some (.tab kvs), a, none] ∧ GoF n kvs ∧ (∀ x, (Sum.inr x : Key) ∈ kvs.map (·.1) → D.str x ∈ pre) ∧ kvs.length ≤ pre.length) (BF n + 1) sizeLine [.str "a", .str "b", .str "c"]
          (fun pre x suf r s hx ⟨kvs, a, hr, hg, hk, hl⟩ hs => by
            subst hr
            have hm : x ∈ [D.str "a", .str "b", .str "c"] := by rw [hx]; exact List.mem_append_right _ List.mem_cons_self
            have hnd : x ∉ pre := by
              have nd : ([D.str "a", .str "b", .str "c"]).Nodup := by
                refine List.nodup_cons.mpr ⟨fun z => ?_, List.nodup_cons.mpr ⟨fun z => ?_, List.nodup_cons.mpr ⟨by simp, List.nodup_nil⟩⟩⟩
                · rcases List.mem_cons.mp z with z | z
                  · exact absurd (D.str.inj z) (by decide +kernel)
                  · exact absurd (D.str.inj (List.mem_singleton.mp z)) (by decide +kernel)
                · exact absurd (D.str.inj (List.mem_singleton.mp z)) (by decide +kernel)
              rw [hx] at nd
              exact fun z => (List.nodup_append.mp nd).2.2 _ z _ List.mem_cons_self rfl
            have hpl : pre.length ≤ 3 := by
              have h2 : ([D.str "a", .str "b", .str "c"]).length = pre.length + (suf.length + 1) := by rw [hx, List.length_append, List.length_cons]
              have h3 : ([D.str "a", .str "b", .str "c"]).length = 3 := rfl
              rw [h3] at h2
              omega
            have hxx : ∃ y, x = .str y ∧ isW y = true := by
              simp only [List.mem_cons, List.not_mem_nil, or_false] at hm
              rcases hm with rfl | rfl | rfl <;> exact ⟨_, rfl, by decide +kernel⟩
            obtain ⟨y, rfl, hw⟩ := hxx
            obtain ⟨u, u0, u1, hu⟩ := draw_eq ns (k + n + 2) s 3 (by decide) (by omega)
            by_cases hu0 : 0 < u
            · obtain ⟨d, s', f1, f2, f3⟩ := ih k (s + 1) (by omega)
              have hn : (Sum.inr y : Key) ∉ kvs.map (·.1) := fun z => hnd (hk y z)
              have e7 : setTD (.tab kvs) (.str y) d = some (.tab (kvs ++ [(Sum.inr y, d)])) := by
                show (if kvs.length < sizeLine then some (D.tab (putD kvs (.inr y) d)) else none) = _
                rw [if_pos (by rw [sizeLine_eq]; omega), putD_new hn]
              refine ⟨[some (scriptD ns), some (.obj 0), some (.int ((n + 1 : Nat) : Int)), some (.int v), none, some (.tab kvs), some (.str y), none], [some (scriptD ns), some (.obj 0), some (.int ((n + 1 : Nat) : Int)), some (.int v), none, some (.tab (kvs ++ [(Sum.inr y, d)])), some (.str y), none], s', rfl, ?_, ⟨_, _, rfl, hg.put hn hw f2, fun z hz => ?_, by rw [List.length_append, List.length_append]; exact Nat.succ_le_succ hl⟩, by omega⟩
              · simp only [hu, gt_e, decide_eq_true hu0, hsub, f1, e7, fnD, startD, endK, sRet, sRetN, sSeq, seqK, sIf, sAsg, sDrop, sNil, liftX, tgN, sFor, sOwn1, sOwn2, optK, putK2, sAsgO, sRetO, isRT, dAnd, dOr, dIf, bnd_e, dOp, dUn, dAll, dCons, dNil, ret_ap, dVar, getS, lift_e, lift_n, dC, dTst, isBl, dCall, up, tAndD, tOrD, tNotD, dItems, itemsD, dRange, dMt, dLc, rowD, tupD, truD, notD, tyIs, List.map_cons, List.map_nil, List.length_cons, List.length_nil, List.cons_append, List.nil_append, List.replicate_succ, List.replicate_zero, List.getElem?_cons_zero, List.getElem?_cons_succ, List.set_cons_zero, List.set_cons_succ, Option.join_some, Option.join_none, Option.map_some, Option.map_none, Option.bind_some, Option.bind_none, Nat.reduceAdd, Nat.reduceSub, Nat.zero_add, if_true, if_false, ite_true, ite_false, reduceIte, Bool.false_eq_true, Bool.true_eq_false, eq_self_iff_true]
              · rw [List.map_append] at hz
                rcases List.mem_append.mp hz with hz | hz
                · exact List.mem_append_left _ (hk z hz)
                · have hz : Sum.inr z = (Sum.inr y : Key) := List.mem_singleton.mp hz
                  rw [Sum.inr.inj hz]
                  exact List.mem_append_right _ List.mem_cons_self
            · refine ⟨[some (scriptD ns), some (.obj 0), some (.int ((n + 1 : Nat) : Int)), some (.int v), none, some (.tab kvs), some (.str y), none], [some (scriptD ns), some (.obj 0), some (.int ((n + 1 : Nat) : Int)), some (.int v), none, some (.tab kvs), some (.str y), none], s + 1, rfl, ?_, ⟨_, _, rfl, hg, fun z hz => List.mem_append_left _ (hk z hz), by rw [List.length_append]; omega⟩, by omega⟩
              simp only [hu, gt_e, decide_eq_false hu0, fnD, startD, endK, sRet, sRetN, sSeq, seqK, sIf, sAsg, sDrop, sNil, liftX, tgN, sFor, sOwn1, sOwn2, optK, putK2, sAsgO, sRetO, isRT, dAnd, dOr, dIf, bnd_e, dOp, dUn, dAll, dCons, dNil, ret_ap, dVar, getS, lift_e, lift_n, dC, dTst, isBl, dCall, up, tAndD, tOrD, tNotD, dItems, itemsD, dRange, dMt, dLc, rowD, tupD, truD, notD, tyIs, List.map_cons, List.map_nil, List.length_cons, List.length_nil, List.cons_append, List.nil_append, List.replicate_succ, List.replicate_zero, List.getElem?_cons_zero, List.getElem?_cons_succ, List.set_cons_zero, List.set_cons_succ, Option.join_some, Option.join_none, Option.map_some, Option.map_none, Option.bind_some, Option.bind_none, Nat.reduceAdd, Nat.reduceSub, Nat.zero_add, if_true, if_false, ite_true, ite_false, reduceIte, Bool.false_eq_true, Bool.true_eq_false, eq_self_iff_true])
          [.str "a", .str "b", .str "c"] [] [some (scriptD ns), some (.obj 0), some (.int ((n + 1 : Nat) : Int)), some (.int v), none, some (.tab []), none, none] (s + 1) rfl ⟨[], none, rfl, ⟨List.nodup_nil, fun p hp => nomatch hp⟩, (fun x hx => nomatch hx), Nat.le_refl _⟩ (by show s + 1 + (BF n + 1) * 3 ≤ sizeLine; omega)
        subst hpre
        have e5 : s' ≤ s + 1 + (BF n + 1) * 3 := e5
        refine ⟨.tab kvs, s', ?_, ⟨e4, e2.1, e2.2⟩, by omega⟩
        simp only [b__law_few, g1, hv, lt_e, decide_eq_false h4, decide_eq_false h6, e1, fnD, startD, endK, sRet, sRetN, sSeq, seqK, sIf, sAsg, sDrop, sNil, liftX, tgN, sFor, sOwn1, sOwn2, optK, putK2, sAsgO, sRetO, isRT, dAnd, dOr, dIf, bnd_e, dOp, dUn, dAll, dCons, dNil, ret_ap, dVar, getS, lift_e, lift_n, dC, dTst, isBl, dCall, up, tAndD, tOrD, tNotD, dItems, itemsD, dRange, dMt, dLc, rowD, tupD, truD, notD, tyIs, List.map_cons, List.map_nil, List.length_cons, List.length_nil, List.cons_append, List.nil_append, List.replicate_succ, List.replicate_zero, List.getElem?_cons_zero, List.getElem?_cons_succ, List.set_cons_zero, List.set_cons_succ, Option.join_some, Option.join_none, Option.map_some, Option.map_none, Option.bind_some, Option.bind_none, Nat.reduceAdd, Nat.reduceSub, Nat.zero_add, if_true, if_false, ite_true, ite_false, reduceIte, Bool.false_eq_true, Bool.true_eq_false, eq_self_iff_true, show (3 : Nat) ≤ sizeLine from by decide]
end Nw
set_option Elab.async false
set_option linter.all false
set_option maxRecDepth 100000
set_option maxHeartbeats 4000000
namespace Nw
open PySem PySem.Spec L2
theorem lcA_int {S : Type} {i : Nat} {f : Sl → M S D} {r : Sl} {s : S} (g : D → Int) (xs : List D) (h : ∀ x ∈ xs, f (r.set i (some x)) s = .ok (.int (g x)) s) : lcA (tgN i) dYes f r [] xs s = .ok (.row ((xs.map g).map D.int)) s := by
  rw [lcA_map (fun x => .int (g x)) xs [] h, List.nil_append, List.map_map]; rfl
/-! ### the narrowest shape -/
def selK (w : Str) (xs : List D) : List D := xs.filter fun x => decide (kw x = w)
def intOf : D → Int | .int i => i | _ => 0
def lenOf : D → Int | .str x => ((x.length : Nat) : Int) | .row xs => (xs.length : Int) | _ => 0
def rowOf : D → List D | .row xs => xs | _ => []
def kvsOf : D → List (Key × D) | .tab kvs => kvs | _ => []
def minI : List Int → Int | [] => 0 | n :: r => minL n r
def maxI : List Int → Int | [] => 0 | n :: r => maxL n r
def keysA (ts : List D) : List Str := ts.flatMap fun t => kS (kvsOf t)
def valsA (ts : List D) (x : Str) : List D := (ts.filter fun t => decide (x ∈ kS (kvsOf t))).map fun t => gv (kvsOf t) x
def entsA (rec : List D → D) (ts : List D) : List (Str × D × Bool) := (sortS (ddS (keysA ts))).map fun x => (x, rec (valsA ts x), decide ((valsA ts x).length = ts.length))
def partK (rec : List D → D) (w : Str) (s : List D) : D :=
  if w = "number" then .tup [.str "number", .int (minI (s.map intOf)), .int (maxI (s.map intOf))]
  else if w = "word" then .tup [.str "word", .int (maxI (s.map lenOf))]
  else if w = "row" then .tup [.str "row", rec (s.flatMap rowOf), .int (minI (s.map lenOf)), .int (maxI (s.map lenOf))]
  else if w = "table" then .tup [.str "table", .tup ((entsA rec s).map entD), .non]
  else .tup [.str w]
def partO (rec : List D → D) (xs : List D) (w : Str) : Option D := if (selK w xs).isEmpty = true then none else some (partK rec w (selK w xs))
def KW : List Str := ["none", "truth", "number", "word", "row", "table"]
def wrap : List D → D | [a] => a | l => .tup [.str "or", .tup l]
def least : Nat → List D → D
  | 0, xs => wrap (KW.filterMap (partO (fun _ => .non) xs))
  | n + 1, xs => wrap (KW.filterMap (partO (least n) xs))
/-! ### it hangs on what things there are alone -/
def SetEq {α : Type} (l m : List α) : Prop := ∀ x, x ∈ l ↔ x ∈ m
theorem SetEq.map {α β : Type} {l m : List α} (h : SetEq l m) (f : α → β) : SetEq (l.map f) (m.map f) := fun y => by
  rw [List.mem_map, List.mem_map]
  exact ⟨fun ⟨x, h1, h2⟩ => ⟨x, (h x).mp h1, h2⟩, fun ⟨x, h1, h2⟩ => ⟨x, (h x).mpr h1, h2⟩⟩
theorem SetEq.flat {α β : Type} {l m : List α} (h : SetEq l m) (f : α → List β) : SetEq (l.flatMap f) (m.flatMap f) := fun y => by
  rw [List.mem_flatMap, List.mem_flatMap]
  exact ⟨fun ⟨x, h1, h2⟩ => ⟨x, (h x).mp h1, h2⟩, fun ⟨x, h1, h2⟩ => ⟨x, (h x).mpr h1, h2⟩⟩
theorem SetEq.filter {α : Type} {l m : List α} (h : SetEq l m) (f : α → Bool) : SetEq (l.filter f) (m.filter f) := fun y => by
  rw [List.mem_filter, List.mem_filter, h y]
theorem SetEq.nil {α : Type} {l m : List α} (h : SetEq l m) : l.isEmpty = m.isEmpty := by
  cases l with
  | nil => cases m with
    | nil => rfl
    | cons b m => exact absurd ((h b).mpr List.mem_cons_self) (by simp)
  | cons a l => cases m with
    | nil => exact absurd ((h a).mp List.mem_cons_self) (by simp)
    | cons b m => rfl
theorem maxI_mem {l : List Int} (h : l ≠ []) : maxI l ∈ l ∧ ∀ y ∈ l, y ≤ maxI l := by
  cases l with
  | nil => exact absurd rfl h
  | cons a r =>
    obtain ⟨h1, h2, h3⟩ := maxL_spec r a
    refine ⟨?_, fun y hy => ?_⟩
    · rcases h1 with h1 | h1
      · show maxL a r ∈ _
        rw [h1]; exact List.mem_cons_self
      · exact List.mem_cons_of_mem _ h1
    · rcases List.mem_cons.mp hy with rfl | hy
      · exact h2
      · exact h3 y hy
theorem minI_mem {l : List Int} (h : l ≠ []) : minI l ∈ l ∧ ∀ y ∈ l, minI l ≤ y := by
  cases l with
  | nil => exact absurd rfl h
  | cons a r =>
    obtain ⟨h1, h2, h3⟩ := minL_spec r a
    refine ⟨?_, fun y hy => ?_⟩
    · rcases h1 with h1 | h1
      · show minL a r ∈ _
        rw [h1]; exact List.mem_cons_self
      · exact List.mem_cons_of_mem _ h1
    · rcases List.mem_cons.mp hy with rfl | hy
      · exact h2
      · exact h3 y hy
theorem ne_of_set {α : Type} {l m : List α} (h : SetEq l m) (hl : l ≠ []) : m ≠ [] := fun z => by
  have h1 := h.nil
  rw [z] at h1
  cases l with
  | nil => exact hl rfl
  | cons a b => cases h1
theorem maxI_set {l m : List Int} (h : SetEq l m) : maxI l = maxI m := by
  by_cases hl : l = []
  · subst hl
    have hm : m = [] := by
      cases m with
      | nil => rfl
      | cons b m => exact absurd ((h b).mpr List.mem_cons_self) (by simp)
    rw [hm]
  · obtain ⟨a1, a2⟩ := maxI_mem hl
    obtain ⟨b1, b2⟩ := maxI_mem (ne_of_set h hl)
    exact Int.le_antisymm (b2 _ ((h _).mp a1)) (a2 _ ((h _).mpr b1))
theorem minI_set {l m : List Int} (h : SetEq l m) : minI l = minI m := by
  by_cases hl : l = []
  · subst hl
    have hm : m = [] := by
      cases m with
      | nil => rfl
      | cons b m => exact absurd ((h b).mpr List.mem_cons_self) (by simp)
    rw [hm]
  · obtain ⟨a1, a2⟩ := minI_mem hl
    obtain ⟨b1, b2⟩ := minI_mem (ne_of_set h hl)
    exact Int.le_antisymm (a2 _ ((h _).mpr b1)) (b2 _ ((h _).mp a1))
theorem sortS_congr {l m : List Str} (p : l.Perm m) : sortS l = sortS m := pw_eq (sortS_pw l) (sortS_pw m) ((sortS_perm l).trans (p.trans (sortS_perm m).symm))
theorem keys_set {l m : List Str} (h : SetEq l m) : sortS (ddS l) = sortS (ddS m) := sortS_congr (perm_of_mem (ddS_nodup l) (ddS_nodup m) fun x => by rw [ddS_mem, ddS_mem]; exact h x)
theorem vals_all (ts : List D) (x : Str) : (valsA ts x).length = ts.length ↔ ∀ t ∈ ts, x ∈ kS (kvsOf t) := by
  unfold valsA
  rw [List.length_map, List.length_filter_eq_length_iff]
  exact ⟨fun h t ht => of_decide_eq_true (h t ht), fun h t ht => decide_eq_true (h t ht)⟩
theorem ents_set {rec : List D → D} (hr : ∀ l m, SetEq l m → rec l = rec m) {l m : List D} (h : SetEq l m) : entsA rec l = entsA rec m := by
  unfold entsA
  have hk : sortS (ddS (keysA l)) = sortS (ddS (keysA m)) := keys_set (h.flat fun t => kS (kvsOf t))
  rw [hk]
  refine List.map_congr_left fun x _ => ?_
  have h1 : SetEq (valsA l x) (valsA m x) := (h.filter _).map _
  have h2 : decide ((valsA l x).length = l.length) = decide ((valsA m x).length = m.length) := decide_eq_decide.mpr (by
    rw [vals_all, vals_all]
    exact ⟨fun k t ht => k t ((h t).mpr ht), fun k t ht => k t ((h t).mp ht)⟩)
  rw [hr _ _ h1, h2]
theorem partK_set {rec : List D → D} (hr : ∀ l m, SetEq l m → rec l = rec m) (w : Str) {l m : List D} (h : SetEq l m) : partK rec w l = partK rec w m := by
  unfold partK
  rw [minI_set (h.map intOf), maxI_set (h.map intOf), maxI_set (h.map lenOf), minI_set (h.map lenOf), hr _ _ (h.flat rowOf), ents_set hr h]
theorem partO_set {rec : List D → D} (hr : ∀ l m, SetEq l m → rec l = rec m) {l m : List D} (h : SetEq l m) : partO rec l = partO rec m := by
  funext w
  unfold partO
  have h1 : SetEq (selK w l) (selK w m) := h.filter _
  rw [h1.nil, partK_set hr w h1]
theorem least_set : ∀ (n : Nat) (l m : List D), SetEq l m → least n l = least n m
  | 0, l, m, h => by unfold least; rw [partO_set (fun _ _ _ => rfl) h]
  | n + 1, l, m, h => by unfold least; rw [partO_set (fun l m => least_set n l m) h]
def recN : Nat → List D → D
  | 0 => fun _ => .non
  | n + 1 => least n
theorem least_eq (n : Nat) (xs : List D) : least n xs = wrap (KW.filterMap (partO (recN n) xs)) := by cases n <;> rfl
end Nw
set_option Elab.async false
set_option linter.all false
set_option maxRecDepth 100000
set_option maxHeartbeats 4000000
namespace Nw
open PySem PySem.Spec L2
/-! ### the program tells it -/
theorem two' : (2 : Nat) ≤ sizeLine := by decide
theorem three' : (3 : Nat) ≤ sizeLine := by decide
theorem four' : (4 : Nat) ≤ sizeLine := by decide
theorem one' : (1 : Nat) ≤ sizeLine := by decide
theorem zer' : (0 : Nat) ≤ sizeLine := by decide
theorem min_ints {ds : List D} (h : ∀ x ∈ ds, ∃ i, x = .int i) (hn : ds ≠ []) : minD [.row ds] = some (.int (minI (ds.map intOf))) ∧ maxD [.row ds] = some (.int (maxI (ds.map intOf))) := by
  have e : ds = (ds.map intOf).map D.int := by
    rw [List.map_map]
    conv => lhs; rw [← List.map_id ds]
    refine List.map_congr_left fun x hx => ?_
    obtain ⟨i, rfl⟩ := h x hx
    rfl
  have hi : intsD ds = some (ds.map intOf) := by
    conv => lhs; rw [e]
    exact intsD_map _
  cases q : ds.map intOf with
  | nil => exact absurd (List.map_eq_nil_iff.mp q) hn
  | cons a r =>
    rw [q] at hi
    refine ⟨?_, ?_⟩
    · show (intsD ds).bind _ = _
      rw [hi]; rfl
    · show (intsD ds).bind _ = _
      rw [hi]; rfl
theorem min_lens (l : List Int) (hn : l ≠ []) : minD [.row (l.map D.int)] = some (.int (minI l)) ∧ maxD [.row (l.map D.int)] = some (.int (maxI l)) := by
  cases l with
  | nil => exact absurd rfl hn
  | cons a r =>
    refine ⟨?_, ?_⟩
    · show (intsD _).bind _ = _
      rw [intsD_map]; rfl
    · show (intsD _).bind _ = _
      rw [intsD_map]; rfl
theorem kw_cases {m : Nat} {t : D} {w : Str} (h : ThD m t) (hk : kw t = w) : (w = "number" → ∃ i, t = .int i) ∧ (w = "word" → ∃ x, t = .str x) ∧ (w = "row" → ∃ xs, t = .row xs) ∧ (w = "table" → ∃ kvs, t = .tab kvs) :=
  ⟨(th_inv h hk).2.2.1, (th_inv h hk).2.2.2.1, (th_inv h hk).2.2.2.2.1, (th_inv h hk).2.2.2.2.2⟩
theorem rows_eq (K n : Nat) {s : List D} (hs : ∀ x ∈ s, ∃ xs, x = .row xs) (hn : s ≠ []) (hl : (s.flatMap rowOf).length ≤ 4000) (R : D) (hR : (den (K + 1)).shape_of [.row (s.flatMap rowOf)] () = .ok R ()) :
    (den (K + 2)).shape_of_rows [.row s] () = .ok (.tup [.str "row", R, .int (minI (s.map lenOf)), .int (maxI (s.map lenOf))]) () := by
  show fnD 4 (b_shape_of_rows (den (K + 1))) [.row s] () = _
  have hloop := forL_chk (tg := tgN 2) (v := .non) (s := ()) (body := sOwn1 "list" 1 extD (dVar 2)) (fun pre r => ∃ a, r = [some (.row s), some (.row (pre.flatMap rowOf)), a, none]) (fun _ => true) s (fun pre x suf r hx ⟨a, hr⟩ => by
    subst hr
    have hm : x ∈ s := by rw [hx]; exact List.mem_append_right _ List.mem_cons_self
    obtain ⟨xs, rfl⟩ := hs x hm
    have hlen : (pre.flatMap rowOf).length + xs.length ≤ sizeLine := by
      rw [hx, List.flatMap_append, List.flatMap_cons, List.length_append, List.length_append] at hl
      have e : (rowOf (.row xs)).length = xs.length := rfl
      rw [sizeLine_eq]; omega
    have he : extD (.row (pre.flatMap rowOf)) (.row xs) = some (.row (pre.flatMap rowOf ++ xs)) := by
      show (if _ then _ else _) = _
      rw [if_pos hlen]
    refine ⟨[some (.row s), some (.row (pre.flatMap rowOf)), some (.row xs), none], rfl, fun _ => ⟨[some (.row s), some (.row (pre.flatMap rowOf ++ xs)), some (.row xs), none], ?_, some (.row xs), ?_⟩, fun z => nomatch z⟩
    · simp only [he, fnD, startD, endK, sRet, sRetN, sSeq, seqK, sIf, sAsg, sDrop, sNil, liftX, tgN, sFor, sOwn1, sOwn2, optK, putK2, sAsgO, sRetO, isRT, dAnd, dOr, dIf, bnd_e, dOp, dUn, dAll, dCons, dNil, ret_ap, dVar, getS, lift_e, lift_n, dC, dTst, isBl, dCall, up, tAndD, tOrD, tNotD, dItems, itemsD, dRange, dMt, dLc, rowD, tupD, truD, notD, tyIs, List.map_cons, List.map_nil, List.length_cons, List.length_nil, List.cons_append, List.nil_append, List.replicate_succ, List.replicate_zero, List.getElem?_cons_zero, List.getElem?_cons_succ, List.set_cons_zero, List.set_cons_succ, Option.join_some, Option.join_none, Option.map_some, Option.map_none, Option.bind_some, Option.bind_none, Nat.reduceAdd, Nat.reduceSub, Nat.zero_add, if_true, if_false, ite_true, ite_false, reduceIte, Bool.false_eq_true, Bool.true_eq_false, eq_self_iff_true]
    · rw [List.flatMap_append, List.flatMap_cons, List.flatMap_nil, List.append_nil]; rfl) s [] [some (.row s), some (.row []), none, none] rfl ⟨none, rfl⟩
  obtain ⟨r', hl1, a, rfl⟩ := hloop.1 (by rw [List.all_eq_true]; exact fun _ _ => rfl)
  have h6 : lcA (tgN 2) dYes (dAll lenD (dCons (dVar 2) dNil)) [some (.row s), some (.row (s.flatMap rowOf)), a, none] [] s () = .ok (.row ((s.map lenOf).map D.int)) () := by
    refine lcA_int lenOf s fun x hx => ?_
    obtain ⟨xs, rfl⟩ := hs x hx
    simp only [len_row, lenOf, fnD, startD, endK, sRet, sRetN, sSeq, seqK, sIf, sAsg, sDrop, sNil, liftX, tgN, sFor, sOwn1, sOwn2, optK, putK2, sAsgO, sRetO, isRT, dAnd, dOr, dIf, bnd_e, dOp, dUn, dAll, dCons, dNil, ret_ap, dVar, getS, lift_e, lift_n, dC, dTst, isBl, dCall, up, tAndD, tOrD, tNotD, dItems, itemsD, dRange, dMt, dLc, rowD, tupD, truD, notD, tyIs, List.map_cons, List.map_nil, List.length_cons, List.length_nil, List.cons_append, List.nil_append, List.replicate_succ, List.replicate_zero, List.getElem?_cons_zero, List.getElem?_cons_succ, List.set_cons_zero, List.set_cons_succ, Option.join_some, Option.join_none, Option.map_some, Option.map_none, Option.bind_some, Option.bind_none, Nat.reduceAdd, Nat.reduceSub, Nat.zero_add, if_true, if_false, ite_true, ite_false, reduceIte, Bool.false_eq_true, Bool.true_eq_false, eq_self_iff_true]
  obtain ⟨m1, m2⟩ := min_lens (s.map lenOf) (fun z => hn (List.map_eq_nil_iff.mp z))
  simp only [b_shape_of_rows, hl1, h6, hR, m1, m2, four', zer', fnD, startD, endK, sRet, sRetN, sSeq, seqK, sIf, sAsg, sDrop, sNil, liftX, tgN, sFor, sOwn1, sOwn2, optK, putK2, sAsgO, sRetO, isRT, dAnd, dOr, dIf, bnd_e, dOp, dUn, dAll, dCons, dNil, ret_ap, dVar, getS, lift_e, lift_n, dC, dTst, isBl, dCall, up, tAndD, tOrD, tNotD, dItems, itemsD, dRange, dMt, dLc, rowD, tupD, truD, notD, tyIs, List.map_cons, List.map_nil, List.length_cons, List.length_nil, List.cons_append, List.nil_append, List.replicate_succ, List.replicate_zero, List.getElem?_cons_zero, List.getElem?_cons_succ, List.set_cons_zero, List.set_cons_succ, Option.join_some, Option.join_none, Option.map_some, Option.map_none, Option.bind_some, Option.bind_none, Nat.reduceAdd, Nat.reduceSub, Nat.zero_add, if_true, if_false, ite_true, ite_false, reduceIte, Bool.false_eq_true, Bool.true_eq_false, eq_self_iff_true]
theorem tabs_eq (K : Nat) {s : List D} (hs : ∀ x ∈ s, ∃ kvs, x = .tab kvs ∧ TxK kvs) (hl : (keysA s).length ≤ 4000) (hz : s.length ≤ 4000) (rec : List D → D) (hR : ∀ x ∈ keysA s, (den (K + 1)).shape_of [.row (valsA s x)] () = .ok (rec (valsA s x)) ()) :
    (den (K + 2)).shape_of_tables [.row s] () = .ok (.tup [.str "table", .tup ((entsA rec s).map entD), .non]) () := by
  show fnD 6 (b_shape_of_tables (den (K + 1))) [.row s] () = _
  have hloop := forL_chk (tg := tgN 2) (v := .non) (s := ()) (body := sOwn1 "list" 1 extD (dUn listKD (dVar 2))) (fun pre r => ∃ a, r = [some (.row s), some (.row ((keysA pre).map D.str)), a, none, none, none]) (fun _ => true) s (fun pre x suf r hx ⟨a, hr⟩ => by
    subst hr
    have hm : x ∈ s := by rw [hx]; exact List.mem_append_right _ List.mem_cons_self
    obtain ⟨kvs, rfl, tx⟩ := hs x hm
    have hk : listKD (.tab kvs) = some (.row ((kS kvs).map D.str)) := by
      show some (D.row (kvs.map fun kv => kD kv.1)) = _
      rw [keys_txt tx]
    have hlen : ((keysA pre).map D.str).length + ((kS kvs).map D.str).length ≤ sizeLine := by
      rw [hx] at hl
      unfold keysA at hl ⊢
      rw [List.flatMap_append, List.flatMap_cons, List.length_append, List.length_append] at hl
      have e : (kS (kvsOf (.tab kvs))).length = (kS kvs).length := rfl
      rw [List.length_map, List.length_map, sizeLine_eq]; omega
    have he : extD (.row ((keysA pre).map D.str)) (.row ((kS kvs).map D.str)) = some (.row ((keysA pre).map D.str ++ (kS kvs).map D.str)) := by
      show (if _ then _ else _) = _
      rw [if_pos hlen]
    refine ⟨[some (.row s), some (.row ((keysA pre).map D.str)), some (.tab kvs), none, none, none], rfl, fun _ => ⟨[some (.row s), some (.row ((keysA pre).map D.str ++ (kS kvs).map D.str)), some (.tab kvs), none, none, none], ?_, some (.tab kvs), ?_⟩, fun z => nomatch z⟩
    · simp only [hk, he, fnD, startD, endK, sRet, sRetN, sSeq, seqK, sIf, sAsg, sDrop, sNil, liftX, tgN, sFor, sOwn1, sOwn2, optK, putK2, sAsgO, sRetO, isRT, dAnd, dOr, dIf, bnd_e, dOp, dUn, dAll, dCons, dNil, ret_ap, dVar, getS, lift_e, lift_n, dC, dTst, isBl, dCall, up, tAndD, tOrD, tNotD, dItems, itemsD, dRange, dMt, dLc, rowD, tupD, truD, notD, tyIs, List.map_cons, List.map_nil, List.length_cons, List.length_nil, List.cons_append, List.nil_append, List.replicate_succ, List.replicate_zero, List.getElem?_cons_zero, List.getElem?_cons_succ, List.set_cons_zero, List.set_cons_succ, Option.join_some, Option.join_none, Option.map_some, Option.map_none, Option.bind_some, Option.bind_none, Nat.reduceAdd, Nat.reduceSub, Nat.zero_add, if_true, if_false, ite_true, ite_false, reduceIte, Bool.false_eq_true, Bool.true_eq_false, eq_self_iff_true]
    · unfold keysA
      rw [List.flatMap_append, List.flatMap_cons, List.flatMap_nil, List.append_nil, List.map_append]; rfl) s [] [some (.row s), some (.row []), none, none, none, none] rfl ⟨none, rfl⟩
  obtain ⟨r', hl1, a, rfl⟩ := hloop.1 (by rw [List.all_eq_true]; exact fun _ _ => rfl)
  have h8 : sortSetD (.row ((keysA s).map D.str)) = some (.row ((sortS (ddS (keysA s))).map D.str)) := by
    show ((strsD ((keysA s).map D.str)).bind _) = _
    rw [strsD_map]
    show (if (keysA s).length + 1 < PySem.scanBound then some (D.row ((sortS (ddS (keysA s))).map D.str)) else _) = _
    rw [if_pos (by show (keysA s).length + 1 < 4096; omega)]
  have hkl : (sortS (ddS (keysA s))).length ≤ 4000 := by
    rw [(sortS_perm _).length_eq]
    exact Nat.le_trans (ddS_len _) hl
  let ent : Str → D := fun x => entD (x, rec (valsA s x), decide ((valsA s x).length = s.length))
  have hloop2 := forL_chk (tg := tgN 4) (v := .non) (s := ()) (body := sSeq (sAsg (tgN 5) (dLc (dItems (dVar 0)) (tgN 2) (dTst (dOp (inD false) (dVar 4) (dVar 2)) isBl) (dOp ixD (dVar 2) (dVar 4))))
    (sOwn1 "list" 3 appD (dAll tupD (dCons (dVar 4) (dCons (dCall 1 (fun ds => up ((den (K + 1)).shape_of ds)) (dCons (dVar 5) dNil)) (dCons (dOp eqD (dAll lenD (dCons (dVar 5) dNil)) (dAll lenD (dCons (dVar 0) dNil))) dNil)))))) (fun pre r => ∃ ps b c, pre = ps.map D.str ∧ r = [some (.row s), some (.row ((keysA s).map D.str)), a, some (.row (ps.map ent)), b, c]) (fun _ => true) ((sortS (ddS (keysA s))).map D.str) (fun pre x suf r hx ⟨ps, b, c, hpre, hr⟩ => by
    subst hr hpre
    have hm : x ∈ (sortS (ddS (keysA s))).map D.str := by rw [hx]; exact List.mem_append_right _ List.mem_cons_self
    obtain ⟨x, hxm, rfl⟩ := List.mem_map.mp hm
    have hxk : x ∈ keysA s := (ddS_mem _ _).mp ((sortS_perm _).mem_iff.mp hxm)
    have hpl : ps.length ≤ 4000 := by
      have h1 := congrArg List.length hx
      rw [List.length_map, List.length_append, List.length_map, List.length_cons] at h1
      omega
    have h6 : lcA (tgN 2) (dTst (dOp (inD false) (dVar 4) (dVar 2)) isBl) (dOp ixD (dVar 2) (dVar 4)) [some (.row s), some (.row ((keysA s).map D.str)), a, some (.row (ps.map ent)), some (.str x), c] [] s () = .ok (.row (valsA s x)) () := by
      rw [lcA_if (fun t => decide (x ∈ kS (kvsOf t))) (fun t => gv (kvsOf t) x) s [] (fun y hy => ?_) (fun y hy hp => ?_), List.nil_append]
      · rfl
      · obtain ⟨kvs, rfl, tx⟩ := hs y hy
        simp only [in_tab tx, fnD, startD, endK, sRet, sRetN, sSeq, seqK, sIf, sAsg, sDrop, sNil, liftX, tgN, sFor, sOwn1, sOwn2, optK, putK2, sAsgO, sRetO, isRT, dAnd, dOr, dIf, bnd_e, dOp, dUn, dAll, dCons, dNil, ret_ap, dVar, getS, lift_e, lift_n, dC, dTst, isBl, dCall, up, tAndD, tOrD, tNotD, dItems, itemsD, dRange, dMt, dLc, rowD, tupD, truD, notD, tyIs, List.map_cons, List.map_nil, List.length_cons, List.length_nil, List.cons_append, List.nil_append, List.replicate_succ, List.replicate_zero, List.getElem?_cons_zero, List.getElem?_cons_succ, List.set_cons_zero, List.set_cons_succ, Option.join_some, Option.join_none, Option.map_some, Option.map_none, Option.bind_some, Option.bind_none, Nat.reduceAdd, Nat.reduceSub, Nat.zero_add, if_true, if_false, ite_true, ite_false, reduceIte, Bool.false_eq_true, Bool.true_eq_false, eq_self_iff_true]
        rfl
      · obtain ⟨kvs, rfl, tx⟩ := hs y hy
        have hin : x ∈ kS kvs := of_decide_eq_true hp
        simp only [ix_tab tx hin, kvsOf, fnD, startD, endK, sRet, sRetN, sSeq, seqK, sIf, sAsg, sDrop, sNil, liftX, tgN, sFor, sOwn1, sOwn2, optK, putK2, sAsgO, sRetO, isRT, dAnd, dOr, dIf, bnd_e, dOp, dUn, dAll, dCons, dNil, ret_ap, dVar, getS, lift_e, lift_n, dC, dTst, isBl, dCall, up, tAndD, tOrD, tNotD, dItems, itemsD, dRange, dMt, dLc, rowD, tupD, truD, notD, tyIs, List.map_cons, List.map_nil, List.length_cons, List.length_nil, List.cons_append, List.nil_append, List.replicate_succ, List.replicate_zero, List.getElem?_cons_zero, List.getElem?_cons_succ, List.set_cons_zero, List.set_cons_succ, Option.join_some, Option.join_none, Option.map_some, Option.map_none, Option.bind_some, Option.bind_none, Nat.reduceAdd, Nat.reduceSub, Nat.zero_add, if_true, if_false, ite_true, ite_false, reduceIte, Bool.false_eq_true, Bool.true_eq_false, eq_self_iff_true]
    have hq : eqD (.int ((valsA s x).length : Int)) (.int (s.length : Int)) = some (.bl (decide ((valsA s x).length = s.length))) := by
      rw [eqD_int]
      congr 2
      exact decide_eq_decide.mpr (by omega)
    have happ : appD (.row (ps.map ent)) (.tup [.str x, rec (valsA s x), .bl (decide ((valsA s x).length = s.length))]) = some (.row (ps.map ent ++ [.tup [.str x, rec (valsA s x), .bl (decide ((valsA s x).length = s.length))]])) := by
      show (if _ then _ else _) = _
      rw [if_pos (by rw [List.length_map, sizeLine_eq]; omega)]
    refine ⟨[some (.row s), some (.row ((keysA s).map D.str)), a, some (.row (ps.map ent)), some (.str x), c], rfl, fun _ => ⟨[some (.row s), some (.row ((keysA s).map D.str)), a, some (.row (ps.map ent ++ [.tup [.str x, rec (valsA s x), .bl (decide ((valsA s x).length = s.length))]])), some (.str x), some (.row (valsA s x))], ?_, ps ++ [x], some (.str x), some (.row (valsA s x)), by rw [List.map_append]; rfl, by rw [List.map_append]; rfl⟩, fun z => nomatch z⟩
    have hRx := hR x hxk
    generalize valsA s x = V at h6 hq happ hRx ⊢
    simp only [h6, hRx, len_row, hq, happ, three', fnD, startD, endK, sRet, sRetN, sSeq, seqK, sIf, sAsg, sDrop, sNil, liftX, tgN, sFor, sOwn1, sOwn2, optK, putK2, sAsgO, sRetO, isRT, dAnd, dOr, dIf, bnd_e, dOp, dUn, dAll, dCons, dNil, ret_ap, dVar, getS, lift_e, lift_n, dC, dTst, isBl, dCall, up, tAndD, tOrD, tNotD, dItems, itemsD, dRange, dMt, dLc, rowD, tupD, truD, notD, tyIs, List.map_cons, List.map_nil, List.length_cons, List.length_nil, List.cons_append, List.nil_append, List.replicate_succ, List.replicate_zero, List.getElem?_cons_zero, List.getElem?_cons_succ, List.set_cons_zero, List.set_cons_succ, Option.join_some, Option.join_none, Option.map_some, Option.map_none, Option.bind_some, Option.bind_none, Nat.reduceAdd, Nat.reduceSub, Nat.zero_add, if_true, if_false, ite_true, ite_false, reduceIte, Bool.false_eq_true, Bool.true_eq_false, eq_self_iff_true]) ((sortS (ddS (keysA s))).map D.str) [] [some (.row s), some (.row ((keysA s).map D.str)), a, some (.row []), none, none] rfl ⟨[], none, none, rfl, rfl⟩
  obtain ⟨r', hl2, ps, b, c, hps, rfl⟩ := hloop2.1 (by rw [List.all_eq_true]; exact fun _ _ => rfl)
  have hps2 : ps = sortS (ddS (keysA s)) := by
    have h1 := congrArg strsD hps
    rw [strsD_map, strsD_map] at h1
    exact (Option.some.inj h1).symm
  subst hps2
  have he : (sortS (ddS (keysA s))).map ent = (entsA rec s).map entD := by
    unfold entsA
    rw [List.map_map]; rfl
  rw [he] at hl2
  have htup : tupleD [.row ((entsA rec s).map entD)] = some (.tup ((entsA rec s).map entD)) := rfl
  simp only [b_shape_of_tables, hl1, h8, hl2, htup, three', zer', fnD, startD, endK, sRet, sRetN, sSeq, seqK, sIf, sAsg, sDrop, sNil, liftX, tgN, sFor, sOwn1, sOwn2, optK, putK2, sAsgO, sRetO, isRT, dAnd, dOr, dIf, bnd_e, dOp, dUn, dAll, dCons, dNil, ret_ap, dVar, getS, lift_e, lift_n, dC, dTst, isBl, dCall, up, tAndD, tOrD, tNotD, dItems, itemsD, dRange, dMt, dLc, rowD, tupD, truD, notD, tyIs, List.map_cons, List.map_nil, List.length_cons, List.length_nil, List.cons_append, List.nil_append, List.replicate_succ, List.replicate_zero, List.getElem?_cons_zero, List.getElem?_cons_succ, List.set_cons_zero, List.set_cons_succ, Option.join_some, Option.join_none, Option.map_some, Option.map_none, Option.bind_some, Option.bind_none, Nat.reduceAdd, Nat.reduceSub, Nat.zero_add, if_true, if_false, ite_true, ite_false, reduceIte, Bool.false_eq_true, Bool.true_eq_false, eq_self_iff_true]
end Nw
set_option Elab.async false
set_option linter.all false
set_option maxRecDepth 100000
set_option maxHeartbeats 4000000
namespace Nw
open PySem PySem.Spec L2
/-! ### the program: all kinds -/
theorem fw_kw {n : Nat} {x : D} (h : Fw n x) : kw x ∈ KW := by
  rcases th_kinds h.th with rfl | ⟨b, rfl⟩ | ⟨b, rfl⟩ | ⟨b, rfl⟩ | ⟨b, rfl⟩ | ⟨b, rfl⟩ <;> simp [kw, KW]
theorem sel_mem {w : Str} {xs : List D} {x : D} : x ∈ selK w xs ↔ x ∈ xs ∧ kw x = w := by
  unfold selK
  rw [List.mem_filter, decide_eq_true_eq]
theorem sel_len (w : Str) (xs : List D) : (selK w xs).length ≤ xs.length := List.length_filter_le _ _
theorem flat_len {n : Nat} {s : List D} (h : ∀ x ∈ s, Fw (n + 1) x) (hr : ∀ x ∈ s, ∃ xs, x = .row xs) : (s.flatMap rowOf).length ≤ 3 * s.length := by
  induction s with
  | nil => exact Nat.le_refl _
  | cons a s ih =>
    obtain ⟨xs, rfl⟩ := hr _ List.mem_cons_self
    have h1 := (h _ List.mem_cons_self).1
    have h2 := ih (fun x hx => h x (List.mem_cons_of_mem _ hx)) (fun x hx => hr x (List.mem_cons_of_mem _ hx))
    rw [List.flatMap_cons, List.length_append, List.length_cons]
    have e : (rowOf (.row xs)).length = xs.length := rfl
    omega
theorem flat_fw {n : Nat} {s : List D} (h : ∀ x ∈ s, Fw (n + 1) x) (hr : ∀ x ∈ s, ∃ xs, x = .row xs) : ∀ y ∈ s.flatMap rowOf, Fw n y := fun y hy => by
  obtain ⟨x, hx, hy⟩ := List.mem_flatMap.mp hy
  obtain ⟨xs, rfl⟩ := hr x hx
  exact (h _ hx).2 y hy
theorem fw_tab {n : Nat} {kvs : List (Key × D)} (h : Fw (n + 1) (.tab kvs)) : TxK kvs ∧ (∀ x ∈ kS kvs, Fw n (gv kvs x)) ∧ (kS kvs).length ≤ 3 ∧ ∀ x ∈ kS kvs, isW x = true := by
  have tx : TxK kvs := fun p hp => let ⟨x, e, _⟩ := (h.2.2 p hp).1; ⟨x, e⟩
  refine ⟨tx, fun x hx => (h.2.2 _ (gv_val tx hx).2).2, by unfold kS; rw [List.length_map]; exact h.1, fun x hx => ?_⟩
  obtain ⟨⟨y, e, hw⟩, _⟩ := h.2.2 _ (gv_val tx hx).2
  rw [Sum.inr.inj e]; exact hw
theorem keys_len {n : Nat} {s : List D} (h : ∀ x ∈ s, Fw (n + 1) x) (hr : ∀ x ∈ s, ∃ kvs, x = .tab kvs) : (keysA s).length ≤ 3 * s.length := by
  induction s with
  | nil => exact Nat.le_refl _
  | cons a s ih =>
    obtain ⟨xs, rfl⟩ := hr _ List.mem_cons_self
    have h1 := (fw_tab (h _ List.mem_cons_self)).2.2.1
    have h2 := ih (fun x hx => h x (List.mem_cons_of_mem _ hx)) (fun x hx => hr x (List.mem_cons_of_mem _ hx))
    unfold keysA at h2 ⊢
    rw [List.flatMap_cons, List.length_append, List.length_cons]
    have e : (kS (kvsOf (.tab xs))).length = (kS xs).length := rfl
    omega
theorem vals_fw {n : Nat} {s : List D} (h : ∀ x ∈ s, Fw (n + 1) x) (hr : ∀ x ∈ s, ∃ kvs, x = .tab kvs) (z : Str) : (∀ y ∈ valsA s z, Fw n y) ∧ (valsA s z).length ≤ s.length := by
  refine ⟨fun y hy => ?_, ?_⟩
  · obtain ⟨t, ht, rfl⟩ := List.mem_map.mp hy
    obtain ⟨h1, h2⟩ := List.mem_filter.mp ht
    obtain ⟨kvs, rfl⟩ := hr t h1
    exact (fw_tab (h _ h1)).2.1 z (of_decide_eq_true h2)
  · unfold valsA
    rw [List.length_map]; exact List.length_filter_le _ _
theorem pow3 (n : Nat) : 1 ≤ 3 ^ n := Nat.one_le_pow _ _ (by decide)
theorem kind_part (K n : Nat) {xs : List D} (hx : ∀ x ∈ xs, Fw n x) (hl : xs.length * 3 ^ n ≤ 1200) {w : Str} (hw : w ∈ KW) (hne : selK w xs ≠ [])
    (ih : ∀ m, n = m + 1 → ∀ ys : List D, (∀ y ∈ ys, Fw m y) → ys.length * 3 ^ m ≤ 1200 → (den (K + 1)).shape_of [.row ys] () = .ok (least m ys) ()) :
    (den (K + 3)).shape_of_kind [.str w, .row (selK w xs)] () = .ok (partK (recN n) w (selK w xs)) () := by
  have hs : ∀ x ∈ selK w xs, Fw n x := fun x hx' => hx x (sel_mem.mp hx').1
  have hk : ∀ x ∈ selK w xs, kw x = w := fun x hx' => (sel_mem.mp hx').2
  have hsl := sel_len w xs
  have hp := pow3 n
  have hsz : (selK w xs).length * 3 ^ n ≤ 1200 := Nat.le_trans (Nat.mul_le_mul_right _ hsl) hl
  have hsz1 : (selK w xs).length ≤ 1200 := Nat.le_trans (by have := Nat.mul_le_mul_left (selK w xs).length hp; omega) hsz
  generalize selK w xs = s at hs hk hsl hne hsz hsz1 ⊢
  show fnD 3 (b_shape_of_kind (den (K + 2))) [.str w, .row s] () = _
  simp only [KW, List.mem_cons, List.not_mem_nil, or_false] at hw
  have wne : ∀ (a b : Str), (decide (a = b)) = false → ¬ a = b := fun a b h => of_decide_eq_false h
  rcases hw with rfl | rfl | rfl | rfl | rfl | rfl
  · have e : partK (recN n) "none" s = .tup [.str "none"] := by
      unfold partK
      rw [if_neg (wne _ _ (by kernel_rfl)), if_neg (wne _ _ (by kernel_rfl)), if_neg (wne _ _ (by kernel_rfl)), if_neg (wne _ _ (by kernel_rfl))]
    rw [e]
    simp only [b_shape_of_kind, one', fnD, startD, endK, sRet, sRetN, sSeq, seqK, sIf, sAsg, sDrop, sNil, liftX, tgN, sFor, sOwn1, sOwn2, optK, putK2, sAsgO, sRetO, isRT, dAnd, dOr, dIf, bnd_e, dOp, dUn, dAll, dCons, dNil, ret_ap, dVar, getS, lift_e, lift_n, dC, dTst, isBl, dCall, up, tAndD, tOrD, tNotD, dItems, itemsD, dRange, dMt, dLc, rowD, tupD, truD, notD, tyIs, List.map_cons, List.map_nil, List.length_cons, List.length_nil, List.cons_append, List.nil_append, List.replicate_succ, List.replicate_zero, List.getElem?_cons_zero, List.getElem?_cons_succ, List.set_cons_zero, List.set_cons_succ, Option.join_some, Option.join_none, Option.map_some, Option.map_none, Option.bind_some, Option.bind_none, Nat.reduceAdd, Nat.reduceSub, Nat.zero_add, if_true, if_false, ite_true, ite_false, reduceIte, Bool.false_eq_true, Bool.true_eq_false, eq_self_iff_true, eq_any_any, eq_any_none, eq_any_truth, eq_any_number, eq_any_word, eq_any_row, eq_any_table, eq_any_or, eq_none_any, eq_none_none, eq_none_truth, eq_none_number, eq_none_word, eq_none_row, eq_none_table, eq_none_or, eq_truth_any, eq_truth_none, eq_truth_truth, eq_truth_number, eq_truth_word, eq_truth_row, eq_truth_table, eq_truth_or, eq_number_any, eq_number_none, eq_number_truth, eq_number_number, eq_number_word, eq_number_row, eq_number_table, eq_number_or, eq_word_any, eq_word_none, eq_word_truth, eq_word_number, eq_word_word, eq_word_row, eq_word_table, eq_word_or, eq_row_any, eq_row_none, eq_row_truth, eq_row_number, eq_row_word, eq_row_row, eq_row_table, eq_row_or, eq_table_any, eq_table_none, eq_table_truth, eq_table_number, eq_table_word, eq_table_row, eq_table_table, eq_table_or, eq_or_any, eq_or_none, eq_or_truth, eq_or_number, eq_or_word, eq_or_row, eq_or_table, eq_or_or, ne_any_any, ne_any_none, ne_any_truth, ne_any_number, ne_any_word, ne_any_row, ne_any_table, ne_any_or, ne_none_any, ne_none_none, ne_none_truth, ne_none_number, ne_none_word, ne_none_row, ne_none_table, ne_none_or, ne_truth_any, ne_truth_none, ne_truth_truth, ne_truth_number, ne_truth_word, ne_truth_row, ne_truth_table, ne_truth_or, ne_number_any, ne_number_none, ne_number_truth, ne_number_number, ne_number_word, ne_number_row, ne_number_table, ne_number_or, ne_word_any, ne_word_none, ne_word_truth, ne_word_number, ne_word_word, ne_word_row, ne_word_table, ne_word_or, ne_row_any, ne_row_none, ne_row_truth, ne_row_number, ne_row_word, ne_row_row, ne_row_table, ne_row_or, ne_table_any, ne_table_none, ne_table_truth, ne_table_number, ne_table_word, ne_table_row, ne_table_table, ne_table_or, ne_or_any, ne_or_none, ne_or_truth, ne_or_number, ne_or_word, ne_or_row, ne_or_table, ne_or_or, sz_any, sz_none, sz_truth, sz_number, sz_word, sz_row, sz_table, sz_or, nei_1, nei_2, nei_3, nei_4]
  · have e : partK (recN n) "truth" s = .tup [.str "truth"] := by
      unfold partK
      rw [if_neg (wne _ _ (by kernel_rfl)), if_neg (wne _ _ (by kernel_rfl)), if_neg (wne _ _ (by kernel_rfl)), if_neg (wne _ _ (by kernel_rfl))]
    rw [e]
    simp only [b_shape_of_kind, one', fnD, startD, endK, sRet, sRetN, sSeq, seqK, sIf, sAsg, sDrop, sNil, liftX, tgN, sFor, sOwn1, sOwn2, optK, putK2, sAsgO, sRetO, isRT, dAnd, dOr, dIf, bnd_e, dOp, dUn, dAll, dCons, dNil, ret_ap, dVar, getS, lift_e, lift_n, dC, dTst, isBl, dCall, up, tAndD, tOrD, tNotD, dItems, itemsD, dRange, dMt, dLc, rowD, tupD, truD, notD, tyIs, List.map_cons, List.map_nil, List.length_cons, List.length_nil, List.cons_append, List.nil_append, List.replicate_succ, List.replicate_zero, List.getElem?_cons_zero, List.getElem?_cons_succ, List.set_cons_zero, List.set_cons_succ, Option.join_some, Option.join_none, Option.map_some, Option.map_none, Option.bind_some, Option.bind_none, Nat.reduceAdd, Nat.reduceSub, Nat.zero_add, if_true, if_false, ite_true, ite_false, reduceIte, Bool.false_eq_true, Bool.true_eq_false, eq_self_iff_true, eq_any_any, eq_any_none, eq_any_truth, eq_any_number, eq_any_word, eq_any_row, eq_any_table, eq_any_or, eq_none_any, eq_none_none, eq_none_truth, eq_none_number, eq_none_word, eq_none_row, eq_none_table, eq_none_or, eq_truth_any, eq_truth_none, eq_truth_truth, eq_truth_number, eq_truth_word, eq_truth_row, eq_truth_table, eq_truth_or, eq_number_any, eq_number_none, eq_number_truth, eq_number_number, eq_number_word, eq_number_row, eq_number_table, eq_number_or, eq_word_any, eq_word_none, eq_word_truth, eq_word_number, eq_word_word, eq_word_row, eq_word_table, eq_word_or, eq_row_any, eq_row_none, eq_row_truth, eq_row_number, eq_row_word, eq_row_row, eq_row_table, eq_row_or, eq_table_any, eq_table_none, eq_table_truth, eq_table_number, eq_table_word, eq_table_row, eq_table_table, eq_table_or, eq_or_any, eq_or_none, eq_or_truth, eq_or_number, eq_or_word, eq_or_row, eq_or_table, eq_or_or, ne_any_any, ne_any_none, ne_any_truth, ne_any_number, ne_any_word, ne_any_row, ne_any_table, ne_any_or, ne_none_any, ne_none_none, ne_none_truth, ne_none_number, ne_none_word, ne_none_row, ne_none_table, ne_none_or, ne_truth_any, ne_truth_none, ne_truth_truth, ne_truth_number, ne_truth_word, ne_truth_row, ne_truth_table, ne_truth_or, ne_number_any, ne_number_none, ne_number_truth, ne_number_number, ne_number_word, ne_number_row, ne_number_table, ne_number_or, ne_word_any, ne_word_none, ne_word_truth, ne_word_number, ne_word_word, ne_word_row, ne_word_table, ne_word_or, ne_row_any, ne_row_none, ne_row_truth, ne_row_number, ne_row_word, ne_row_row, ne_row_table, ne_row_or, ne_table_any, ne_table_none, ne_table_truth, ne_table_number, ne_table_word, ne_table_row, ne_table_table, ne_table_or, ne_or_any, ne_or_none, ne_or_truth, ne_or_number, ne_or_word, ne_or_row, ne_or_table, ne_or_or, sz_any, sz_none, sz_truth, sz_number, sz_word, sz_row, sz_table, sz_or, nei_1, nei_2, nei_3, nei_4]
  · have e : partK (recN n) "number" s = .tup [.str "number", .int (minI (s.map intOf)), .int (maxI (s.map intOf))] := by
      unfold partK
      rw [if_pos rfl]
    rw [e]
    obtain ⟨m1, m2⟩ := min_ints (fun x hx => (kw_cases (hs x hx).th (hk x hx)).1 rfl) hne
    simp only [b_shape_of_kind, m1, m2, three', fnD, startD, endK, sRet, sRetN, sSeq, seqK, sIf, sAsg, sDrop, sNil, liftX, tgN, sFor, sOwn1, sOwn2, optK, putK2, sAsgO, sRetO, isRT, dAnd, dOr, dIf, bnd_e, dOp, dUn, dAll, dCons, dNil, ret_ap, dVar, getS, lift_e, lift_n, dC, dTst, isBl, dCall, up, tAndD, tOrD, tNotD, dItems, itemsD, dRange, dMt, dLc, rowD, tupD, truD, notD, tyIs, List.map_cons, List.map_nil, List.length_cons, List.length_nil, List.cons_append, List.nil_append, List.replicate_succ, List.replicate_zero, List.getElem?_cons_zero, List.getElem?_cons_succ, List.set_cons_zero, List.set_cons_succ, Option.join_some, Option.join_none, Option.map_some, Option.map_none, Option.bind_some, Option.bind_none, Nat.reduceAdd, Nat.reduceSub, Nat.zero_add, if_true, if_false, ite_true, ite_false, reduceIte, Bool.false_eq_true, Bool.true_eq_false, eq_self_iff_true, eq_any_any, eq_any_none, eq_any_truth, eq_any_number, eq_any_word, eq_any_row, eq_any_table, eq_any_or, eq_none_any, eq_none_none, eq_none_truth, eq_none_number, eq_none_word, eq_none_row, eq_none_table, eq_none_or, eq_truth_any, eq_truth_none, eq_truth_truth, eq_truth_number, eq_truth_word, eq_truth_row, eq_truth_table, eq_truth_or, eq_number_any, eq_number_none, eq_number_truth, eq_number_number, eq_number_word, eq_number_row, eq_number_table, eq_number_or, eq_word_any, eq_word_none, eq_word_truth, eq_word_number, eq_word_word, eq_word_row, eq_word_table, eq_word_or, eq_row_any, eq_row_none, eq_row_truth, eq_row_number, eq_row_word, eq_row_row, eq_row_table, eq_row_or, eq_table_any, eq_table_none, eq_table_truth, eq_table_number, eq_table_word, eq_table_row, eq_table_table, eq_table_or, eq_or_any, eq_or_none, eq_or_truth, eq_or_number, eq_or_word, eq_or_row, eq_or_table, eq_or_or, ne_any_any, ne_any_none, ne_any_truth, ne_any_number, ne_any_word, ne_any_row, ne_any_table, ne_any_or, ne_none_any, ne_none_none, ne_none_truth, ne_none_number, ne_none_word, ne_none_row, ne_none_table, ne_none_or, ne_truth_any, ne_truth_none, ne_truth_truth, ne_truth_number, ne_truth_word, ne_truth_row, ne_truth_table, ne_truth_or, ne_number_any, ne_number_none, ne_number_truth, ne_number_number, ne_number_word, ne_number_row, ne_number_table, ne_number_or, ne_word_any, ne_word_none, ne_word_truth, ne_word_number, ne_word_word, ne_word_row, ne_word_table, ne_word_or, ne_row_any, ne_row_none, ne_row_truth, ne_row_number, ne_row_word, ne_row_row, ne_row_table, ne_row_or, ne_table_any, ne_table_none, ne_table_truth, ne_table_number, ne_table_word, ne_table_row, ne_table_table, ne_table_or, ne_or_any, ne_or_none, ne_or_truth, ne_or_number, ne_or_word, ne_or_row, ne_or_table, ne_or_or, sz_any, sz_none, sz_truth, sz_number, sz_word, sz_row, sz_table, sz_or, nei_1, nei_2, nei_3, nei_4]
  · have e : partK (recN n) "word" s = .tup [.str "word", .int (maxI (s.map lenOf))] := by
      unfold partK
      rw [if_neg (wne _ _ (by kernel_rfl)), if_pos rfl]
    rw [e]
    have h6 : lcA (tgN 2) dYes (dAll lenD (dCons (dVar 2) dNil)) [some (.str "word"), some (.row s), none] [] s () = .ok (.row ((s.map lenOf).map D.int)) () := by
      refine lcA_int lenOf s fun x hx => ?_
      obtain ⟨y, rfl⟩ := (kw_cases (hs x hx).th (hk x hx)).2.1 rfl
      simp only [len_str, lenOf, fnD, startD, endK, sRet, sRetN, sSeq, seqK, sIf, sAsg, sDrop, sNil, liftX, tgN, sFor, sOwn1, sOwn2, optK, putK2, sAsgO, sRetO, isRT, dAnd, dOr, dIf, bnd_e, dOp, dUn, dAll, dCons, dNil, ret_ap, dVar, getS, lift_e, lift_n, dC, dTst, isBl, dCall, up, tAndD, tOrD, tNotD, dItems, itemsD, dRange, dMt, dLc, rowD, tupD, truD, notD, tyIs, List.map_cons, List.map_nil, List.length_cons, List.length_nil, List.cons_append, List.nil_append, List.replicate_succ, List.replicate_zero, List.getElem?_cons_zero, List.getElem?_cons_succ, List.set_cons_zero, List.set_cons_succ, Option.join_some, Option.join_none, Option.map_some, Option.map_none, Option.bind_some, Option.bind_none, Nat.reduceAdd, Nat.reduceSub, Nat.zero_add, if_true, if_false, ite_true, ite_false, reduceIte, Bool.false_eq_true, Bool.true_eq_false, eq_self_iff_true]
    obtain ⟨m1, m2⟩ := min_lens (s.map lenOf) (fun z => hne (List.map_eq_nil_iff.mp z))
    simp only [b_shape_of_kind, h6, m2, two', fnD, startD, endK, sRet, sRetN, sSeq, seqK, sIf, sAsg, sDrop, sNil, liftX, tgN, sFor, sOwn1, sOwn2, optK, putK2, sAsgO, sRetO, isRT, dAnd, dOr, dIf, bnd_e, dOp, dUn, dAll, dCons, dNil, ret_ap, dVar, getS, lift_e, lift_n, dC, dTst, isBl, dCall, up, tAndD, tOrD, tNotD, dItems, itemsD, dRange, dMt, dLc, rowD, tupD, truD, notD, tyIs, List.map_cons, List.map_nil, List.length_cons, List.length_nil, List.cons_append, List.nil_append, List.replicate_succ, List.replicate_zero, List.getElem?_cons_zero, List.getElem?_cons_succ, List.set_cons_zero, List.set_cons_succ, Option.join_some, Option.join_none, Option.map_some, Option.map_none, Option.bind_some, Option.bind_none, Nat.reduceAdd, Nat.reduceSub, Nat.zero_add, if_true, if_false, ite_true, ite_false, reduceIte, Bool.false_eq_true, Bool.true_eq_false, eq_self_iff_true, eq_any_any, eq_any_none, eq_any_truth, eq_any_number, eq_any_word, eq_any_row, eq_any_table, eq_any_or, eq_none_any, eq_none_none, eq_none_truth, eq_none_number, eq_none_word, eq_none_row, eq_none_table, eq_none_or, eq_truth_any, eq_truth_none, eq_truth_truth, eq_truth_number, eq_truth_word, eq_truth_row, eq_truth_table, eq_truth_or, eq_number_any, eq_number_none, eq_number_truth, eq_number_number, eq_number_word, eq_number_row, eq_number_table, eq_number_or, eq_word_any, eq_word_none, eq_word_truth, eq_word_number, eq_word_word, eq_word_row, eq_word_table, eq_word_or, eq_row_any, eq_row_none, eq_row_truth, eq_row_number, eq_row_word, eq_row_row, eq_row_table, eq_row_or, eq_table_any, eq_table_none, eq_table_truth, eq_table_number, eq_table_word, eq_table_row, eq_table_table, eq_table_or, eq_or_any, eq_or_none, eq_or_truth, eq_or_number, eq_or_word, eq_or_row, eq_or_table, eq_or_or, ne_any_any, ne_any_none, ne_any_truth, ne_any_number, ne_any_word, ne_any_row, ne_any_table, ne_any_or, ne_none_any, ne_none_none, ne_none_truth, ne_none_number, ne_none_word, ne_none_row, ne_none_table, ne_none_or, ne_truth_any, ne_truth_none, ne_truth_truth, ne_truth_number, ne_truth_word, ne_truth_row, ne_truth_table, ne_truth_or, ne_number_any, ne_number_none, ne_number_truth, ne_number_number, ne_number_word, ne_number_row, ne_number_table, ne_number_or, ne_word_any, ne_word_none, ne_word_truth, ne_word_number, ne_word_word, ne_word_row, ne_word_table, ne_word_or, ne_row_any, ne_row_none, ne_row_truth, ne_row_number, ne_row_word, ne_row_row, ne_row_table, ne_row_or, ne_table_any, ne_table_none, ne_table_truth, ne_table_number, ne_table_word, ne_table_row, ne_table_table, ne_table_or, ne_or_any, ne_or_none, ne_or_truth, ne_or_number, ne_or_word, ne_or_row, ne_or_table, ne_or_or, sz_any, sz_none, sz_truth, sz_number, sz_word, sz_row, sz_table, sz_or, nei_1, nei_2, nei_3, nei_4]
  · have e : partK (recN n) "row" s = .tup [.str "row", recN n (s.flatMap rowOf), .int (minI (s.map lenOf)), .int (maxI (s.map lenOf))] := by
      unfold partK
      rw [if_neg (wne _ _ (by kernel_rfl)), if_neg (wne _ _ (by kernel_rfl)), if_pos rfl]
    rw [e]
    have hr : ∀ x ∈ s, ∃ xs, x = .row xs := fun x hx => (kw_cases (hs x hx).th (hk x hx)).2.2.1 rfl
    cases n with
    | zero =>
      obtain ⟨x, hx'⟩ := List.exists_mem_of_ne_nil _ hne
      obtain ⟨ys, rfl⟩ := hr x hx'
      exact (hs _ hx').elim
    | succ m =>
      have hfl := flat_len hs hr
      have h3 : 3 ^ (m + 1) = 3 * 3 ^ m := by rw [Nat.pow_succ, Nat.mul_comm]
      have hin : (s.flatMap rowOf).length * 3 ^ m ≤ 1200 := by
        have h4 := Nat.mul_le_mul_right (3 ^ m) hfl
        have h5 : 3 * s.length * 3 ^ m = s.length * 3 ^ (m + 1) := by rw [h3, Nat.mul_comm 3 s.length, Nat.mul_assoc]
        omega
      have hR := ih m rfl (s.flatMap rowOf) (flat_fw hs hr) hin
      have h7 := rows_eq K m hr hne (by omega) _ hR
      have h7 : (den (K + 2)).shape_of_rows [.row s] () = .ok (.tup [.str "row", recN (m + 1) (s.flatMap rowOf), .int (minI (s.map lenOf)), .int (maxI (s.map lenOf))]) () := h7
      simp only [b_shape_of_kind, h7, fnD, startD, endK, sRet, sRetN, sSeq, seqK, sIf, sAsg, sDrop, sNil, liftX, tgN, sFor, sOwn1, sOwn2, optK, putK2, sAsgO, sRetO, isRT, dAnd, dOr, dIf, bnd_e, dOp, dUn, dAll, dCons, dNil, ret_ap, dVar, getS, lift_e, lift_n, dC, dTst, isBl, dCall, up, tAndD, tOrD, tNotD, dItems, itemsD, dRange, dMt, dLc, rowD, tupD, truD, notD, tyIs, List.map_cons, List.map_nil, List.length_cons, List.length_nil, List.cons_append, List.nil_append, List.replicate_succ, List.replicate_zero, List.getElem?_cons_zero, List.getElem?_cons_succ, List.set_cons_zero, List.set_cons_succ, Option.join_some, Option.join_none, Option.map_some, Option.map_none, Option.bind_some, Option.bind_none, Nat.reduceAdd, Nat.reduceSub, Nat.zero_add, if_true, if_false, ite_true, ite_false, reduceIte, Bool.false_eq_true, Bool.true_eq_false, eq_self_iff_true, eq_any_any, eq_any_none, eq_any_truth, eq_any_number, eq_any_word, eq_any_row, eq_any_table, eq_any_or, eq_none_any, eq_none_none, eq_none_truth, eq_none_number, eq_none_word, eq_none_row, eq_none_table, eq_none_or, eq_truth_any, eq_truth_none, eq_truth_truth, eq_truth_number, eq_truth_word, eq_truth_row, eq_truth_table, eq_truth_or, eq_number_any, eq_number_none, eq_number_truth, eq_number_number, eq_number_word, eq_number_row, eq_number_table, eq_number_or, eq_word_any, eq_word_none, eq_word_truth, eq_word_number, eq_word_word, eq_word_row, eq_word_table, eq_word_or, eq_row_any, eq_row_none, eq_row_truth, eq_row_number, eq_row_word, eq_row_row, eq_row_table, eq_row_or, eq_table_any, eq_table_none, eq_table_truth, eq_table_number, eq_table_word, eq_table_row, eq_table_table, eq_table_or, eq_or_any, eq_or_none, eq_or_truth, eq_or_number, eq_or_word, eq_or_row, eq_or_table, eq_or_or, ne_any_any, ne_any_none, ne_any_truth, ne_any_number, ne_any_word, ne_any_row, ne_any_table, ne_any_or, ne_none_any, ne_none_none, ne_none_truth, ne_none_number, ne_none_word, ne_none_row, ne_none_table, ne_none_or, ne_truth_any, ne_truth_none, ne_truth_truth, ne_truth_number, ne_truth_word, ne_truth_row, ne_truth_table, ne_truth_or, ne_number_any, ne_number_none, ne_number_truth, ne_number_number, ne_number_word, ne_number_row, ne_number_table, ne_number_or, ne_word_any, ne_word_none, ne_word_truth, ne_word_number, ne_word_word, ne_word_row, ne_word_table, ne_word_or, ne_row_any, ne_row_none, ne_row_truth, ne_row_number, ne_row_word, ne_row_row, ne_row_table, ne_row_or, ne_table_any, ne_table_none, ne_table_truth, ne_table_number, ne_table_word, ne_table_row, ne_table_table, ne_table_or, ne_or_any, ne_or_none, ne_or_truth, ne_or_number, ne_or_word, ne_or_row, ne_or_table, ne_or_or, sz_any, sz_none, sz_truth, sz_number, sz_word, sz_row, sz_table, sz_or, nei_1, nei_2, nei_3, nei_4]
  · have e : partK (recN n) "table" s = .tup [.str "table", .tup ((entsA (recN n) s).map entD), .non] := by
      unfold partK
      rw [if_neg (wne _ _ (by kernel_rfl)), if_neg (wne _ _ (by kernel_rfl)), if_neg (wne _ _ (by kernel_rfl)), if_pos rfl]
    rw [e]
    have hr : ∀ x ∈ s, ∃ kvs, x = .tab kvs := fun x hx => (kw_cases (hs x hx).th (hk x hx)).2.2.2 rfl
    cases n with
    | zero =>
      obtain ⟨x, hx'⟩ := List.exists_mem_of_ne_nil _ hne
      obtain ⟨ys, rfl⟩ := hr x hx'
      exact (hs _ hx').elim
    | succ m =>
      have hkl := keys_len hs hr
      have h3 : 3 ^ (m + 1) = 3 * 3 ^ m := by rw [Nat.pow_succ, Nat.mul_comm]
      have hp3 := pow3 m
      have h4 : s.length * 3 ^ m ≤ 1200 := Nat.le_trans (Nat.mul_le_mul_left _ (by omega)) hsz
      have h7 := tabs_eq K (s := s) (fun x hx => by
        obtain ⟨kvs, rfl⟩ := hr x hx
        exact ⟨kvs, rfl, (fw_tab (hs _ hx)).1⟩) (by omega) (by omega) (recN (m + 1)) (fun x _ => ih m rfl (valsA s x) (vals_fw hs hr x).1 (Nat.le_trans (Nat.mul_le_mul_right _ (vals_fw hs hr x).2) h4))
      simp only [b_shape_of_kind, h7, fnD, startD, endK, sRet, sRetN, sSeq, seqK, sIf, sAsg, sDrop, sNil, liftX, tgN, sFor, sOwn1, sOwn2, optK, putK2, sAsgO, sRetO, isRT, dAnd, dOr, dIf, bnd_e, dOp, dUn, dAll, dCons, dNil, ret_ap, dVar, getS, lift_e, lift_n, dC, dTst, isBl, dCall, up, tAndD, tOrD, tNotD, dItems, itemsD, dRange, dMt, dLc, rowD, tupD, truD, notD, tyIs, List.map_cons, List.map_nil, List.length_cons, List.length_nil, List.cons_append, List.nil_append, List.replicate_succ, List.replicate_zero, List.getElem?_cons_zero, List.getElem?_cons_succ, List.set_cons_zero, List.set_cons_succ, Option.join_some, Option.join_none, Option.map_some, Option.map_none, Option.bind_some, Option.bind_none, Nat.reduceAdd, Nat.reduceSub, Nat.zero_add, if_true, if_false, ite_true, ite_false, reduceIte, Bool.false_eq_true, Bool.true_eq_false, eq_self_iff_true, eq_any_any, eq_any_none, eq_any_truth, eq_any_number, eq_any_word, eq_any_row, eq_any_table, eq_any_or, eq_none_any, eq_none_none, eq_none_truth, eq_none_number, eq_none_word, eq_none_row, eq_none_table, eq_none_or, eq_truth_any, eq_truth_none, eq_truth_truth, eq_truth_number, eq_truth_word, eq_truth_row, eq_truth_table, eq_truth_or, eq_number_any, eq_number_none, eq_number_truth, eq_number_number, eq_number_word, eq_number_row, eq_number_table, eq_number_or, eq_word_any, eq_word_none, eq_word_truth, eq_word_number, eq_word_word, eq_word_row, eq_word_table, eq_word_or, eq_row_any, eq_row_none, eq_row_truth, eq_row_number, eq_row_word, eq_row_row, eq_row_table, eq_row_or, eq_table_any, eq_table_none, eq_table_truth, eq_table_number, eq_table_word, eq_table_row, eq_table_table, eq_table_or, eq_or_any, eq_or_none, eq_or_truth, eq_or_number, eq_or_word, eq_or_row, eq_or_table, eq_or_or, ne_any_any, ne_any_none, ne_any_truth, ne_any_number, ne_any_word, ne_any_row, ne_any_table, ne_any_or, ne_none_any, ne_none_none, ne_none_truth, ne_none_number, ne_none_word, ne_none_row, ne_none_table, ne_none_or, ne_truth_any, ne_truth_none, ne_truth_truth, ne_truth_number, ne_truth_word, ne_truth_row, ne_truth_table, ne_truth_or, ne_number_any, ne_number_none, ne_number_truth, ne_number_number, ne_number_word, ne_number_row, ne_number_table, ne_number_or, ne_word_any, ne_word_none, ne_word_truth, ne_word_number, ne_word_word, ne_word_row, ne_word_table, ne_word_or, ne_row_any, ne_row_none, ne_row_truth, ne_row_number, ne_row_word, ne_row_row, ne_row_table, ne_row_or, ne_table_any, ne_table_none, ne_table_truth, ne_table_number, ne_table_word, ne_table_row, ne_table_table, ne_table_or, ne_or_any, ne_or_none, ne_or_truth, ne_or_number, ne_or_word, ne_or_row, ne_or_table, ne_or_or, sz_any, sz_none, sz_truth, sz_number, sz_word, sz_row, sz_table, sz_or, nei_1, nei_2, nei_3, nei_4]
theorem wrap_ret (d : Den) (xs P : List D) (a b : Option D) (hl1 : forL (tgN 2) (sSeq (sAsg (tgN 3) (dLc (dItems (dVar 0)) (tgN 4) (dTst (dOp eqD (dCall 1 (fun ds => up (d.kind_of ds)) (dCons (dVar 4) dNil)) (dVar 2)) isBl) (dVar 4)))
    (sIf (dTst (dVar 3) truD) (sOwn1 "list" 1 appD (dCall 2 (fun ds => up (d.shape_of_kind ds)) (dCons (dVar 2) (dCons (dVar 3) dNil)))) sNil)) ((["none", "truth", "number", "word", "row", "table"] : List Str).map D.str) [some (.row xs), some (.row []), none, none, none] () = some (.next [some (.row xs), some (.row P), a, b, none], ())) : fnD 5 (b_shape_of d) [.row xs] () = .ok (wrap P) () := by
  have htup : tupleD [.row P] = some (.tup P) := rfl
  have hlen : lenD [.row P] = some (.int (P.length : Int)) := rfl
  generalize hW : (["none", "truth", "number", "word", "row", "table"] : List Str).map D.str = WS at hl1
  by_cases h1 : P.length = 1
  · have hq : eqD (.int (P.length : Int)) (.int 1) = some (.bl true) := by rw [eqD_int, decide_eq_true (by omega)]
    match P, h1 with
    | [p], _ =>
      have hi : ixD (.row [p]) (.int 0) = some p := by
        show atI _ _ = _
        rw [show (0 : Int) = ((0 : Nat) : Int) from rfl, atI_nat _ _ (by simp)]; rfl
      have hw : wrap [p] = p := rfl
      rw [hw]
      generalize [p] = P at hl1 hlen hq hi
      simp only [b_shape_of, hW, hl1, hlen, hq, hi, zer', fnD, startD, endK, sRet, sRetN, sSeq, seqK, sIf, sAsg, sDrop, sNil, liftX, tgN, sFor, sOwn1, sOwn2, optK, putK2, sAsgO, sRetO, isRT, dAnd, dOr, dIf, bnd_e, dOp, dUn, dAll, dCons, dNil, ret_ap, dVar, getS, lift_e, lift_n, dC, dTst, isBl, dCall, up, tAndD, tOrD, tNotD, dItems, itemsD, dRange, dMt, dLc, rowD, tupD, truD, notD, tyIs, List.map_cons, List.map_nil, List.length_cons, List.length_nil, List.cons_append, List.nil_append, List.replicate_succ, List.replicate_zero, List.getElem?_cons_zero, List.getElem?_cons_succ, List.set_cons_zero, List.set_cons_succ, Option.join_some, Option.join_none, Option.map_some, Option.map_none, Option.bind_some, Option.bind_none, Nat.reduceAdd, Nat.reduceSub, Nat.zero_add, if_true, if_false, ite_true, ite_false, reduceIte, Bool.false_eq_true, Bool.true_eq_false, eq_self_iff_true]
  · have hq : eqD (.int (P.length : Int)) (.int 1) = some (.bl false) := by rw [eqD_int, decide_eq_false (by omega)]
    have hw : wrap P = .tup [.str "or", .tup P] := by
      match P, h1 with
      | [], _ => rfl
      | _ :: _ :: _, _ => rfl
    rw [hw]
    simp only [b_shape_of, hW, hl1, hlen, hq, htup, two', zer', fnD, startD, endK, sRet, sRetN, sSeq, seqK, sIf, sAsg, sDrop, sNil, liftX, tgN, sFor, sOwn1, sOwn2, optK, putK2, sAsgO, sRetO, isRT, dAnd, dOr, dIf, bnd_e, dOp, dUn, dAll, dCons, dNil, ret_ap, dVar, getS, lift_e, lift_n, dC, dTst, isBl, dCall, up, tAndD, tOrD, tNotD, dItems, itemsD, dRange, dMt, dLc, rowD, tupD, truD, notD, tyIs, List.map_cons, List.map_nil, List.length_cons, List.length_nil, List.cons_append, List.nil_append, List.replicate_succ, List.replicate_zero, List.getElem?_cons_zero, List.getElem?_cons_succ, List.set_cons_zero, List.set_cons_succ, Option.join_some, Option.join_none, Option.map_some, Option.map_none, Option.bind_some, Option.bind_none, Nat.reduceAdd, Nat.reduceSub, Nat.zero_add, if_true, if_false, ite_true, ite_false, reduceIte, Bool.false_eq_true, Bool.true_eq_false, eq_self_iff_true]
theorem main (n k : Nat) (xs : List D) (hx : ∀ x ∈ xs, Fw n x) (hl : xs.length * 3 ^ n ≤ 1200)
    (ih : ∀ m, n = m + 1 → ∀ ys : List D, (∀ y ∈ ys, Fw m y) → ys.length * 3 ^ m ≤ 1200 → (den (k + 3 * m + 4)).shape_of [.row ys] () = .ok (least m ys) ()) : (den (k + 3 * n + 4)).shape_of [.row xs] () = .ok (least n xs) () := by
  show fnD 5 (b_shape_of (den (k + 3 * n + 3))) [.row xs] () = _
  have ihK : ∀ m, n = m + 1 → ∀ ys : List D, (∀ y ∈ ys, Fw m y) → ys.length * 3 ^ m ≤ 1200 → (den (k + 3 * n + 1)).shape_of [.row ys] () = .ok (least m ys) () := fun m e ys hy hl2 => by
    have h := ih m e ys hy hl2
    rw [show k + 3 * m + 4 = k + 3 * n + 1 from by omega] at h
    exact h
  have hloop := forL_chk (tg := tgN 2) (v := .non) (s := ()) (body := sSeq (sAsg (tgN 3) (dLc (dItems (dVar 0)) (tgN 4) (dTst (dOp eqD (dCall 1 (fun ds => up ((den (k + 3 * n + 3)).kind_of ds)) (dCons (dVar 4) dNil)) (dVar 2)) isBl) (dVar 4)))
    (sIf (dTst (dVar 3) truD) (sOwn1 "list" 1 appD (dCall 2 (fun ds => up ((den (k + 3 * n + 3)).shape_of_kind ds)) (dCons (dVar 2) (dCons (dVar 3) dNil)))) sNil)) (fun pre r => ∃ ws a b, pre = ws.map D.str ∧ r = [some (.row xs), some (.row (ws.filterMap (partO (recN n) xs))), a, b, none]) (fun _ => true) (KW.map D.str) (fun pre x suf r hx' ⟨ws, a, b, hpre, hr⟩ => by
    subst hr hpre
    have hm : x ∈ KW.map D.str := by rw [hx']; exact List.mem_append_right _ List.mem_cons_self
    obtain ⟨w, hw, rfl⟩ := List.mem_map.mp hm
    have hwl : ws.length ≤ 6 := by
      have h1 := congrArg List.length hx'
      rw [List.length_map, List.length_append, List.length_map, List.length_cons] at h1
      have h2 : KW.length = 6 := rfl
      omega
    have h6 : lcA (tgN 4) (dTst (dOp eqD (dCall 1 (fun ds => up ((den (k + 3 * n + 3)).kind_of ds)) (dCons (dVar 4) dNil)) (dVar 2)) isBl) (dVar 4) [some (.row xs), some (.row (ws.filterMap (partO (recN n) xs))), some (.str w), b, none] [] xs () = .ok (.row (selK w xs)) () := by
      rw [lcA_if (fun t => decide (kw t = w)) (fun t => t) xs [] (fun y hy => ?_) (fun y hy _ => ?_), List.nil_append, List.map_id']
      · rfl
      · simp only [kind_kw (hx y hy).th, eqD_str, fnD, startD, endK, sRet, sRetN, sSeq, seqK, sIf, sAsg, sDrop, sNil, liftX, tgN, sFor, sOwn1, sOwn2, optK, putK2, sAsgO, sRetO, isRT, dAnd, dOr, dIf, bnd_e, dOp, dUn, dAll, dCons, dNil, ret_ap, dVar, getS, lift_e, lift_n, dC, dTst, isBl, dCall, up, tAndD, tOrD, tNotD, dItems, itemsD, dRange, dMt, dLc, rowD, tupD, truD, notD, tyIs, List.map_cons, List.map_nil, List.length_cons, List.length_nil, List.cons_append, List.nil_append, List.replicate_succ, List.replicate_zero, List.getElem?_cons_zero, List.getElem?_cons_succ, List.set_cons_zero, List.set_cons_succ, Option.join_some, Option.join_none, Option.map_some, Option.map_none, Option.bind_some, Option.bind_none, Nat.reduceAdd, Nat.reduceSub, Nat.zero_add, if_true, if_false, ite_true, ite_false, reduceIte, Bool.false_eq_true, Bool.true_eq_false, eq_self_iff_true]
      · simp only [fnD, startD, endK, sRet, sRetN, sSeq, seqK, sIf, sAsg, sDrop, sNil, liftX, tgN, sFor, sOwn1, sOwn2, optK, putK2, sAsgO, sRetO, isRT, dAnd, dOr, dIf, bnd_e, dOp, dUn, dAll, dCons, dNil, ret_ap, dVar, getS, lift_e, lift_n, dC, dTst, isBl, dCall, up, tAndD, tOrD, tNotD, dItems, itemsD, dRange, dMt, dLc, rowD, tupD, truD, notD, tyIs, List.map_cons, List.map_nil, List.length_cons, List.length_nil, List.cons_append, List.nil_append, List.replicate_succ, List.replicate_zero, List.getElem?_cons_zero, List.getElem?_cons_succ, List.set_cons_zero, List.set_cons_succ, Option.join_some, Option.join_none, Option.map_some, Option.map_none, Option.bind_some, Option.bind_none, Nat.reduceAdd, Nat.reduceSub, Nat.zero_add, if_true, if_false, ite_true, ite_false, reduceIte, Bool.false_eq_true, Bool.true_eq_false, eq_self_iff_true]
    have hfm : (ws ++ [w]).filterMap (partO (recN n) xs) = ws.filterMap (partO (recN n) xs) ++ (partO (recN n) xs w).toList := by
      rw [List.filterMap_append]
      congr 1
    cases he : (selK w xs).isEmpty with
    | true =>
      have hp : partO (recN n) xs w = none := by unfold partO; rw [if_pos he]
      rw [hp] at hfm
      refine ⟨[some (.row xs), some (.row (ws.filterMap (partO (recN n) xs))), some (.str w), b, none], rfl, fun _ => ⟨[some (.row xs), some (.row (ws.filterMap (partO (recN n) xs))), some (.str w), some (.row (selK w xs)), none], ?_, ws ++ [w], some (.str w), some (.row (selK w xs)), by rw [List.map_append]; rfl, by rw [hfm]; rw [show (none : Option D).toList = [] from rfl, List.append_nil]⟩, fun z => nomatch z⟩
      have ht : truD (.row (selK w xs)) = some false := by show some (!(selK w xs).isEmpty) = _; rw [he]; rfl
      generalize selK w xs = s at h6 ht ⊢
      simp only [h6, ht, fnD, startD, endK, sRet, sRetN, sSeq, seqK, sIf, sAsg, sDrop, sNil, liftX, tgN, sFor, sOwn1, sOwn2, optK, putK2, sAsgO, sRetO, isRT, dAnd, dOr, dIf, bnd_e, dOp, dUn, dAll, dCons, dNil, ret_ap, dVar, getS, lift_e, lift_n, dC, dTst, isBl, dCall, up, tAndD, tOrD, tNotD, dItems, itemsD, dRange, dMt, dLc, rowD, tupD, notD, tyIs, List.map_cons, List.map_nil, List.length_cons, List.length_nil, List.cons_append, List.nil_append, List.replicate_succ, List.replicate_zero, List.getElem?_cons_zero, List.getElem?_cons_succ, List.set_cons_zero, List.set_cons_succ, Option.join_some, Option.join_none, Option.map_some, Option.map_none, Option.bind_some, Option.bind_none, Nat.reduceAdd, Nat.reduceSub, Nat.zero_add, if_true, if_false, ite_true, ite_false, reduceIte, Bool.false_eq_true, Bool.true_eq_false, eq_self_iff_true]
    | false =>
      have hne : selK w xs ≠ [] := fun z => by rw [z] at he; cases he
      have hp : partO (recN n) xs w = some (partK (recN n) w (selK w xs)) := by unfold partO; rw [if_neg (by rw [he]; exact Bool.false_ne_true)]
      rw [hp] at hfm
      have hkp := kind_part (k + 3 * n) n hx hl hw hne ihK
      have happ : appD (.row (ws.filterMap (partO (recN n) xs))) (partK (recN n) w (selK w xs)) = some (.row (ws.filterMap (partO (recN n) xs) ++ [partK (recN n) w (selK w xs)])) := by
        show (if _ then _ else _) = _
        have h1 := List.length_filterMap_le (partO (recN n) xs) ws
        rw [if_pos (by rw [sizeLine_eq]; omega)]
      refine ⟨[some (.row xs), some (.row (ws.filterMap (partO (recN n) xs))), some (.str w), b, none], rfl, fun _ => ⟨[some (.row xs), some (.row (ws.filterMap (partO (recN n) xs) ++ [partK (recN n) w (selK w xs)])), some (.str w), some (.row (selK w xs)), none], ?_, ws ++ [w], some (.str w), some (.row (selK w xs)), by rw [List.map_append]; rfl, by rw [hfm]; rfl⟩, fun z => nomatch z⟩
      have ht : truD (.row (selK w xs)) = some true := by show some (!(selK w xs).isEmpty) = _; rw [he]; rfl
      generalize selK w xs = s at h6 ht hkp happ ⊢
      simp only [h6, ht, hkp, happ, fnD, startD, endK, sRet, sRetN, sSeq, seqK, sIf, sAsg, sDrop, sNil, liftX, tgN, sFor, sOwn1, sOwn2, optK, putK2, sAsgO, sRetO, isRT, dAnd, dOr, dIf, bnd_e, dOp, dUn, dAll, dCons, dNil, ret_ap, dVar, getS, lift_e, lift_n, dC, dTst, isBl, dCall, up, tAndD, tOrD, tNotD, dItems, itemsD, dRange, dMt, dLc, rowD, tupD, notD, tyIs, List.map_cons, List.map_nil, List.length_cons, List.length_nil, List.cons_append, List.nil_append, List.replicate_succ, List.replicate_zero, List.getElem?_cons_zero, List.getElem?_cons_succ, List.set_cons_zero, List.set_cons_succ, Option.join_some, Option.join_none, Option.map_some, Option.map_none, Option.bind_some, Option.bind_none, Nat.reduceAdd, Nat.reduceSub, Nat.zero_add, if_true, if_false, ite_true, ite_false, reduceIte, Bool.false_eq_true, Bool.true_eq_false, eq_self_iff_true]) (KW.map D.str) [] [some (.row xs), some (.row []), none, none, none] rfl ⟨[], none, none, rfl, rfl⟩
  obtain ⟨r', hl1, ws, a, b, hws, rfl⟩ := hloop.1 (by rw [List.all_eq_true]; exact fun _ _ => rfl)
  have hws2 : ws = KW := by
    have h1 := congrArg strsD hws
    rw [strsD_map, strsD_map] at h1
    exact (Option.some.inj h1).symm
  subst hws2
  rw [least_eq]
  have hl1 : forL (tgN 2) (sSeq (sAsg (tgN 3) (dLc (dItems (dVar 0)) (tgN 4) (dTst (dOp eqD (dCall 1 (fun ds => up ((den (k + 3 * n + 3)).kind_of ds)) (dCons (dVar 4) dNil)) (dVar 2)) isBl) (dVar 4)))
    (sIf (dTst (dVar 3) truD) (sOwn1 "list" 1 appD (dCall 2 (fun ds => up ((den (k + 3 * n + 3)).shape_of_kind ds)) (dCons (dVar 2) (dCons (dVar 3) dNil)))) sNil)) ((["none", "truth", "number", "word", "row", "table"] : List Str).map D.str) [some (.row xs), some (.row []), none, none, none] () = some (.next [some (.row xs), some (.row (KW.filterMap (partO (recN n) xs))), a, b, none], ()) := hl1
  generalize KW.filterMap (partO (recN n) xs) = P at hl1 ⊢
  exact wrap_ret (den (k + 3 * n + 3)) xs P a b hl1
theorem shape_of_eq : ∀ (n k : Nat) (xs : List D), (∀ x ∈ xs, Fw n x) → xs.length * 3 ^ n ≤ 1200 → (den (k + 3 * n + 4)).shape_of [.row xs] () = .ok (least n xs) () := by
  intro n
  induction n with
  | zero => exact fun k xs hx hl => main 0 k xs hx hl (fun m e => nomatch e)
  | succ n ih => exact fun k xs hx hl => main (n + 1) k xs hx hl (fun m e ys hy hl => by cases e; exact ih k ys hy hl)
end Nw
set_option Elab.async false
set_option linter.all false
set_option maxRecDepth 100000
set_option maxHeartbeats 4000000
namespace Nw
open PySem PySem.Spec L2
/-! ### the law's own: entries -/
theorem forL_inv {S : Type} {tg : D → Sl → Option Sl} {body : Sl → Mo S} {s : S} (I : List D → Sl → Prop) (all : List D)
    (hs : ∀ pre x suf r, all = pre ++ x :: suf → I pre r → ∃ r' r'', tg x r = some r' ∧ (body r' s = some (.next r'', s) ∨ body r' s = some (.cnt r'', s)) ∧ I (pre ++ [x]) r'') : ∀ (xs pre : List D) (r : Sl), all = pre ++ xs → I pre r → ∃ r', forL tg body xs r s = some (.next r', s) ∧ I all r'
  | [], pre, r, ha, h => ⟨r, rfl, by rw [ha, List.append_nil]; exact h⟩
  | x :: xs, pre, r, ha, h => by
    obtain ⟨r', r'', e1, h1, h2⟩ := hs pre x xs r ha h
    obtain ⟨r3, e3, h3⟩ := forL_inv I all hs xs (pre ++ [x]) r'' (by rw [ha, List.append_assoc]; rfl) h2
    refine ⟨r3, ?_, h3⟩
    rw [forL_cons, e1]
    show loopK (forL tg body xs) (body r' s) = _
    rcases h1 with h1 | h1 <;> rw [h1] <;> exact e3
theorem val_put (T : List (Key × D)) (k : Key) (d : D) (j : Key) : valD (putD T k d) j = if j = k then some d else valD T j := by
  by_cases hk : k ∈ T.map (·.1)
  · unfold putD
    have e : (T.any fun kv => decide (kv.1 = k)) = true := by
      obtain ⟨p, hp, e⟩ := List.mem_map.mp hk
      exact List.any_eq_true.mpr ⟨p, hp, decide_eq_true e⟩
    rw [e, if_pos rfl]
    clear e
    induction T with
    | nil => simp at hk
    | cons p T ih =>
      obtain ⟨a, b⟩ := p
      rw [List.map_cons]
      unfold valD
      by_cases ha : a = k
      · subst ha
        rw [if_pos rfl]
        by_cases hj : j = a
        · subst hj
          rw [if_pos rfl, List.find?_cons_of_pos (by simp)]; rfl
        · have hj' : ¬ a = j := fun z => hj z.symm
          rw [if_neg hj, List.find?_cons_of_neg (by simpa using hj'), List.find?_cons_of_neg (by simpa using hj')]
          by_cases hin : a ∈ T.map (·.1)
          · have := ih hin
            unfold valD at this
            rw [if_neg hj] at this
            exact this
          · have hmap : T.map (fun kv => if kv.1 = a then (kv.1, d) else kv) = T := by
              conv => rhs; rw [← List.map_id T]
              refine List.map_congr_left fun p hp => ?_
              rw [if_neg fun z => hin (List.mem_map.mpr ⟨p, hp, z⟩)]; rfl
            rw [hmap]
      · rw [if_neg ha]
        have hin : k ∈ T.map (·.1) := by
          rcases List.mem_cons.mp hk with z | z
          · exact absurd z.symm ha
          · exact z
        by_cases hja : a = j
        · subst hja
          rw [List.find?_cons_of_pos (by simp), List.find?_cons_of_pos (by simp), if_neg ha]
        · rw [List.find?_cons_of_neg (by simpa using hja), List.find?_cons_of_neg (by simpa using hja)]
          have := ih hin
          unfold valD at this
          exact this
  · rw [putD_new hk]
    unfold valD
    rw [List.find?_append]
    by_cases hj : j = k
    · subst hj
      rw [if_pos rfl]
      have hn : T.find? (fun kv => decide (kv.1 = j)) = none := by
        rw [List.find?_eq_none]
        intro p hp
        rw [decide_eq_true_eq]
        exact fun z => hk (List.mem_map.mpr ⟨p, hp, z⟩)
      rw [hn]; simp
    · rw [if_neg hj]
      have hj' : ¬ k = j := fun z => hj z.symm
      have : List.find? (fun kv : Key × D => decide (kv.1 = j)) [(k, d)] = none := by simp [hj']
      rw [this, Option.or_none]
theorem gv_put (T : List (Key × D)) (y : Str) (d : D) (x : Str) : gv (putD T (.inr y) d) x = if x = y then d else gv T x := by
  unfold gv
  rw [val_put]
  by_cases h : x = y
  · rw [if_pos (by rw [h]), if_pos h]; rfl
  · rw [if_neg (fun z => h (Sum.inr.inj z)), if_neg h]
theorem put_tx {T : List (Key × D)} (h : TxK T) (y : Str) (d : D) : TxK (putD T (.inr y) d) := fun p hp => by
  unfold putD at hp
  split at hp
  · obtain ⟨q, hq, e⟩ := List.mem_map.mp hp
    obtain ⟨x, ex⟩ := h q hq
    by_cases hk : q.1 = (Sum.inr y : Key)
    · rw [if_pos hk] at e; exact ⟨x, by rw [← e]; exact ex⟩
    · rw [if_neg hk] at e; exact ⟨x, by rw [← e]; exact ex⟩
  · rcases List.mem_append.mp hp with hp | hp
    · exact h p hp
    · rw [List.mem_singleton.mp hp]; exact ⟨y, rfl⟩
theorem put_kS {T : List (Key × D)} (h : TxK T) (y : Str) (d : D) (x : Str) : x ∈ kS (putD T (.inr y) d) ↔ x ∈ kS T ∨ x = y := by
  have h1 := val_some (put_tx h y d) x
  have h2 := val_some h x
  rw [val_put] at h1
  by_cases hxy : x = y
  · rw [if_pos (by rw [hxy])] at h1
    exact ⟨fun _ => .inr hxy, fun _ => of_decide_eq_true h1.symm⟩
  · rw [if_neg (fun z => hxy (Sum.inr.inj z)), h2] at h1
    have h3 := decide_eq_decide.mp h1
    exact ⟨fun z => .inl (h3.mpr z), fun z => z.elim h3.mp (fun e => absurd e hxy)⟩
theorem put_nd {T : List (Key × D)} (h : (T.map (·.1)).Nodup) (k : Key) (d : D) : ((putD T k d).map (·.1)).Nodup := by
  by_cases hk : k ∈ T.map (·.1)
  · have e : (putD T k d).map (·.1) = T.map (·.1) := by
      unfold putD
      have e : (T.any fun kv => decide (kv.1 = k)) = true := by
        obtain ⟨p, hp, e⟩ := List.mem_map.mp hk
        exact List.any_eq_true.mpr ⟨p, hp, decide_eq_true e⟩
      rw [e, if_pos rfl, List.map_map]
      refine List.map_congr_left fun p _ => ?_
      show (if p.1 = k then (p.1, d) else p).1 = p.1
      split <;> rfl
    rw [e]; exact h
  · rw [putD_new hk, List.map_append, List.nodup_append]
    exact ⟨h, List.nodup_cons.mpr ⟨by simp, List.nodup_nil⟩, fun a ha b hb e => by
      have hb : b = k := List.mem_singleton.mp hb
      rw [hb] at e
      rw [e] at ha
      exact hk ha⟩
theorem kS_nd {T : List (Key × D)} (tx : TxK T) (h : (T.map (·.1)).Nodup) : (kS T).Nodup := by
  have e : T.map (·.1) = (kS T).map Sum.inr := by
    unfold kS
    rw [List.map_map]
    refine List.map_congr_left fun p hp => ?_
    obtain ⟨x, ex⟩ := tx p hp
    show p.1 = Sum.inr (keyS p.1)
    rw [ex]; rfl
  rw [e] at h
  exact List.Pairwise.of_map Sum.inr (fun _ _ hne e => hne (congrArg Sum.inr e)) h
theorem vals_none {pre : List D} {x : Str} (h : x ∉ keysA pre) : valsA pre x = [] := by
  unfold valsA
  rw [List.map_eq_nil_iff, List.filter_eq_nil_iff]
  intro t ht hx
  exact h (List.mem_flatMap.mpr ⟨t, ht, of_decide_eq_true hx⟩)
theorem vals_snoc (pre : List D) (kvs : List (Key × D)) (x : Str) : valsA (pre ++ [.tab kvs]) x = valsA pre x ++ (if x ∈ kS kvs then [gv kvs x] else []) := by
  unfold valsA
  rw [List.filter_append, List.map_append]
  congr 1
  by_cases h : x ∈ kS kvs
  · rw [if_pos h, List.filter_cons_of_pos (by exact decide_eq_true h)]; rfl
  · rw [if_neg h, List.filter_cons_of_neg (by rw [decide_eq_true_eq]; exact h)]; rfl
/-- the table of lists as it grows -/
structure KI (pre : List D) (kvs : List (Key × D)) (ps : List Str) (T : List (Key × D)) : Prop where
  tx : TxK T
  nd : (T.map (·.1)).Nodup
  mem : ∀ x, x ∈ kS T ↔ x ∈ keysA pre ∨ x ∈ ps
  val : ∀ x ∈ kS T, gv T x = .row (valsA pre x ++ (if x ∈ ps then [gv kvs x] else []))
  len : T.length ≤ (keysA pre).length + ps.length
theorem KI.step {pre : List D} {kvs : List (Key × D)} {ps : List Str} {T : List (Key × D)} (h : KI pre kvs ps T) {y : Str} (hy : y ∉ ps) : KI pre kvs (ps ++ [y]) (putD T (.inr y) (.row (valsA pre y ++ [gv kvs y]))) where
  tx := put_tx h.tx _ _
  nd := put_nd h.nd _ _
  mem := fun x => by
    rw [put_kS h.tx, h.mem, List.mem_append, List.mem_singleton]
    constructor
    · rintro ((z | z) | z)
      · exact .inl z
      · exact .inr (.inl z)
      · exact .inr (.inr z)
    · rintro (z | z | z)
      · exact .inl (.inl z)
      · exact .inl (.inr z)
      · exact .inr z
  val := fun x hx => by
    rw [gv_put]
    by_cases hxy : x = y
    · subst hxy
      rw [if_pos rfl, if_pos (List.mem_append_right _ List.mem_cons_self)]
    · rw [if_neg hxy]
      rcases (put_kS h.tx y _ x).mp hx with z | z
      · rw [h.val x z]
        congr 2
        by_cases hp : x ∈ ps
        · rw [if_pos hp, if_pos (List.mem_append_left _ hp)]
        · rw [if_neg hp, if_neg fun z => (List.mem_append.mp z).elim hp fun e => hxy (List.mem_singleton.mp e)]
      · exact absurd z hxy
  len := by
    have h1 := putD_length T (.inr y) (.row (valsA pre y ++ [gv kvs y]))
    have h2 := h.len
    rw [List.length_append]
    show (putD T _ _).length ≤ _ + (ps.length + 1)
    omega
theorem ents_law (K : Nat) {s : List D} (hs : ∀ x ∈ s, ∃ kvs, x = .tab kvs ∧ TxK kvs ∧ (kS kvs).Nodup) (hl : (keysA s).length ≤ 4000) (hz : s.length ≤ 4000) (rec : List D → D) (hR : ∀ x ∈ keysA s, (den (K + 1))._law_least [.row (valsA s x)] () = .ok (rec (valsA s x)) ()) :
    (den (K + 2))._law_entries [.row s] () = .ok (.tup ((entsA rec s).map entD)) () := by
  show fnD 4 (b__law_entries (den (K + 1))) [.row s] () = _
  obtain ⟨r', hl1, T, a, b, rfl, hT⟩ := forL_inv (tg := tgN 2) (s := ()) (body := sFor (fun r => bnd (dVar 2 r) fun x => lift (keysD x)) (tgN 3) (sOwn2 1 setTD (dVar 3) (dOp addD (dMt "dict" get2D (dVar 1) (dCons (dVar 3) (dCons (dAll rowD dNil) dNil))) (dAll rowD (dCons (dOp ixD (dVar 2) (dVar 3)) dNil)))))
    (fun pre r => ∃ T a b, r = [some (.row s), some (.tab T), a, b] ∧ KI pre [] [] T) s (fun pre x suf r hx ⟨T, a, b, hr, hT⟩ => by
      subst hr
      have hm : x ∈ s := by rw [hx]; exact List.mem_append_right _ List.mem_cons_self
      obtain ⟨kvs, rfl, tx, nd⟩ := hs x hm
      have hpl : pre.length ≤ 4000 ∧ (keysA pre).length + (kS kvs).length ≤ 4000 := by
        refine ⟨?_, ?_⟩
        · rw [hx, List.length_append] at hz; omega
        · rw [hx] at hl
          unfold keysA at hl ⊢
          rw [List.flatMap_append, List.flatMap_cons, List.length_append, List.length_append] at hl
          have e : (kS (kvsOf (.tab kvs))).length = (kS kvs).length := rfl
          omega
      have hT0 : KI pre kvs [] T := ⟨hT.tx, hT.nd, hT.mem, fun x hx => by rw [hT.val x hx, if_neg (by simp), if_neg (by simp)], hT.len⟩
      obtain ⟨r', hl1, ps, T', c, hps, rfl, hT'⟩ := forL_inv (tg := tgN 3) (s := ()) (body := sOwn2 1 setTD (dVar 3) (dOp addD (dMt "dict" get2D (dVar 1) (dCons (dVar 3) (dCons (dAll rowD dNil) dNil))) (dAll rowD (dCons (dOp ixD (dVar 2) (dVar 3)) dNil))))
        (fun pr r => ∃ ps T c, pr = ps.map D.str ∧ r = [some (.row s), some (.tab T), some (.tab kvs), c] ∧ KI pre kvs ps T) ((kS kvs).map D.str) (fun pr y sf r hy ⟨ps, T, c, hpr, hr, hT⟩ => by
          subst hr hpr
          have hym : y ∈ (kS kvs).map D.str := by rw [hy]; exact List.mem_append_right _ List.mem_cons_self
          obtain ⟨y, hyk, rfl⟩ := List.mem_map.mp hym
          have hpre : ∃ sf', kS kvs = ps ++ y :: sf' := by
            have h1 := congrArg strsD hy
            rw [strsD_map] at h1
            refine ⟨(kS kvs).drop (ps.length + 1), ?_⟩
            have hlen : ps.length < (kS kvs).length := by
              have h2 := congrArg List.length hy
              rw [List.length_map, List.length_append, List.length_map, List.length_cons] at h2
              omega
            have inj : ∀ (l1 l2 : List Str), l1.map D.str = l2.map D.str → l1 = l2 := fun l1 l2 h => by
              have h3 := congrArg strsD h
              rw [strsD_map, strsD_map] at h3
              exact Option.some.inj h3
            have h3 : (kS kvs).take ps.length = ps := by
              apply inj
              rw [List.map_take, hy, List.take_append_of_le_length (by rw [List.length_map]; exact Nat.le_refl _), List.take_of_length_le (by rw [List.length_map]; exact Nat.le_refl _)]
            have h4 : (kS kvs)[ps.length] = y := by
              have h5 : ((kS kvs).map D.str)[ps.length]? = some (.str y) := by
                rw [hy, List.getElem?_append_right (by rw [List.length_map]; exact Nat.le_refl _), List.length_map, Nat.sub_self]; rfl
              rw [List.getElem?_map, List.getElem?_eq_getElem hlen] at h5
              exact D.str.inj (Option.some.inj h5)
            calc kS kvs = (kS kvs).take ps.length ++ (kS kvs).drop ps.length := (List.take_append_drop _ _).symm
              _ = ps ++ (kS kvs).drop ps.length := by rw [h3]
              _ = ps ++ y :: (kS kvs).drop (ps.length + 1) := by rw [List.drop_eq_getElem_cons hlen, h4]
          obtain ⟨sf', hpre⟩ := hpre
          have hyn : y ∉ ps := by
            rw [hpre] at nd
            exact fun z => (List.nodup_append.mp nd).2.2 _ z _ List.mem_cons_self rfl
          have hpsl : ps.length ≤ (kS kvs).length := by rw [hpre, List.length_append]; omega
          have hget : get2D (.tab T) [.str y, .row []] = some (.row (valsA pre y)) := by
            show some ((valD T (.inr y)).getD (.row [])) = _
            by_cases hin : y ∈ kS T
            · rw [(gv_val hT.tx hin).1, hT.val y hin, if_neg hyn, List.append_nil]; rfl
            · have h1 := val_some hT.tx y
              rw [decide_eq_false hin] at h1
              have h2 : valD T (.inr y) = none := by
                cases q : valD T (.inr y) with
                | none => rfl
                | some _ => rw [q] at h1; cases h1
              rw [h2, vals_none fun z => hin ((hT.mem y).mpr (.inl z))]; rfl
          have hvl : (valsA pre y).length ≤ pre.length := by
            unfold valsA
            rw [List.length_map]; exact List.length_filter_le _ _
          have hadd : addD (.row (valsA pre y)) (.row [gv kvs y]) = some (.row (valsA pre y ++ [gv kvs y])) := by
            show (if _ then _ else _) = _
            rw [if_pos (by rw [sizeLine_eq]; show (valsA pre y).length + 1 ≤ _; omega)]
          have hset : setTD (.tab T) (.str y) (.row (valsA pre y ++ [gv kvs y])) = some (.tab (putD T (.inr y) (.row (valsA pre y ++ [gv kvs y])))) := by
            show (if T.length < sizeLine then _ else _) = _
            rw [if_pos (by have := hT.len; rw [sizeLine_eq]; omega)]
          refine ⟨[some (.row s), some (.tab T), some (.tab kvs), some (.str y)], [some (.row s), some (.tab (putD T (.inr y) (.row (valsA pre y ++ [gv kvs y])))), some (.tab kvs), some (.str y)], rfl, .inl ?_, ps ++ [y], _, some (.str y), by rw [List.map_append]; rfl, rfl, hT.step hyn⟩
          generalize (valsA pre y ++ [gv kvs y]) = V at hadd hset ⊢
          simp only [hget, ix_tab tx hyk, hadd, hset, zer', one', fnD, startD, endK, sRet, sRetN, sSeq, seqK, sIf, sAsg, sDrop, sNil, liftX, tgN, sFor, sOwn1, sOwn2, optK, putK2, sAsgO, sRetO, isRT, dAnd, dOr, dIf, bnd_e, dOp, dUn, dAll, dCons, dNil, ret_ap, dVar, getS, lift_e, lift_n, dC, dTst, isBl, dCall, up, tAndD, tOrD, tNotD, dItems, itemsD, dRange, dMt, dLc, rowD, tupD, truD, notD, tyIs, List.map_cons, List.map_nil, List.length_cons, List.length_nil, List.cons_append, List.nil_append, List.replicate_succ, List.replicate_zero, List.getElem?_cons_zero, List.getElem?_cons_succ, List.set_cons_zero, List.set_cons_succ, Option.join_some, Option.join_none, Option.map_some, Option.map_none, Option.bind_some, Option.bind_none, Nat.reduceAdd, Nat.reduceSub, Nat.zero_add, if_true, if_false, ite_true, ite_false, reduceIte, Bool.false_eq_true, Bool.true_eq_false, eq_self_iff_true]) ((kS kvs).map D.str) [] [some (.row s), some (.tab T), some (.tab kvs), b] rfl ⟨[], T, b, rfl, rfl, hT0⟩
      have hps2 : ps = kS kvs := by
        have h1 := congrArg strsD hps
        rw [strsD_map, strsD_map] at h1
        exact (Option.some.inj h1).symm
      subst hps2
      have hk10 : keysD (.tab kvs) = some ((kS kvs).map D.str) := by
        show some (kvs.map fun kv => kD kv.1) = _
        rw [keys_txt tx]
      refine ⟨[some (.row s), some (.tab T), some (.tab kvs), b], [some (.row s), some (.tab T'), some (.tab kvs), c], rfl, .inl ?_, T', some (.tab kvs), c, rfl, ⟨hT'.tx, hT'.nd, fun x => ?_, fun x hx => ?_, ?_⟩⟩
      · simp only [hk10, hl1, fnD, startD, endK, sRet, sRetN, sSeq, seqK, sIf, sAsg, sDrop, sNil, liftX, tgN, sFor, sOwn1, sOwn2, optK, putK2, sAsgO, sRetO, isRT, dAnd, dOr, dIf, bnd_e, dOp, dUn, dAll, dCons, dNil, ret_ap, dVar, getS, lift_e, lift_n, dC, dTst, isBl, dCall, up, tAndD, tOrD, tNotD, dItems, itemsD, dRange, dMt, dLc, rowD, tupD, truD, notD, tyIs, List.map_cons, List.map_nil, List.length_cons, List.length_nil, List.cons_append, List.nil_append, List.replicate_succ, List.replicate_zero, List.getElem?_cons_zero, List.getElem?_cons_succ, List.set_cons_zero, List.set_cons_succ, Option.join_some, Option.join_none, Option.map_some, Option.map_none, Option.bind_some, Option.bind_none, Nat.reduceAdd, Nat.reduceSub, Nat.zero_add, if_true, if_false, ite_true, ite_false, reduceIte, Bool.false_eq_true, Bool.true_eq_false, eq_self_iff_true]
      · rw [hT'.mem x]
        unfold keysA
        rw [List.flatMap_append, List.flatMap_cons, List.flatMap_nil, List.append_nil, List.mem_append]
        exact ⟨.inl, fun z => z.elim id fun q => absurd q (by simp)⟩
      · rw [hT'.val x hx, vals_snoc, if_neg (show ¬ x ∈ ([] : List Str) from by simp), List.append_nil]
      · have h1 := hT'.len
        unfold keysA at h1 ⊢
        rw [List.flatMap_append, List.flatMap_cons, List.flatMap_nil, List.append_nil, List.length_append]
        exact h1) s [] [some (.row s), some (.tab []), none, none] rfl ⟨[], none, none, rfl, ⟨(fun p hp => nomatch hp), List.nodup_nil, (fun x => by simp [kS, keysA]), (fun x hx => nomatch hx), Nat.zero_le _⟩⟩
  have hkT : ∀ x, x ∈ kS T ↔ x ∈ keysA s := fun x => by rw [hT.mem x]; simp
  have hsort : sortS (kS T) = sortS (ddS (keysA s)) := sortS_congr (perm_of_mem (kS_nd hT.tx hT.nd) (ddS_nodup _) fun x => by rw [hkT x, ddS_mem])
  have h3 : sortKD (.tab T) = some (.row ((sortS (ddS (keysA s))).map D.str)) := by
    show (txtKeys T).map _ = _
    rw [txtKeys_of hT.tx]
    show some (D.row ((sortS (kS T)).map D.str)) = _
    rw [hsort]
  have h4 : lcA (tgN 3) dYes (dAll tupD (dCons (dVar 3) (dCons (dCall 1 (fun ds => up ((den (K + 1))._law_least ds)) (dCons (dOp ixD (dVar 1) (dVar 3)) dNil)) (dCons (dOp eqD (dAll lenD (dCons (dOp ixD (dVar 1) (dVar 3)) dNil)) (dAll lenD (dCons (dVar 0) dNil))) dNil)))) [some (.row s), some (.tab T), a, b] [] ((sortS (ddS (keysA s))).map D.str) () = .ok (.row ((entsA rec s).map entD)) () := by
    rw [lcA_map (fun d => match d with | .str x => entD (x, rec (valsA s x), decide ((valsA s x).length = s.length)) | _ => .non) _ [] fun y hy => ?_, List.nil_append, List.map_map]
    · unfold entsA
      rw [List.map_map]; rfl
    · obtain ⟨x, hx, rfl⟩ := List.mem_map.mp hy
      have hxk : x ∈ keysA s := (ddS_mem _ _).mp ((sortS_perm _).mem_iff.mp hx)
      have hxT : x ∈ kS T := (hkT x).mpr hxk
      have e : ixD (.tab T) (.str x) = some (.row (valsA s x)) := by
        rw [ix_tab hT.tx hxT, hT.val x hxT, if_neg (by simp), List.append_nil]
      have hq : eqD (.int ((valsA s x).length : Int)) (.int (s.length : Int)) = some (.bl (decide ((valsA s x).length = s.length))) := by
        rw [eqD_int]
        congr 2
        exact decide_eq_decide.mpr (by omega)
      have hRx := hR x hxk
      show _ = Res.ok (D.tup [.str x, rec (valsA s x), .bl (decide ((valsA s x).length = s.length))]) ()
      generalize valsA s x = V at e hq hRx ⊢
      simp only [e, hRx, len_row, hq, three', fnD, startD, endK, sRet, sRetN, sSeq, seqK, sIf, sAsg, sDrop, sNil, liftX, tgN, sFor, sOwn1, sOwn2, optK, putK2, sAsgO, sRetO, isRT, dAnd, dOr, dIf, bnd_e, dOp, dUn, dAll, dCons, dNil, ret_ap, dVar, getS, lift_e, lift_n, dC, dTst, isBl, dCall, up, tAndD, tOrD, tNotD, dItems, itemsD, dRange, dMt, dLc, rowD, tupD, truD, notD, tyIs, List.map_cons, List.map_nil, List.length_cons, List.length_nil, List.cons_append, List.nil_append, List.replicate_succ, List.replicate_zero, List.getElem?_cons_zero, List.getElem?_cons_succ, List.set_cons_zero, List.set_cons_succ, Option.join_some, Option.join_none, Option.map_some, Option.map_none, Option.bind_some, Option.bind_none, Nat.reduceAdd, Nat.reduceSub, Nat.zero_add, if_true, if_false, ite_true, ite_false, reduceIte, Bool.false_eq_true, Bool.true_eq_false, eq_self_iff_true]
  have htup : tupleD [.row ((entsA rec s).map entD)] = some (.tup ((entsA rec s).map entD)) := rfl
  unfold b__law_entries
  generalize (sFor (fun r => bnd (dVar 2 r) fun x => lift (keysD x)) (tgN 3) (sOwn2 1 setTD (dVar 3) (dOp addD (dMt "dict" get2D (dVar 1) (dCons (dVar 3) (dCons (dAll rowD dNil) dNil))) (dAll rowD (dCons (dOp ixD (dVar 2) (dVar 3)) dNil)))) : Sl → Mo Unit) = B at hl1 ⊢
  simp only [hl1, h3, h4, htup, fnD, startD, endK, sRet, sRetN, sSeq, seqK, sIf, sAsg, sDrop, sNil, liftX, tgN, sFor, sOwn1, sOwn2, optK, putK2, sAsgO, sRetO, isRT, dAnd, dOr, dIf, bnd_e, dOp, dUn, dAll, dCons, dNil, ret_ap, dVar, getS, lift_e, lift_n, dC, dTst, isBl, dCall, up, tAndD, tOrD, tNotD, dItems, itemsD, dRange, dMt, dLc, rowD, tupD, truD, notD, tyIs, List.map_cons, List.map_nil, List.length_cons, List.length_nil, List.cons_append, List.nil_append, List.replicate_succ, List.replicate_zero, List.getElem?_cons_zero, List.getElem?_cons_succ, List.set_cons_zero, List.set_cons_succ, Option.join_some, Option.join_none, Option.map_some, Option.map_none, Option.bind_some, Option.bind_none, Nat.reduceAdd, Nat.reduceSub, Nat.zero_add, if_true, if_false, ite_true, ite_false, reduceIte, Bool.false_eq_true, Bool.true_eq_false, eq_self_iff_true]
end Nw
set_option Elab.async false
set_option linter.all false
set_option maxRecDepth 100000
set_option maxHeartbeats 4000000
namespace Nw
open PySem PySem.Spec L2
/-! ### the law's own: all kinds -/
theorem qj_0_2 : eqD (.int 0) (.int 2) = some (.bl false) := by kernel_rfl
theorem qj_0_3 : eqD (.int 0) (.int 3) = some (.bl false) := by kernel_rfl
theorem qj_0_4 : eqD (.int 0) (.int 4) = some (.bl false) := by kernel_rfl
theorem lj_0 : ltD (.int 0) (.int 2) = some (.bl true) := by kernel_rfl
theorem qj_1_2 : eqD (.int 1) (.int 2) = some (.bl false) := by kernel_rfl
theorem qj_1_3 : eqD (.int 1) (.int 3) = some (.bl false) := by kernel_rfl
theorem qj_1_4 : eqD (.int 1) (.int 4) = some (.bl false) := by kernel_rfl
theorem lj_1 : ltD (.int 1) (.int 2) = some (.bl true) := by kernel_rfl
theorem qj_2_2 : eqD (.int 2) (.int 2) = some (.bl true) := by kernel_rfl
theorem qj_2_3 : eqD (.int 2) (.int 3) = some (.bl false) := by kernel_rfl
theorem qj_2_4 : eqD (.int 2) (.int 4) = some (.bl false) := by kernel_rfl
theorem lj_2 : ltD (.int 2) (.int 2) = some (.bl false) := by kernel_rfl
theorem qj_3_2 : eqD (.int 3) (.int 2) = some (.bl false) := by kernel_rfl
theorem qj_3_3 : eqD (.int 3) (.int 3) = some (.bl true) := by kernel_rfl
theorem qj_3_4 : eqD (.int 3) (.int 4) = some (.bl false) := by kernel_rfl
theorem lj_3 : ltD (.int 3) (.int 2) = some (.bl false) := by kernel_rfl
theorem qj_4_2 : eqD (.int 4) (.int 2) = some (.bl false) := by kernel_rfl
theorem qj_4_3 : eqD (.int 4) (.int 3) = some (.bl false) := by kernel_rfl
theorem qj_4_4 : eqD (.int 4) (.int 4) = some (.bl true) := by kernel_rfl
theorem lj_4 : ltD (.int 4) (.int 2) = some (.bl false) := by kernel_rfl
theorem qj_5_2 : eqD (.int 5) (.int 2) = some (.bl false) := by kernel_rfl
theorem qj_5_3 : eqD (.int 5) (.int 3) = some (.bl false) := by kernel_rfl
theorem qj_5_4 : eqD (.int 5) (.int 4) = some (.bl false) := by kernel_rfl
theorem lj_5 : ltD (.int 5) (.int 2) = some (.bl false) := by kernel_rfl
theorem njt0 : ixD (.row [.str "none", .str "truth"]) (.int 0) = some (.str "none") := by kernel_rfl
theorem njt1 : ixD (.row [.str "none", .str "truth"]) (.int 1) = some (.str "truth") := by kernel_rfl
def lk : D → Int
  | .non => 0 | .bl _ => 1 | .int _ => 2 | .str _ => 3 | .row _ => 4 | _ => 5
theorem lk_eq {m : Nat} {t : D} (h : ThD m t) (k : Nat) : (den (k + 1))._law_kind [t] () = .ok (.int (lk t)) () := by
  rcases th_kinds h with rfl | ⟨b, rfl⟩ | ⟨b, rfl⟩ | ⟨b, rfl⟩ | ⟨b, rfl⟩ | ⟨b, rfl⟩
  · exact lkind_non k
  · exact lkind_bl k b
  · exact lkind_int k b
  · exact lkind_str k b
  · exact lkind_row k b
  · exact lkind_tab k b
theorem lk_0 {m : Nat} {t : D} (h : ThD m t) : decide (lk t = 0) = decide (kw t = "none") := by
  rcases th_kinds h with rfl | ⟨b, rfl⟩ | ⟨b, rfl⟩ | ⟨b, rfl⟩ | ⟨b, rfl⟩ | ⟨b, rfl⟩ <;> kernel_rfl
theorem lk_1 {m : Nat} {t : D} (h : ThD m t) : decide (lk t = 1) = decide (kw t = "truth") := by
  rcases th_kinds h with rfl | ⟨b, rfl⟩ | ⟨b, rfl⟩ | ⟨b, rfl⟩ | ⟨b, rfl⟩ | ⟨b, rfl⟩ <;> kernel_rfl
theorem lk_2 {m : Nat} {t : D} (h : ThD m t) : decide (lk t = 2) = decide (kw t = "number") := by
  rcases th_kinds h with rfl | ⟨b, rfl⟩ | ⟨b, rfl⟩ | ⟨b, rfl⟩ | ⟨b, rfl⟩ | ⟨b, rfl⟩ <;> kernel_rfl
theorem lk_3 {m : Nat} {t : D} (h : ThD m t) : decide (lk t = 3) = decide (kw t = "word") := by
  rcases th_kinds h with rfl | ⟨b, rfl⟩ | ⟨b, rfl⟩ | ⟨b, rfl⟩ | ⟨b, rfl⟩ | ⟨b, rfl⟩ <;> kernel_rfl
theorem lk_4 {m : Nat} {t : D} (h : ThD m t) : decide (lk t = 4) = decide (kw t = "row") := by
  rcases th_kinds h with rfl | ⟨b, rfl⟩ | ⟨b, rfl⟩ | ⟨b, rfl⟩ | ⟨b, rfl⟩ | ⟨b, rfl⟩ <;> kernel_rfl
theorem lk_5 {m : Nat} {t : D} (h : ThD m t) : decide (lk t = 5) = decide (kw t = "table") := by
  rcases th_kinds h with rfl | ⟨b, rfl⟩ | ⟨b, rfl⟩ | ⟨b, rfl⟩ | ⟨b, rfl⟩ | ⟨b, rfl⟩ <;> kernel_rfl
abbrev bodyL (L : Nat) : Sl → Mo Unit := (sSeq (sAsg (tgN 3) (dLc (dItems (dVar 0)) (tgN 7) (dTst (dOp eqD (dCall 1 (fun ds => up ((den L)._law_kind ds)) (dCons (dVar 7) dNil)) (dVar 2)) isBl) (dVar 7))) (sSeq (sIf (dTst (dOp eqD (dVar 3) (dAll rowD dNil)) isBl) sCnt sNil) (sIf (dTst (dOp ltD (dVar 2) (dC (.int 2))) isBl) (sOwn1 "list" 1 appD (dAll tupD (dCons (dOp ixD (dAll rowD (dCons (dC (.str "none")) (dCons (dC (.str "truth")) dNil))) (dVar 2)) dNil))) (sIf (dTst (dOp eqD (dVar 2) (dC (.int 2))) isBl) (sOwn1 "list" 1 appD (dAll tupD (dCons (dC (.str "number")) (dCons (dAll minD (dCons (dVar 3) dNil)) (dCons (dAll maxD (dCons (dVar 3) dNil)) dNil))))) (sIf (dTst (dOp eqD (dVar 2) (dC (.int 3))) isBl) (sOwn1 "list" 1 appD (dAll tupD (dCons (dC (.str "word")) (dCons (dAll maxD (dCons (dLc (dItems (dVar 3)) (tgN 8) dYes (dAll lenD (dCons (dVar 8) dNil))) dNil)) dNil)))) (sIf (dTst (dOp eqD (dVar 2) (dC (.int 4))) isBl) (sSeq (sAsg (tgN 4) (dAll rowD dNil)) (sSeq (sFor (dItems (dVar 3)) (tgN 5) (sAsg (tgN 4) (dOp addD (dVar 4) (dVar 5)))) (sSeq (sAsg (tgN 6) (dLc (dItems (dVar 3)) (tgN 5) dYes (dAll lenD (dCons (dVar 5) dNil)))) (sOwn1 "list" 1 appD (dAll tupD (dCons (dC (.str "row")) (dCons (dCall 1 (fun ds => up ((den L)._law_least ds)) (dCons (dVar 4) dNil)) (dCons (dAll minD (dCons (dVar 6) dNil)) (dCons (dAll maxD (dCons (dVar 6) dNil)) dNil))))))))) (sOwn1 "list" 1 appD (dAll tupD (dCons (dC (.str "table")) (dCons (dCall 1 (fun ds => up ((den L)._law_entries ds)) (dCons (dVar 3) dNil)) (dCons (dC .non) dNil)))))))))))
theorem body_some (L : Nat) (xs P : List D) (j : Int) (w : Str) (c d e b0 : Option D) (hsel : ∀ x ∈ xs, (den L)._law_kind [x] () = .ok (.int (lk x)) ()) (hw : ∀ x ∈ xs, decide (lk x = j) = decide (kw x = w)) :
    lcA (tgN 7) (dTst (dOp eqD (dCall 1 (fun ds => up ((den L)._law_kind ds)) (dCons (dVar 7) dNil)) (dVar 2)) isBl) (dVar 7) [some (.row xs), some (.row P), some (.int j), b0, c, d, e, none, none] [] xs () = .ok (.row (selK w xs)) () := by
  rw [lcA_if (fun t => decide (kw t = w)) (fun t => t) xs [] (fun y hy => ?_) (fun y hy _ => ?_), List.nil_append, List.map_id']
  · rfl
  · simp only [hsel y hy, eqD_int, hw y hy, fnD, startD, endK, sRet, sRetN, sSeq, seqK, sIf, sAsg, sDrop, sNil, liftX, tgN, sFor, sOwn1, sOwn2, optK, putK2, sAsgO, sRetO, isRT, dAnd, dOr, dIf, bnd_e, dOp, dUn, dAll, dCons, dNil, ret_ap, dVar, getS, lift_e, lift_n, dC, dTst, isBl, dCall, up, tAndD, tOrD, tNotD, dItems, itemsD, dRange, dMt, dLc, rowD, tupD, truD, notD, tyIs, List.map_cons, List.map_nil, List.length_cons, List.length_nil, List.cons_append, List.nil_append, List.replicate_succ, List.replicate_zero, List.getElem?_cons_zero, List.getElem?_cons_succ, List.set_cons_zero, List.set_cons_succ, Option.join_some, Option.join_none, Option.map_some, Option.map_none, Option.bind_some, Option.bind_none, Nat.reduceAdd, Nat.reduceSub, Nat.zero_add, if_true, if_false, ite_true, ite_false, reduceIte, Bool.false_eq_true, Bool.true_eq_false, eq_self_iff_true]
  · simp only [fnD, startD, endK, sRet, sRetN, sSeq, seqK, sIf, sAsg, sDrop, sNil, liftX, tgN, sFor, sOwn1, sOwn2, optK, putK2, sAsgO, sRetO, isRT, dAnd, dOr, dIf, bnd_e, dOp, dUn, dAll, dCons, dNil, ret_ap, dVar, getS, lift_e, lift_n, dC, dTst, isBl, dCall, up, tAndD, tOrD, tNotD, dItems, itemsD, dRange, dMt, dLc, rowD, tupD, truD, notD, tyIs, List.map_cons, List.map_nil, List.length_cons, List.length_nil, List.cons_append, List.nil_append, List.replicate_succ, List.replicate_zero, List.getElem?_cons_zero, List.getElem?_cons_succ, List.set_cons_zero, List.set_cons_succ, Option.join_some, Option.join_none, Option.map_some, Option.map_none, Option.bind_some, Option.bind_none, Nat.reduceAdd, Nat.reduceSub, Nat.zero_add, if_true, if_false, ite_true, ite_false, reduceIte, Bool.false_eq_true, Bool.true_eq_false, eq_self_iff_true]
theorem row_e0 : eqD (.row []) (.row []) = some (.bl true) := by kernel_rfl
theorem row_e1 {s : List D} (h : s ≠ []) : eqD (.row s) (.row []) = some (.bl false) := by
  cases s with
  | nil => exact absurd rfl h
  | cons a s => rfl
theorem within_loop {s : List D} (hs : ∀ x ∈ s, ∃ xs, x = .row xs) (hl : (s.flatMap rowOf).length ≤ 4000) (a0 a1 a2 e : Option D) (d0 : Option D) : ∃ d, forL (tgN 5) (sAsg (tgN 4) (dOp addD (dVar 4) (dVar 5))) s [a0, a1, a2, some (.row s), some (.row []), d0, e, none, none] () = some (.next [a0, a1, a2, some (.row s), some (.row (s.flatMap rowOf)), d, e, none, none], ()) := by
  obtain ⟨r', h1, d, rfl⟩ := forL_inv (tg := tgN 5) (s := ()) (body := sAsg (tgN 4) (dOp addD (dVar 4) (dVar 5))) (fun pre r => ∃ d, r = [a0, a1, a2, some (.row s), some (.row (pre.flatMap rowOf)), d, e, none, none]) s (fun pre x suf r hx ⟨d, hr⟩ => by
    subst hr
    have hm : x ∈ s := by rw [hx]; exact List.mem_append_right _ List.mem_cons_self
    obtain ⟨xs, rfl⟩ := hs x hm
    have hlen : (pre.flatMap rowOf).length + xs.length ≤ sizeLine := by
      rw [hx, List.flatMap_append, List.flatMap_cons, List.length_append, List.length_append] at hl
      have e : (rowOf (.row xs)).length = xs.length := rfl
      rw [sizeLine_eq]; omega
    have he : addD (.row (pre.flatMap rowOf)) (.row xs) = some (.row (pre.flatMap rowOf ++ xs)) := by
      show (if _ then _ else _) = _
      rw [if_pos hlen]
    refine ⟨[a0, a1, a2, some (.row s), some (.row (pre.flatMap rowOf)), some (.row xs), e, none, none], [a0, a1, a2, some (.row s), some (.row (pre.flatMap rowOf ++ xs)), some (.row xs), e, none, none], rfl, .inl ?_, some (.row xs), ?_⟩
    · simp only [he, fnD, startD, endK, sRet, sRetN, sSeq, seqK, sIf, sAsg, sDrop, sNil, liftX, tgN, sFor, sOwn1, sOwn2, optK, putK2, sAsgO, sRetO, isRT, dAnd, dOr, dIf, bnd_e, dOp, dUn, dAll, dCons, dNil, ret_ap, dVar, getS, lift_e, lift_n, dC, dTst, isBl, dCall, up, tAndD, tOrD, tNotD, dItems, itemsD, dRange, dMt, dLc, rowD, tupD, truD, notD, tyIs, List.map_cons, List.map_nil, List.length_cons, List.length_nil, List.cons_append, List.nil_append, List.replicate_succ, List.replicate_zero, List.getElem?_cons_zero, List.getElem?_cons_succ, List.set_cons_zero, List.set_cons_succ, Option.join_some, Option.join_none, Option.map_some, Option.map_none, Option.bind_some, Option.bind_none, Nat.reduceAdd, Nat.reduceSub, Nat.zero_add, if_true, if_false, ite_true, ite_false, reduceIte, Bool.false_eq_true, Bool.true_eq_false, eq_self_iff_true]
    · rw [List.flatMap_append, List.flatMap_cons, List.flatMap_nil, List.append_nil]; rfl) s [] _ rfl ⟨d0, rfl⟩
  exact ⟨d, h1⟩
theorem app6 {P : List D} (hP : P.length ≤ 6) (x : D) : appD (.row P) x = some (.row (P ++ [x])) := by
  show (if _ then _ else _) = _
  rw [if_pos (by rw [sizeLine_eq]; omega)]
theorem step_0 (L n : Nat) {xs : List D} (hx : ∀ x ∈ xs, Fw n x) (hl : xs.length * 3 ^ n ≤ 1200) (P : List D) (hP : P.length ≤ 6) (a b c d e : Option D) (hk : ∀ x ∈ xs, (den (L + 1))._law_kind [x] () = .ok (.int (lk x)) ())
    (ih1 : ∀ m, n = m + 1 → ∀ ys : List D, (∀ y ∈ ys, Fw m y) → ys.length * 3 ^ m ≤ 1200 → (den (L + 1))._law_least [.row ys] () = .ok (least m ys) ()) (ih2 : ∀ m, n = m + 1 → ∀ ys : List D, (∀ y ∈ ys, Fw m y) → ys.length * 3 ^ m ≤ 1200 → (den L)._law_least [.row ys] () = .ok (least m ys) ()) :
    ∃ b' c' d' e', (bodyL (L + 1) [some (.row xs), some (.row P), some (.int 0), b, c, d, e, none, none] () = some (.next [some (.row xs), some (.row (P ++ (partO (recN n) xs "none").toList)), some (.int 0), b', c', d', e', none, none], ()) ∨ bodyL (L + 1) [some (.row xs), some (.row P), some (.int 0), b, c, d, e, none, none] () = some (.cnt [some (.row xs), some (.row (P ++ (partO (recN n) xs "none").toList)), some (.int 0), b', c', d', e', none, none], ())) := by
  have h6 := body_some (L + 1) xs P 0 "none" c d e b hk (fun x hx' => lk_0 (hx x hx').th)
  have hs : ∀ x ∈ selK "none" xs, Fw n x := fun x hx' => hx x (sel_mem.mp hx').1
  have hkw : ∀ x ∈ selK "none" xs, kw x = "none" := fun x hx' => (sel_mem.mp hx').2
  have hsl := sel_len "none" xs
  have hp := pow3 n
  have hsz : (selK "none" xs).length * 3 ^ n ≤ 1200 := Nat.le_trans (Nat.mul_le_mul_right _ hsl) hl
  have hsz1 : (selK "none" xs).length ≤ 1200 := Nat.le_trans (by have := Nat.mul_le_mul_left (selK "none" xs).length hp; omega) hsz
  have wne : ∀ (a b : Str), (decide (a = b)) = false → ¬ a = b := fun a b h => of_decide_eq_false h
  have hpo : partO (recN n) xs "none" = if (selK "none" xs).isEmpty = true then none else some (partK (recN n) "none" (selK "none" xs)) := rfl
  rw [hpo]
  generalize selK "none" xs = s at h6 hs hkw hsl hsz hsz1 ⊢
  by_cases hne : s = []
  · subst hne
    refine ⟨some (.row []), c, d, e, .inr ?_⟩
    have ht : (if (([] : List D).isEmpty) = true then none else some (partK (recN n) "none" [])).toList = ([] : List D) := rfl
    rw [ht, List.append_nil]
    simp only [bodyL, h6, row_e0, zer', sCnt, fnD, startD, endK, sRet, sRetN, sSeq, seqK, sIf, sAsg, sDrop, sNil, liftX, tgN, sFor, sOwn1, sOwn2, optK, putK2, sAsgO, sRetO, isRT, dAnd, dOr, dIf, bnd_e, dOp, dUn, dAll, dCons, dNil, ret_ap, dVar, getS, lift_e, lift_n, dC, dTst, isBl, dCall, up, tAndD, tOrD, tNotD, dItems, itemsD, dRange, dMt, dLc, rowD, tupD, truD, notD, tyIs, List.map_cons, List.map_nil, List.length_cons, List.length_nil, List.cons_append, List.nil_append, List.replicate_succ, List.replicate_zero, List.getElem?_cons_zero, List.getElem?_cons_succ, List.set_cons_zero, List.set_cons_succ, Option.join_some, Option.join_none, Option.map_some, Option.map_none, Option.bind_some, Option.bind_none, Nat.reduceAdd, Nat.reduceSub, Nat.zero_add, if_true, if_false, ite_true, ite_false, reduceIte, Bool.false_eq_true, Bool.true_eq_false, eq_self_iff_true]
  · have hem : s.isEmpty = false := by cases s with | nil => exact absurd rfl hne | cons a s => rfl
    rw [hem, if_neg Bool.false_ne_true]
    have re := row_e1 hne
    have e0 : partK (recN n) "none" s = .tup [.str "none"] := by
      unfold partK
      rw [if_neg (wne _ _ (by kernel_rfl)), if_neg (wne _ _ (by kernel_rfl)), if_neg (wne _ _ (by kernel_rfl)), if_neg (wne _ _ (by kernel_rfl))]
    rw [e0]
    have happ := app6 hP (.tup [.str "none"])
    refine ⟨some (.row s), c, d, e, .inl ?_⟩
    show _ = some (Flw.next [_, some (D.row (P ++ [_])), _, _, _, _, _, _, _], ())
    generalize P ++ [D.tup [.str "none"]] = P2 at happ ⊢
    simp only [bodyL, h6, re, njt0, happ, zer', one', two', fnD, startD, endK, sRet, sRetN, sSeq, seqK, sIf, sAsg, sDrop, sNil, liftX, tgN, sFor, sOwn1, sOwn2, optK, putK2, sAsgO, sRetO, isRT, dAnd, dOr, dIf, bnd_e, dOp, dUn, dAll, dCons, dNil, ret_ap, dVar, getS, lift_e, lift_n, dC, dTst, isBl, dCall, up, tAndD, tOrD, tNotD, dItems, itemsD, dRange, dMt, dLc, rowD, tupD, truD, notD, tyIs, List.map_cons, List.map_nil, List.length_cons, List.length_nil, List.cons_append, List.nil_append, List.replicate_succ, List.replicate_zero, List.getElem?_cons_zero, List.getElem?_cons_succ, List.set_cons_zero, List.set_cons_succ, Option.join_some, Option.join_none, Option.map_some, Option.map_none, Option.bind_some, Option.bind_none, Nat.reduceAdd, Nat.reduceSub, Nat.zero_add, if_true, if_false, ite_true, ite_false, reduceIte, Bool.false_eq_true, Bool.true_eq_false, eq_self_iff_true, qj_0_2, qj_0_3, qj_0_4, lj_0, qj_1_2, qj_1_3, qj_1_4, lj_1, qj_2_2, qj_2_3, qj_2_4, lj_2, qj_3_2, qj_3_3, qj_3_4, lj_3, qj_4_2, qj_4_3, qj_4_4, lj_4, qj_5_2, qj_5_3, qj_5_4, lj_5]
theorem step_1 (L n : Nat) {xs : List D} (hx : ∀ x ∈ xs, Fw n x) (hl : xs.length * 3 ^ n ≤ 1200) (P : List D) (hP : P.length ≤ 6) (a b c d e : Option D) (hk : ∀ x ∈ xs, (den (L + 1))._law_kind [x] () = .ok (.int (lk x)) ())
    (ih1 : ∀ m, n = m + 1 → ∀ ys : List D, (∀ y ∈ ys, Fw m y) → ys.length * 3 ^ m ≤ 1200 → (den (L + 1))._law_least [.row ys] () = .ok (least m ys) ()) (ih2 : ∀ m, n = m + 1 → ∀ ys : List D, (∀ y ∈ ys, Fw m y) → ys.length * 3 ^ m ≤ 1200 → (den L)._law_least [.row ys] () = .ok (least m ys) ()) :
    ∃ b' c' d' e', (bodyL (L + 1) [some (.row xs), some (.row P), some (.int 1), b, c, d, e, none, none] () = some (.next [some (.row xs), some (.row (P ++ (partO (recN n) xs "truth").toList)), some (.int 1), b', c', d', e', none, none], ()) ∨ bodyL (L + 1) [some (.row xs), some (.row P), some (.int 1), b, c, d, e, none, none] () = some (.cnt [some (.row xs), some (.row (P ++ (partO (recN n) xs "truth").toList)), some (.int 1), b', c', d', e', none, none], ())) := by
  have h6 := body_some (L + 1) xs P 1 "truth" c d e b hk (fun x hx' => lk_1 (hx x hx').th)
  have hs : ∀ x ∈ selK "truth" xs, Fw n x := fun x hx' => hx x (sel_mem.mp hx').1
  have hkw : ∀ x ∈ selK "truth" xs, kw x = "truth" := fun x hx' => (sel_mem.mp hx').2
  have hsl := sel_len "truth" xs
  have hp := pow3 n
  have hsz : (selK "truth" xs).length * 3 ^ n ≤ 1200 := Nat.le_trans (Nat.mul_le_mul_right _ hsl) hl
  have hsz1 : (selK "truth" xs).length ≤ 1200 := Nat.le_trans (by have := Nat.mul_le_mul_left (selK "truth" xs).length hp; omega) hsz
  have wne : ∀ (a b : Str), (decide (a = b)) = false → ¬ a = b := fun a b h => of_decide_eq_false h
  have hpo : partO (recN n) xs "truth" = if (selK "truth" xs).isEmpty = true then none else some (partK (recN n) "truth" (selK "truth" xs)) := rfl
  rw [hpo]
  generalize selK "truth" xs = s at h6 hs hkw hsl hsz hsz1 ⊢
  by_cases hne : s = []
  · subst hne
    refine ⟨some (.row []), c, d, e, .inr ?_⟩
    have ht : (if (([] : List D).isEmpty) = true then none else some (partK (recN n) "truth" [])).toList = ([] : List D) := rfl
    rw [ht, List.append_nil]
    simp only [bodyL, h6, row_e0, zer', sCnt, fnD, startD, endK, sRet, sRetN, sSeq, seqK, sIf, sAsg, sDrop, sNil, liftX, tgN, sFor, sOwn1, sOwn2, optK, putK2, sAsgO, sRetO, isRT, dAnd, dOr, dIf, bnd_e, dOp, dUn, dAll, dCons, dNil, ret_ap, dVar, getS, lift_e, lift_n, dC, dTst, isBl, dCall, up, tAndD, tOrD, tNotD, dItems, itemsD, dRange, dMt, dLc, rowD, tupD, truD, notD, tyIs, List.map_cons, List.map_nil, List.length_cons, List.length_nil, List.cons_append, List.nil_append, List.replicate_succ, List.replicate_zero, List.getElem?_cons_zero, List.getElem?_cons_succ, List.set_cons_zero, List.set_cons_succ, Option.join_some, Option.join_none, Option.map_some, Option.map_none, Option.bind_some, Option.bind_none, Nat.reduceAdd, Nat.reduceSub, Nat.zero_add, if_true, if_false, ite_true, ite_false, reduceIte, Bool.false_eq_true, Bool.true_eq_false, eq_self_iff_true]
  · have hem : s.isEmpty = false := by cases s with | nil => exact absurd rfl hne | cons a s => rfl
    rw [hem, if_neg Bool.false_ne_true]
    have re := row_e1 hne
    have e0 : partK (recN n) "truth" s = .tup [.str "truth"] := by
      unfold partK
      rw [if_neg (wne _ _ (by kernel_rfl)), if_neg (wne _ _ (by kernel_rfl)), if_neg (wne _ _ (by kernel_rfl)), if_neg (wne _ _ (by kernel_rfl))]
    rw [e0]
    have happ := app6 hP (.tup [.str "truth"])
    refine ⟨some (.row s), c, d, e, .inl ?_⟩
    show _ = some (Flw.next [_, some (D.row (P ++ [_])), _, _, _, _, _, _, _], ())
    generalize P ++ [D.tup [.str "truth"]] = P2 at happ ⊢
    simp only [bodyL, h6, re, njt1, happ, zer', one', two', fnD, startD, endK, sRet, sRetN, sSeq, seqK, sIf, sAsg, sDrop, sNil, liftX, tgN, sFor, sOwn1, sOwn2, optK, putK2, sAsgO, sRetO, isRT, dAnd, dOr, dIf, bnd_e, dOp, dUn, dAll, dCons, dNil, ret_ap, dVar, getS, lift_e, lift_n, dC, dTst, isBl, dCall, up, tAndD, tOrD, tNotD, dItems, itemsD, dRange, dMt, dLc, rowD, tupD, truD, notD, tyIs, List.map_cons, List.map_nil, List.length_cons, List.length_nil, List.cons_append, List.nil_append, List.replicate_succ, List.replicate_zero, List.getElem?_cons_zero, List.getElem?_cons_succ, List.set_cons_zero, List.set_cons_succ, Option.join_some, Option.join_none, Option.map_some, Option.map_none, Option.bind_some, Option.bind_none, Nat.reduceAdd, Nat.reduceSub, Nat.zero_add, if_true, if_false, ite_true, ite_false, reduceIte, Bool.false_eq_true, Bool.true_eq_false, eq_self_iff_true, qj_0_2, qj_0_3, qj_0_4, lj_0, qj_1_2, qj_1_3, qj_1_4, lj_1, qj_2_2, qj_2_3, qj_2_4, lj_2, qj_3_2, qj_3_3, qj_3_4, lj_3, qj_4_2, qj_4_3, qj_4_4, lj_4, qj_5_2, qj_5_3, qj_5_4, lj_5]
theorem step_2 (L n : Nat) {xs : List D} (hx : ∀ x ∈ xs, Fw n x) (hl : xs.length * 3 ^ n ≤ 1200) (P : List D) (hP : P.length ≤ 6) (a b c d e : Option D) (hk : ∀ x ∈ xs, (den (L + 1))._law_kind [x] () = .ok (.int (lk x)) ())
    (ih1 : ∀ m, n = m + 1 → ∀ ys : List D, (∀ y ∈ ys, Fw m y) → ys.length * 3 ^ m ≤ 1200 → (den (L + 1))._law_least [.row ys] () = .ok (least m ys) ()) (ih2 : ∀ m, n = m + 1 → ∀ ys : List D, (∀ y ∈ ys, Fw m y) → ys.length * 3 ^ m ≤ 1200 → (den L)._law_least [.row ys] () = .ok (least m ys) ()) :
    ∃ b' c' d' e', (bodyL (L + 1) [some (.row xs), some (.row P), some (.int 2), b, c, d, e, none, none] () = some (.next [some (.row xs), some (.row (P ++ (partO (recN n) xs "number").toList)), some (.int 2), b', c', d', e', none, none], ()) ∨ bodyL (L + 1) [some (.row xs), some (.row P), some (.int 2), b, c, d, e, none, none] () = some (.cnt [some (.row xs), some (.row (P ++ (partO (recN n) xs "number").toList)), some (.int 2), b', c', d', e', none, none], ())) := by
  have h6 := body_some (L + 1) xs P 2 "number" c d e b hk (fun x hx' => lk_2 (hx x hx').th)
  have hs : ∀ x ∈ selK "number" xs, Fw n x := fun x hx' => hx x (sel_mem.mp hx').1
  have hkw : ∀ x ∈ selK "number" xs, kw x = "number" := fun x hx' => (sel_mem.mp hx').2
  have hsl := sel_len "number" xs
  have hp := pow3 n
  have hsz : (selK "number" xs).length * 3 ^ n ≤ 1200 := Nat.le_trans (Nat.mul_le_mul_right _ hsl) hl
  have hsz1 : (selK "number" xs).length ≤ 1200 := Nat.le_trans (by have := Nat.mul_le_mul_left (selK "number" xs).length hp; omega) hsz
  have wne : ∀ (a b : Str), (decide (a = b)) = false → ¬ a = b := fun a b h => of_decide_eq_false h
  have hpo : partO (recN n) xs "number" = if (selK "number" xs).isEmpty = true then none else some (partK (recN n) "number" (selK "number" xs)) := rfl
  rw [hpo]
  generalize selK "number" xs = s at h6 hs hkw hsl hsz hsz1 ⊢
  by_cases hne : s = []
  · subst hne
    refine ⟨some (.row []), c, d, e, .inr ?_⟩
    have ht : (if (([] : List D).isEmpty) = true then none else some (partK (recN n) "number" [])).toList = ([] : List D) := rfl
    rw [ht, List.append_nil]
    simp only [bodyL, h6, row_e0, zer', sCnt, fnD, startD, endK, sRet, sRetN, sSeq, seqK, sIf, sAsg, sDrop, sNil, liftX, tgN, sFor, sOwn1, sOwn2, optK, putK2, sAsgO, sRetO, isRT, dAnd, dOr, dIf, bnd_e, dOp, dUn, dAll, dCons, dNil, ret_ap, dVar, getS, lift_e, lift_n, dC, dTst, isBl, dCall, up, tAndD, tOrD, tNotD, dItems, itemsD, dRange, dMt, dLc, rowD, tupD, truD, notD, tyIs, List.map_cons, List.map_nil, List.length_cons, List.length_nil, List.cons_append, List.nil_append, List.replicate_succ, List.replicate_zero, List.getElem?_cons_zero, List.getElem?_cons_succ, List.set_cons_zero, List.set_cons_succ, Option.join_some, Option.join_none, Option.map_some, Option.map_none, Option.bind_some, Option.bind_none, Nat.reduceAdd, Nat.reduceSub, Nat.zero_add, if_true, if_false, ite_true, ite_false, reduceIte, Bool.false_eq_true, Bool.true_eq_false, eq_self_iff_true]
  · have hem : s.isEmpty = false := by cases s with | nil => exact absurd rfl hne | cons a s => rfl
    rw [hem, if_neg Bool.false_ne_true]
    have re := row_e1 hne
    have e0 : partK (recN n) "number" s = .tup [.str "number", .int (minI (s.map intOf)), .int (maxI (s.map intOf))] := by
      unfold partK
      rw [if_pos rfl]
    rw [e0]
    obtain ⟨m1, m2⟩ := min_ints (fun x hx => (kw_cases (hs x hx).th (hkw x hx)).1 rfl) hne
    have happ := app6 hP (.tup [.str "number", .int (minI (s.map intOf)), .int (maxI (s.map intOf))])
    refine ⟨some (.row s), c, d, e, .inl ?_⟩
    show _ = some (Flw.next [_, some (D.row (P ++ [_])), _, _, _, _, _, _, _], ())
    generalize P ++ [D.tup [.str "number", .int (minI (s.map intOf)), .int (maxI (s.map intOf))]] = P2 at happ ⊢
    simp only [bodyL, h6, re, m1, m2, happ, zer', one', two', three', fnD, startD, endK, sRet, sRetN, sSeq, seqK, sIf, sAsg, sDrop, sNil, liftX, tgN, sFor, sOwn1, sOwn2, optK, putK2, sAsgO, sRetO, isRT, dAnd, dOr, dIf, bnd_e, dOp, dUn, dAll, dCons, dNil, ret_ap, dVar, getS, lift_e, lift_n, dC, dTst, isBl, dCall, up, tAndD, tOrD, tNotD, dItems, itemsD, dRange, dMt, dLc, rowD, tupD, truD, notD, tyIs, List.map_cons, List.map_nil, List.length_cons, List.length_nil, List.cons_append, List.nil_append, List.replicate_succ, List.replicate_zero, List.getElem?_cons_zero, List.getElem?_cons_succ, List.set_cons_zero, List.set_cons_succ, Option.join_some, Option.join_none, Option.map_some, Option.map_none, Option.bind_some, Option.bind_none, Nat.reduceAdd, Nat.reduceSub, Nat.zero_add, if_true, if_false, ite_true, ite_false, reduceIte, Bool.false_eq_true, Bool.true_eq_false, eq_self_iff_true, qj_0_2, qj_0_3, qj_0_4, lj_0, qj_1_2, qj_1_3, qj_1_4, lj_1, qj_2_2, qj_2_3, qj_2_4, lj_2, qj_3_2, qj_3_3, qj_3_4, lj_3, qj_4_2, qj_4_3, qj_4_4, lj_4, qj_5_2, qj_5_3, qj_5_4, lj_5]
theorem step_3 (L n : Nat) {xs : List D} (hx : ∀ x ∈ xs, Fw n x) (hl : xs.length * 3 ^ n ≤ 1200) (P : List D) (hP : P.length ≤ 6) (a b c d e : Option D) (hk : ∀ x ∈ xs, (den (L + 1))._law_kind [x] () = .ok (.int (lk x)) ())
    (ih1 : ∀ m, n = m + 1 → ∀ ys : List D, (∀ y ∈ ys, Fw m y) → ys.length * 3 ^ m ≤ 1200 → (den (L + 1))._law_least [.row ys] () = .ok (least m ys) ()) (ih2 : ∀ m, n = m + 1 → ∀ ys : List D, (∀ y ∈ ys, Fw m y) → ys.length * 3 ^ m ≤ 1200 → (den L)._law_least [.row ys] () = .ok (least m ys) ()) :
    ∃ b' c' d' e', (bodyL (L + 1) [some (.row xs), some (.row P), some (.int 3), b, c, d, e, none, none] () = some (.next [some (.row xs), some (.row (P ++ (partO (recN n) xs "word").toList)), some (.int 3), b', c', d', e', none, none], ()) ∨ bodyL (L + 1) [some (.row xs), some (.row P), some (.int 3), b, c, d, e, none, none] () = some (.cnt [some (.row xs), some (.row (P ++ (partO (recN n) xs "word").toList)), some (.int 3), b', c', d', e', none, none], ())) := by
  have h6 := body_some (L + 1) xs P 3 "word" c d e b hk (fun x hx' => lk_3 (hx x hx').th)
  have hs : ∀ x ∈ selK "word" xs, Fw n x := fun x hx' => hx x (sel_mem.mp hx').1
  have hkw : ∀ x ∈ selK "word" xs, kw x = "word" := fun x hx' => (sel_mem.mp hx').2
  have hsl := sel_len "word" xs
  have hp := pow3 n
  have hsz : (selK "word" xs).length * 3 ^ n ≤ 1200 := Nat.le_trans (Nat.mul_le_mul_right _ hsl) hl
  have hsz1 : (selK "word" xs).length ≤ 1200 := Nat.le_trans (by have := Nat.mul_le_mul_left (selK "word" xs).length hp; omega) hsz
  have wne : ∀ (a b : Str), (decide (a = b)) = false → ¬ a = b := fun a b h => of_decide_eq_false h
  have hpo : partO (recN n) xs "word" = if (selK "word" xs).isEmpty = true then none else some (partK (recN n) "word" (selK "word" xs)) := rfl
  rw [hpo]
  generalize selK "word" xs = s at h6 hs hkw hsl hsz hsz1 ⊢
  by_cases hne : s = []
  · subst hne
    refine ⟨some (.row []), c, d, e, .inr ?_⟩
    have ht : (if (([] : List D).isEmpty) = true then none else some (partK (recN n) "word" [])).toList = ([] : List D) := rfl
    rw [ht, List.append_nil]
    simp only [bodyL, h6, row_e0, zer', sCnt, fnD, startD, endK, sRet, sRetN, sSeq, seqK, sIf, sAsg, sDrop, sNil, liftX, tgN, sFor, sOwn1, sOwn2, optK, putK2, sAsgO, sRetO, isRT, dAnd, dOr, dIf, bnd_e, dOp, dUn, dAll, dCons, dNil, ret_ap, dVar, getS, lift_e, lift_n, dC, dTst, isBl, dCall, up, tAndD, tOrD, tNotD, dItems, itemsD, dRange, dMt, dLc, rowD, tupD, truD, notD, tyIs, List.map_cons, List.map_nil, List.length_cons, List.length_nil, List.cons_append, List.nil_append, List.replicate_succ, List.replicate_zero, List.getElem?_cons_zero, List.getElem?_cons_succ, List.set_cons_zero, List.set_cons_succ, Option.join_some, Option.join_none, Option.map_some, Option.map_none, Option.bind_some, Option.bind_none, Nat.reduceAdd, Nat.reduceSub, Nat.zero_add, if_true, if_false, ite_true, ite_false, reduceIte, Bool.false_eq_true, Bool.true_eq_false, eq_self_iff_true]
  · have hem : s.isEmpty = false := by cases s with | nil => exact absurd rfl hne | cons a s => rfl
    rw [hem, if_neg Bool.false_ne_true]
    have re := row_e1 hne
    have e0 : partK (recN n) "word" s = .tup [.str "word", .int (maxI (s.map lenOf))] := by
      unfold partK
      rw [if_neg (wne _ _ (by kernel_rfl)), if_pos rfl]
    rw [e0]
    have h7 : lcA (tgN 8) dYes (dAll lenD (dCons (dVar 8) dNil)) [some (.row xs), some (.row P), some (.int 3), some (.row s), c, d, e, none, none] [] s () = .ok (.row ((s.map lenOf).map D.int)) () := by
      refine lcA_int lenOf s fun x hx => ?_
      obtain ⟨y, rfl⟩ := (kw_cases (hs x hx).th (hkw x hx)).2.1 rfl
      simp only [len_str, lenOf, fnD, startD, endK, sRet, sRetN, sSeq, seqK, sIf, sAsg, sDrop, sNil, liftX, tgN, sFor, sOwn1, sOwn2, optK, putK2, sAsgO, sRetO, isRT, dAnd, dOr, dIf, bnd_e, dOp, dUn, dAll, dCons, dNil, ret_ap, dVar, getS, lift_e, lift_n, dC, dTst, isBl, dCall, up, tAndD, tOrD, tNotD, dItems, itemsD, dRange, dMt, dLc, rowD, tupD, truD, notD, tyIs, List.map_cons, List.map_nil, List.length_cons, List.length_nil, List.cons_append, List.nil_append, List.replicate_succ, List.replicate_zero, List.getElem?_cons_zero, List.getElem?_cons_succ, List.set_cons_zero, List.set_cons_succ, Option.join_some, Option.join_none, Option.map_some, Option.map_none, Option.bind_some, Option.bind_none, Nat.reduceAdd, Nat.reduceSub, Nat.zero_add, if_true, if_false, ite_true, ite_false, reduceIte, Bool.false_eq_true, Bool.true_eq_false, eq_self_iff_true]
    obtain ⟨m1, m2⟩ := min_lens (s.map lenOf) (fun z => hne (List.map_eq_nil_iff.mp z))
    have happ := app6 hP (.tup [.str "word", .int (maxI (s.map lenOf))])
    refine ⟨some (.row s), c, d, e, .inl ?_⟩
    show _ = some (Flw.next [_, some (D.row (P ++ [_])), _, _, _, _, _, _, _], ())
    generalize P ++ [D.tup [.str "word", .int (maxI (s.map lenOf))]] = P2 at happ ⊢
    simp only [bodyL, h6, re, h7, m2, happ, zer', one', two', three', fnD, startD, endK, sRet, sRetN, sSeq, seqK, sIf, sAsg, sDrop, sNil, liftX, tgN, sFor, sOwn1, sOwn2, optK, putK2, sAsgO, sRetO, isRT, dAnd, dOr, dIf, bnd_e, dOp, dUn, dAll, dCons, dNil, ret_ap, dVar, getS, lift_e, lift_n, dC, dTst, isBl, dCall, up, tAndD, tOrD, tNotD, dItems, itemsD, dRange, dMt, dLc, rowD, tupD, truD, notD, tyIs, List.map_cons, List.map_nil, List.length_cons, List.length_nil, List.cons_append, List.nil_append, List.replicate_succ, List.replicate_zero, List.getElem?_cons_zero, List.getElem?_cons_succ, List.set_cons_zero, List.set_cons_succ, Option.join_some, Option.join_none, Option.map_some, Option.map_none, Option.bind_some, Option.bind_none, Nat.reduceAdd, Nat.reduceSub, Nat.zero_add, if_true, if_false, ite_true, ite_false, reduceIte, Bool.false_eq_true, Bool.true_eq_false, eq_self_iff_true, qj_0_2, qj_0_3, qj_0_4, lj_0, qj_1_2, qj_1_3, qj_1_4, lj_1, qj_2_2, qj_2_3, qj_2_4, lj_2, qj_3_2, qj_3_3, qj_3_4, lj_3, qj_4_2, qj_4_3, qj_4_4, lj_4, qj_5_2, qj_5_3, qj_5_4, lj_5]
theorem step_4 (L n : Nat) {xs : List D} (hx : ∀ x ∈ xs, Fw n x) (hl : xs.length * 3 ^ n ≤ 1200) (P : List D) (hP : P.length ≤ 6) (a b c d e : Option D) (hk : ∀ x ∈ xs, (den (L + 1))._law_kind [x] () = .ok (.int (lk x)) ())
    (ih1 : ∀ m, n = m + 1 → ∀ ys : List D, (∀ y ∈ ys, Fw m y) → ys.length * 3 ^ m ≤ 1200 → (den (L + 1))._law_least [.row ys] () = .ok (least m ys) ()) (ih2 : ∀ m, n = m + 1 → ∀ ys : List D, (∀ y ∈ ys, Fw m y) → ys.length * 3 ^ m ≤ 1200 → (den L)._law_least [.row ys] () = .ok (least m ys) ()) :
    ∃ b' c' d' e', (bodyL (L + 1) [some (.row xs), some (.row P), some (.int 4), b, c, d, e, none, none] () = some (.next [some (.row xs), some (.row (P ++ (partO (recN n) xs "row").toList)), some (.int 4), b', c', d', e', none, none], ()) ∨ bodyL (L + 1) [some (.row xs), some (.row P), some (.int 4), b, c, d, e, none, none] () = some (.cnt [some (.row xs), some (.row (P ++ (partO (recN n) xs "row").toList)), some (.int 4), b', c', d', e', none, none], ())) := by
  have h6 := body_some (L + 1) xs P 4 "row" c d e b hk (fun x hx' => lk_4 (hx x hx').th)
  have hs : ∀ x ∈ selK "row" xs, Fw n x := fun x hx' => hx x (sel_mem.mp hx').1
  have hkw : ∀ x ∈ selK "row" xs, kw x = "row" := fun x hx' => (sel_mem.mp hx').2
  have hsl := sel_len "row" xs
  have hp := pow3 n
  have hsz : (selK "row" xs).length * 3 ^ n ≤ 1200 := Nat.le_trans (Nat.mul_le_mul_right _ hsl) hl
  have hsz1 : (selK "row" xs).length ≤ 1200 := Nat.le_trans (by have := Nat.mul_le_mul_left (selK "row" xs).length hp; omega) hsz
  have wne : ∀ (a b : Str), (decide (a = b)) = false → ¬ a = b := fun a b h => of_decide_eq_false h
  have hpo : partO (recN n) xs "row" = if (selK "row" xs).isEmpty = true then none else some (partK (recN n) "row" (selK "row" xs)) := rfl
  rw [hpo]
  generalize selK "row" xs = s at h6 hs hkw hsl hsz hsz1 ⊢
  by_cases hne : s = []
  · subst hne
    refine ⟨some (.row []), c, d, e, .inr ?_⟩
    have ht : (if (([] : List D).isEmpty) = true then none else some (partK (recN n) "row" [])).toList = ([] : List D) := rfl
    rw [ht, List.append_nil]
    simp only [bodyL, h6, row_e0, zer', sCnt, fnD, startD, endK, sRet, sRetN, sSeq, seqK, sIf, sAsg, sDrop, sNil, liftX, tgN, sFor, sOwn1, sOwn2, optK, putK2, sAsgO, sRetO, isRT, dAnd, dOr, dIf, bnd_e, dOp, dUn, dAll, dCons, dNil, ret_ap, dVar, getS, lift_e, lift_n, dC, dTst, isBl, dCall, up, tAndD, tOrD, tNotD, dItems, itemsD, dRange, dMt, dLc, rowD, tupD, truD, notD, tyIs, List.map_cons, List.map_nil, List.length_cons, List.length_nil, List.cons_append, List.nil_append, List.replicate_succ, List.replicate_zero, List.getElem?_cons_zero, List.getElem?_cons_succ, List.set_cons_zero, List.set_cons_succ, Option.join_some, Option.join_none, Option.map_some, Option.map_none, Option.bind_some, Option.bind_none, Nat.reduceAdd, Nat.reduceSub, Nat.zero_add, if_true, if_false, ite_true, ite_false, reduceIte, Bool.false_eq_true, Bool.true_eq_false, eq_self_iff_true]
  · have hem : s.isEmpty = false := by cases s with | nil => exact absurd rfl hne | cons a s => rfl
    rw [hem, if_neg Bool.false_ne_true]
    have re := row_e1 hne
    have e0 : partK (recN n) "row" s = .tup [.str "row", recN n (s.flatMap rowOf), .int (minI (s.map lenOf)), .int (maxI (s.map lenOf))] := by
      unfold partK
      rw [if_neg (wne _ _ (by kernel_rfl)), if_neg (wne _ _ (by kernel_rfl)), if_pos rfl]
    rw [e0]
    have hr : ∀ x ∈ s, ∃ xs, x = .row xs := fun x hx => (kw_cases (hs x hx).th (hkw x hx)).2.2.1 rfl
    cases n with
    | zero =>
      obtain ⟨x, hx'⟩ := List.exists_mem_of_ne_nil _ hne
      obtain ⟨ys, rfl⟩ := hr x hx'
      exact (hs _ hx').elim
    | succ m =>
      have hfl := flat_len hs hr
      have h3 : 3 ^ (m + 1) = 3 * 3 ^ m := by rw [Nat.pow_succ, Nat.mul_comm]
      have hin : (s.flatMap rowOf).length * 3 ^ m ≤ 1200 := by
        have h4 := Nat.mul_le_mul_right (3 ^ m) hfl
        have h5 : 3 * s.length * 3 ^ m = s.length * 3 ^ (m + 1) := by rw [h3, Nat.mul_comm 3 s.length, Nat.mul_assoc]
        omega
      have hR := ih1 m rfl (s.flatMap rowOf) (flat_fw hs hr) hin
      have hR : (den (L + 1))._law_least [.row (s.flatMap rowOf)] () = .ok (recN (m + 1) (s.flatMap rowOf)) () := hR
      obtain ⟨d', hwl⟩ := within_loop hr (by omega) (some (.row xs)) (some (.row P)) (some (.int 4)) e d
      have h7 : lcA (tgN 5) dYes (dAll lenD (dCons (dVar 5) dNil)) [some (.row xs), some (.row P), some (.int 4), some (.row s), some (.row (s.flatMap rowOf)), d', e, none, none] [] s () = .ok (.row ((s.map lenOf).map D.int)) () := by
        refine lcA_int lenOf s fun x hx => ?_
        obtain ⟨y, rfl⟩ := hr x hx
        simp only [len_row, lenOf, fnD, startD, endK, sRet, sRetN, sSeq, seqK, sIf, sAsg, sDrop, sNil, liftX, tgN, sFor, sOwn1, sOwn2, optK, putK2, sAsgO, sRetO, isRT, dAnd, dOr, dIf, bnd_e, dOp, dUn, dAll, dCons, dNil, ret_ap, dVar, getS, lift_e, lift_n, dC, dTst, isBl, dCall, up, tAndD, tOrD, tNotD, dItems, itemsD, dRange, dMt, dLc, rowD, tupD, truD, notD, tyIs, List.map_cons, List.map_nil, List.length_cons, List.length_nil, List.cons_append, List.nil_append, List.replicate_succ, List.replicate_zero, List.getElem?_cons_zero, List.getElem?_cons_succ, List.set_cons_zero, List.set_cons_succ, Option.join_some, Option.join_none, Option.map_some, Option.map_none, Option.bind_some, Option.bind_none, Nat.reduceAdd, Nat.reduceSub, Nat.zero_add, if_true, if_false, ite_true, ite_false, reduceIte, Bool.false_eq_true, Bool.true_eq_false, eq_self_iff_true]
      obtain ⟨m1, m2⟩ := min_lens (s.map lenOf) (fun z => hne (List.map_eq_nil_iff.mp z))
      have happ := app6 hP (.tup [.str "row", recN (m + 1) (s.flatMap rowOf), .int (minI (s.map lenOf)), .int (maxI (s.map lenOf))])
      refine ⟨some (.row s), some (.row (s.flatMap rowOf)), d', some (.row ((s.map lenOf).map D.int)), .inl ?_⟩
      show _ = some (Flw.next [_, some (D.row (P ++ [_])), _, _, _, _, _, _, _], ())
      generalize P ++ [D.tup [.str "row", recN (m + 1) (s.flatMap rowOf), .int (minI (s.map lenOf)), .int (maxI (s.map lenOf))]] = P2 at happ ⊢
      generalize hB : (sAsg (tgN 4) (dOp addD (dVar 4) (dVar 5)) : Sl → Mo Unit) = B at hwl
      simp only [bodyL, hB]
      simp only [h6, re, hwl, h7, hR, m1, m2, happ, zer', one', two', three', four', fnD, startD, endK, sRet, sRetN, sSeq, seqK, sIf, sAsg, sDrop, sNil, liftX, tgN, sFor, sOwn1, sOwn2, optK, putK2, sAsgO, sRetO, isRT, dAnd, dOr, dIf, bnd_e, dOp, dUn, dAll, dCons, dNil, ret_ap, dVar, getS, lift_e, lift_n, dC, dTst, isBl, dCall, up, tAndD, tOrD, tNotD, dItems, itemsD, dRange, dMt, dLc, rowD, tupD, truD, notD, tyIs, List.map_cons, List.map_nil, List.length_cons, List.length_nil, List.cons_append, List.nil_append, List.replicate_succ, List.replicate_zero, List.getElem?_cons_zero, List.getElem?_cons_succ, List.set_cons_zero, List.set_cons_succ, Option.join_some, Option.join_none, Option.map_some, Option.map_none, Option.bind_some, Option.bind_none, Nat.reduceAdd, Nat.reduceSub, Nat.zero_add, if_true, if_false, ite_true, ite_false, reduceIte, Bool.false_eq_true, Bool.true_eq_false, eq_self_iff_true, qj_0_2, qj_0_3, qj_0_4, lj_0, qj_1_2, qj_1_3, qj_1_4, lj_1, qj_2_2, qj_2_3, qj_2_4, lj_2, qj_3_2, qj_3_3, qj_3_4, lj_3, qj_4_2, qj_4_3, qj_4_4, lj_4, qj_5_2, qj_5_3, qj_5_4, lj_5]
theorem step_5 (L n : Nat) (h0 : L = 0 → False) {xs : List D} (hx : ∀ x ∈ xs, Fw n x) (hl : xs.length * 3 ^ n ≤ 1200) (P : List D) (hP : P.length ≤ 6) (a b c d e : Option D) (hk : ∀ x ∈ xs, (den (L + 1))._law_kind [x] () = .ok (.int (lk x)) ())
    (ih1 : ∀ m, n = m + 1 → ∀ ys : List D, (∀ y ∈ ys, Fw m y) → ys.length * 3 ^ m ≤ 1200 → (den (L + 1))._law_least [.row ys] () = .ok (least m ys) ()) (ih2 : ∀ m, n = m + 1 → ∀ ys : List D, (∀ y ∈ ys, Fw m y) → ys.length * 3 ^ m ≤ 1200 → (den L)._law_least [.row ys] () = .ok (least m ys) ()) :
    ∃ b' c' d' e', (bodyL (L + 1) [some (.row xs), some (.row P), some (.int 5), b, c, d, e, none, none] () = some (.next [some (.row xs), some (.row (P ++ (partO (recN n) xs "table").toList)), some (.int 5), b', c', d', e', none, none], ()) ∨ bodyL (L + 1) [some (.row xs), some (.row P), some (.int 5), b, c, d, e, none, none] () = some (.cnt [some (.row xs), some (.row (P ++ (partO (recN n) xs "table").toList)), some (.int 5), b', c', d', e', none, none], ())) := by
  have h6 := body_some (L + 1) xs P 5 "table" c d e b hk (fun x hx' => lk_5 (hx x hx').th)
  have hs : ∀ x ∈ selK "table" xs, Fw n x := fun x hx' => hx x (sel_mem.mp hx').1
  have hkw : ∀ x ∈ selK "table" xs, kw x = "table" := fun x hx' => (sel_mem.mp hx').2
  have hsl := sel_len "table" xs
  have hp := pow3 n
  have hsz : (selK "table" xs).length * 3 ^ n ≤ 1200 := Nat.le_trans (Nat.mul_le_mul_right _ hsl) hl
  have hsz1 : (selK "table" xs).length ≤ 1200 := Nat.le_trans (by have := Nat.mul_le_mul_left (selK "table" xs).length hp; omega) hsz
  have wne : ∀ (a b : Str), (decide (a = b)) = false → ¬ a = b := fun a b h => of_decide_eq_false h
  have hpo : partO (recN n) xs "table" = if (selK "table" xs).isEmpty = true then none else some (partK (recN n) "table" (selK "table" xs)) := rfl
  rw [hpo]
  generalize selK "table" xs = s at h6 hs hkw hsl hsz hsz1 ⊢
  by_cases hne : s = []
  · subst hne
    refine ⟨some (.row []), c, d, e, .inr ?_⟩
    have ht : (if (([] : List D).isEmpty) = true then none else some (partK (recN n) "table" [])).toList = ([] : List D) := rfl
    rw [ht, List.append_nil]
    simp only [bodyL, h6, row_e0, zer', sCnt, fnD, startD, endK, sRet, sRetN, sSeq, seqK, sIf, sAsg, sDrop, sNil, liftX, tgN, sFor, sOwn1, sOwn2, optK, putK2, sAsgO, sRetO, isRT, dAnd, dOr, dIf, bnd_e, dOp, dUn, dAll, dCons, dNil, ret_ap, dVar, getS, lift_e, lift_n, dC, dTst, isBl, dCall, up, tAndD, tOrD, tNotD, dItems, itemsD, dRange, dMt, dLc, rowD, tupD, truD, notD, tyIs, List.map_cons, List.map_nil, List.length_cons, List.length_nil, List.cons_append, List.nil_append, List.replicate_succ, List.replicate_zero, List.getElem?_cons_zero, List.getElem?_cons_succ, List.set_cons_zero, List.set_cons_succ, Option.join_some, Option.join_none, Option.map_some, Option.map_none, Option.bind_some, Option.bind_none, Nat.reduceAdd, Nat.reduceSub, Nat.zero_add, if_true, if_false, ite_true, ite_false, reduceIte, Bool.false_eq_true, Bool.true_eq_false, eq_self_iff_true]
  · have hem : s.isEmpty = false := by cases s with | nil => exact absurd rfl hne | cons a s => rfl
    rw [hem, if_neg Bool.false_ne_true]
    have re := row_e1 hne
    have e0 : partK (recN n) "table" s = .tup [.str "table", .tup ((entsA (recN n) s).map entD), .non] := by
      unfold partK
      rw [if_neg (wne _ _ (by kernel_rfl)), if_neg (wne _ _ (by kernel_rfl)), if_neg (wne _ _ (by kernel_rfl)), if_pos rfl]
    rw [e0]
    have hr : ∀ x ∈ s, ∃ kvs, x = .tab kvs := fun x hx => (kw_cases (hs x hx).th (hkw x hx)).2.2.2 rfl
    cases n with
    | zero =>
      obtain ⟨x, hx'⟩ := List.exists_mem_of_ne_nil _ hne
      obtain ⟨ys, rfl⟩ := hr x hx'
      exact (hs _ hx').elim
    | succ m =>
      have hkl := keys_len hs hr
      have h3 : 3 ^ (m + 1) = 3 * 3 ^ m := by rw [Nat.pow_succ, Nat.mul_comm]
      have hp3 := pow3 m
      have h4 : s.length * 3 ^ m ≤ 1200 := Nat.le_trans (Nat.mul_le_mul_left _ (by omega)) hsz
      have h7 : (den (L + 1))._law_entries [.row s] () = .ok (.tup ((entsA (recN (m + 1)) s).map entD)) () := by
        cases L with
        | zero => exact (h0 rfl).elim
        | succ L => exact ents_law L (s := s) (fun x hx => by
            obtain ⟨kvs, rfl⟩ := hr x hx
            exact ⟨kvs, rfl, (fw_tab (hs _ hx)).1, kS_nd (fw_tab (hs _ hx)).1 (hs _ hx).2.1⟩) (by omega) (by omega) (recN (m + 1)) (fun x _ => ih2 m rfl (valsA s x) (vals_fw hs hr x).1 (Nat.le_trans (Nat.mul_le_mul_right _ (vals_fw hs hr x).2) h4))
      have happ := app6 hP (.tup [.str "table", .tup ((entsA (recN (m + 1)) s).map entD), .non])
      refine ⟨some (.row s), c, d, e, .inl ?_⟩
      show _ = some (Flw.next [_, some (D.row (P ++ [_])), _, _, _, _, _, _, _], ())
      generalize P ++ [D.tup [.str "table", .tup ((entsA (recN (m + 1)) s).map entD), .non]] = P2 at happ ⊢
      simp only [bodyL, h6, re, h7, happ, zer', one', two', three', fnD, startD, endK, sRet, sRetN, sSeq, seqK, sIf, sAsg, sDrop, sNil, liftX, tgN, sFor, sOwn1, sOwn2, optK, putK2, sAsgO, sRetO, isRT, dAnd, dOr, dIf, bnd_e, dOp, dUn, dAll, dCons, dNil, ret_ap, dVar, getS, lift_e, lift_n, dC, dTst, isBl, dCall, up, tAndD, tOrD, tNotD, dItems, itemsD, dRange, dMt, dLc, rowD, tupD, truD, notD, tyIs, List.map_cons, List.map_nil, List.length_cons, List.length_nil, List.cons_append, List.nil_append, List.replicate_succ, List.replicate_zero, List.getElem?_cons_zero, List.getElem?_cons_succ, List.set_cons_zero, List.set_cons_succ, Option.join_some, Option.join_none, Option.map_some, Option.map_none, Option.bind_some, Option.bind_none, Nat.reduceAdd, Nat.reduceSub, Nat.zero_add, if_true, if_false, ite_true, ite_false, reduceIte, Bool.false_eq_true, Bool.true_eq_false, eq_self_iff_true, qj_0_2, qj_0_3, qj_0_4, lj_0, qj_1_2, qj_1_3, qj_1_4, lj_1, qj_2_2, qj_2_3, qj_2_4, lj_2, qj_3_2, qj_3_3, qj_3_4, lj_3, qj_4_2, qj_4_3, qj_4_4, lj_4, qj_5_2, qj_5_3, qj_5_4, lj_5]
end Nw
set_option Elab.async false
set_option linter.all false
set_option maxRecDepth 100000
set_option maxHeartbeats 4000000
namespace Nw
open PySem PySem.Spec L2
theorem take_j (part : Str → Option D) (j : Nat) (w : Str) (h : KW[j]? = some w) : (KW.take (j + 1)).filterMap part = (KW.take j).filterMap part ++ (part w).toList := by
  rw [List.take_succ, h, List.filterMap_append]
  congr 1
theorem range_pre {j : Nat} {x : D} {suf : List D} (h : ((List.range 6).map fun (i : Nat) => D.int (i : Int)) = ((List.range j).map fun (i : Nat) => D.int (i : Int)) ++ x :: suf) : j < 6 ∧ x = .int (j : Int) := by
  have hl := congrArg List.length h
  rw [List.length_map, List.length_range, List.length_append, List.length_map, List.length_range, List.length_cons] at hl
  have hj : j < 6 := by omega
  refine ⟨hj, ?_⟩
  have h1 : (((List.range 6).map fun (i : Nat) => D.int (i : Int)))[j]? = some x := by
    rw [h, List.getElem?_append_right (by rw [List.length_map, List.length_range]; exact Nat.le_refl _), List.length_map, List.length_range, Nat.sub_self]; rfl
  rw [List.getElem?_map, List.getElem?_range hj] at h1
  exact (Option.some.inj h1).symm
theorem law_main (n k : Nat) (xs : List D) (hx : ∀ x ∈ xs, Fw n x) (hl : xs.length * 3 ^ n ≤ 1200)
    (ih : ∀ k m, n = m + 1 → ∀ ys : List D, (∀ y ∈ ys, Fw m y) → ys.length * 3 ^ m ≤ 1200 → (den (k + 2 * m + 3))._law_least [.row ys] () = .ok (least m ys) ()) : (den (k + 2 * n + 3))._law_least [.row xs] () = .ok (least n xs) () := by
  have hk : ∀ x ∈ xs, (den (k + 2 * n + 1 + 1))._law_kind [x] () = .ok (.int (lk x)) () := fun x hx' => lk_eq (hx x hx').th _
  have ih1 : ∀ m, n = m + 1 → ∀ ys : List D, (∀ y ∈ ys, Fw m y) → ys.length * 3 ^ m ≤ 1200 → (den (k + 2 * n + 1 + 1))._law_least [.row ys] () = .ok (least m ys) () := fun m e ys hy hl2 => by
    have h := ih (k + 1) m e ys hy hl2
    rw [show k + 1 + 2 * m + 3 = k + 2 * n + 1 + 1 from by omega] at h
    exact h
  have ih2 : ∀ m, n = m + 1 → ∀ ys : List D, (∀ y ∈ ys, Fw m y) → ys.length * 3 ^ m ≤ 1200 → (den (k + 2 * n + 1))._law_least [.row ys] () = .ok (least m ys) () := fun m e ys hy hl2 => by
    have h := ih k m e ys hy hl2
    rw [show k + 2 * m + 3 = k + 2 * n + 1 from by omega] at h
    exact h
  obtain ⟨r', hl1, j, a, b, c, d, e, hj6, hpre, rfl⟩ := forL_inv (tg := tgN 2) (s := ()) (body := bodyL (k + 2 * n + 1 + 1)) (fun pre r => ∃ (j : Nat) (a b c d e : Option D), j ≤ 6 ∧ pre = ((List.range j).map fun (i : Nat) => D.int (i : Int)) ∧ r = [some (.row xs), some (.row ((KW.take j).filterMap (partO (recN n) xs))), a, b, c, d, e, none, none]) ((List.range 6).map fun (i : Nat) => D.int (i : Int)) (fun pre x suf r hx' ⟨j, a, b, c, d, e, _, hpre, hr⟩ => by
    subst hr hpre
    obtain ⟨hj, rfl⟩ := range_pre hx'
    have hP : ((KW.take j).filterMap (partO (recN n) xs)).length ≤ 6 := by
      have h1 := List.length_filterMap_le (partO (recN n) xs) (KW.take j)
      rw [List.length_take] at h1
      have h2 : KW.length = 6 := rfl
      omega
    have hpre2 : ((List.range j).map fun (i : Nat) => D.int (i : Int)) ++ [.int (j : Int)] = ((List.range (j + 1)).map fun (i : Nat) => D.int (i : Int)) := by
      rw [List.range_succ, List.map_append]; rfl
    have fin : ∀ (w : Str), KW[j]? = some w → (∃ b' c' d' e', (bodyL (k + 2 * n + 1 + 1) [some (.row xs), some (.row ((KW.take j).filterMap (partO (recN n) xs))), some (.int (j : Int)), b, c, d, e, none, none] () = some (.next [some (.row xs), some (.row ((KW.take j).filterMap (partO (recN n) xs) ++ (partO (recN n) xs w).toList)), some (.int (j : Int)), b', c', d', e', none, none], ()) ∨ bodyL (k + 2 * n + 1 + 1) [some (.row xs), some (.row ((KW.take j).filterMap (partO (recN n) xs))), some (.int (j : Int)), b, c, d, e, none, none] () = some (.cnt [some (.row xs), some (.row ((KW.take j).filterMap (partO (recN n) xs) ++ (partO (recN n) xs w).toList)), some (.int (j : Int)), b', c', d', e', none, none], ()))) → ∃ r' r'', tgN 2 (.int (j : Int)) [some (.row xs), some (.row ((KW.take j).filterMap (partO (recN n) xs))), a, b, c, d, e, none, none] = some r' ∧ (bodyL (k + 2 * n + 1 + 1) r' () = some (.next r'', ()) ∨ bodyL (k + 2 * n + 1 + 1) r' () = some (.cnt r'', ())) ∧ ∃ (j' : Nat) (a b c d e : Option D), j' ≤ 6 ∧ ((List.range j).map fun (i : Nat) => D.int (i : Int)) ++ [.int (j : Int)] = ((List.range j').map fun (i : Nat) => D.int (i : Int)) ∧ r'' = [some (.row xs), some (.row ((KW.take j').filterMap (partO (recN n) xs))), a, b, c, d, e, none, none] := fun w hw ⟨b', c', d', e', h⟩ =>
      ⟨_, _, rfl, h, j + 1, _, b', c', d', e', by omega, hpre2, by rw [take_j _ j w hw]⟩
    rcases (show j = 0 ∨ j = 1 ∨ j = 2 ∨ j = 3 ∨ j = 4 ∨ j = 5 from by omega) with rfl | rfl | rfl | rfl | rfl | rfl
    · exact fin _ rfl (step_0 _ n hx hl _ hP a b c d e hk ih1 ih2)
    · exact fin _ rfl (step_1 _ n hx hl _ hP a b c d e hk ih1 ih2)
    · exact fin _ rfl (step_2 _ n hx hl _ hP a b c d e hk ih1 ih2)
    · exact fin _ rfl (step_3 _ n hx hl _ hP a b c d e hk ih1 ih2)
    · exact fin _ rfl (step_4 _ n hx hl _ hP a b c d e hk ih1 ih2)
    · exact fin _ rfl (step_5 _ n (fun z => by omega) hx hl _ hP a b c d e hk ih1 ih2)) ((List.range 6).map fun (i : Nat) => D.int (i : Int)) [] [some (.row xs), some (.row []), none, none, none, none, none, none, none] rfl ⟨0, none, none, none, none, none, Nat.zero_le _, rfl, rfl⟩
  have hj : j = 6 := by
    have h1 := congrArg List.length hpre
    rw [List.length_map, List.length_range, List.length_map, List.length_range] at h1
    exact h1.symm
  subst hj
  have hKW : KW.take 6 = KW := rfl
  rw [hKW] at hl1
  rw [least_eq]
  show fnD 9 (b__law_least (den (k + 2 * n + 1 + 1))) [.row xs] () = _
  have hb : b__law_least (den (k + 2 * n + 1 + 1)) = sSeq (sAsgO 1 (dAll rowD dNil)) (sSeq (sFor (dRange (dCons (dC (.int 6)) dNil)) (tgN 2) (bodyL (k + 2 * n + 1 + 1))) (sRet (dIf (dTst (dOp eqD (dAll lenD (dCons (dVar 1) dNil)) (dC (.int 1))) isBl) (dOp ixD (dVar 1) (dC (.int 0))) (dAll tupD (dCons (dC (.str "or")) (dCons (dAll tupleD (dCons (dVar 1) dNil)) dNil)))))) := rfl
  rw [hb]
  generalize bodyL (k + 2 * n + 1 + 1) = B at hl1
  generalize KW.filterMap (partO (recN n) xs) = P at hl1 ⊢
  have hr6 : rngD [.int 6] = some ((List.range 6).map fun (j : Nat) => D.int (j : Int)) := rng_int (by decide) (by decide)
  have htup : tupleD [.row P] = some (.tup P) := rfl
  have hlen : lenD [.row P] = some (.int (P.length : Int)) := rfl
  generalize ((List.range 6).map fun (j : Nat) => D.int (j : Int)) = WS at hl1 hr6
  by_cases h1 : P.length = 1
  · have hq : eqD (.int (P.length : Int)) (.int 1) = some (.bl true) := by rw [eqD_int, decide_eq_true (by omega)]
    match P, h1 with
    | [p], _ =>
      have hi : ixD (.row [p]) (.int 0) = some p := by
        show atI _ _ = _
        rw [show (0 : Int) = ((0 : Nat) : Int) from rfl, atI_nat _ _ (by simp)]; rfl
      have hw : wrap [p] = p := rfl
      rw [hw]
      generalize [p] = P at hl1 hlen hq hi
      simp only [hr6, hl1, hlen, hq, hi, zer', fnD, startD, endK, sRet, sRetN, sSeq, seqK, sIf, sAsg, sDrop, sNil, liftX, tgN, sFor, sOwn1, sOwn2, optK, putK2, sAsgO, sRetO, isRT, dAnd, dOr, dIf, bnd_e, dOp, dUn, dAll, dCons, dNil, ret_ap, dVar, getS, lift_e, lift_n, dC, dTst, isBl, dCall, up, tAndD, tOrD, tNotD, dItems, itemsD, dRange, dMt, dLc, rowD, tupD, truD, notD, tyIs, List.map_cons, List.map_nil, List.length_cons, List.length_nil, List.cons_append, List.nil_append, List.replicate_succ, List.replicate_zero, List.getElem?_cons_zero, List.getElem?_cons_succ, List.set_cons_zero, List.set_cons_succ, Option.join_some, Option.join_none, Option.map_some, Option.map_none, Option.bind_some, Option.bind_none, Nat.reduceAdd, Nat.reduceSub, Nat.zero_add, if_true, if_false, ite_true, ite_false, reduceIte, Bool.false_eq_true, Bool.true_eq_false, eq_self_iff_true]
  · have hq : eqD (.int (P.length : Int)) (.int 1) = some (.bl false) := by rw [eqD_int, decide_eq_false (by omega)]
    have hw : wrap P = .tup [.str "or", .tup P] := by
      match P, h1 with
      | [], _ => rfl
      | _ :: _ :: _, _ => rfl
    rw [hw]
    simp only [hr6, hl1, hlen, hq, htup, two', zer', fnD, startD, endK, sRet, sRetN, sSeq, seqK, sIf, sAsg, sDrop, sNil, liftX, tgN, sFor, sOwn1, sOwn2, optK, putK2, sAsgO, sRetO, isRT, dAnd, dOr, dIf, bnd_e, dOp, dUn, dAll, dCons, dNil, ret_ap, dVar, getS, lift_e, lift_n, dC, dTst, isBl, dCall, up, tAndD, tOrD, tNotD, dItems, itemsD, dRange, dMt, dLc, rowD, tupD, truD, notD, tyIs, List.map_cons, List.map_nil, List.length_cons, List.length_nil, List.cons_append, List.nil_append, List.replicate_succ, List.replicate_zero, List.getElem?_cons_zero, List.getElem?_cons_succ, List.set_cons_zero, List.set_cons_succ, Option.join_some, Option.join_none, Option.map_some, Option.map_none, Option.bind_some, Option.bind_none, Nat.reduceAdd, Nat.reduceSub, Nat.zero_add, if_true, if_false, ite_true, ite_false, reduceIte, Bool.false_eq_true, Bool.true_eq_false, eq_self_iff_true]
theorem law_least_eq : ∀ (n k : Nat) (xs : List D), (∀ x ∈ xs, Fw n x) → xs.length * 3 ^ n ≤ 1200 → (den (k + 2 * n + 3))._law_least [.row xs] () = .ok (least n xs) () := by
  intro n
  induction n with
  | zero => exact fun k xs hx hl => law_main 0 k xs hx hl (fun _ m e => nomatch e)
  | succ n ih => exact fun k xs hx hl => law_main (n + 1) k xs hx hl (fun k m e ys hy hl => by cases e; exact ih k ys hy hl)
end Nw
set_option Elab.async false
set_option linter.all false
set_option maxRecDepth 100000
set_option maxHeartbeats 4000000
namespace Nw
open PySem PySem.Spec L2
/-! ### it is a shape, all of them fit -/
theorem Sh.mono {n : Nat} {d : D} (h : Sh n d) : Sh (n + 1) d := by
  induction h with
  | any => exact .any
  | none => exact .none
  | truth => exact .truth
  | number h1 h2 h3 => exact .number h1 h2 h3
  | word h1 h2 => exact .word h1 h2
  | row h1 h2 h3 _ ih => exact .row h1 h2 h3 ih
  | table h1 h2 h3 _ _ ih ihr => exact .table h1 h2 h3 ih ihr
  | or_ h1 _ ih => exact .or_ h1 ih
theorem Sh.monos {n m : Nat} {d : D} (h : Sh n d) (hm : n ≤ m) : Sh m d := by
  induction hm with
  | refl => exact h
  | step _ ih => exact ih.mono
theorem wrap_sh {n : Nat} {l : List D} (hl : l.length ≤ 100) (h : ∀ p ∈ l, Sh n p) : Sh (n + 1) (wrap l) := by
  match l, hl, h with
  | [], hl, h => exact .or_ hl h
  | [a], hl, h => exact (h a List.mem_cons_self).mono
  | a :: b :: l, hl, h => exact .or_ hl h
theorem wrap_ft {l : List D} {p t : D} (hp : p ∈ l) (h : Ft p t) : Ft (wrap l) t := by
  match l, hp with
  | [a], hp => rw [List.mem_singleton.mp hp] at h; exact h
  | a :: b :: l, hp => exact .or_ hp h
theorem sort_again (l : List Str) : sortS (ddS (sortS (ddS l))) = sortS (ddS l) := by
  have nd : (sortS (ddS l)).Nodup := (sortS_perm _).nodup_iff.mpr (ddS_nodup l)
  have p : (ddS (sortS (ddS l))).Perm (ddS l) := perm_of_mem (ddS_nodup _) (ddS_nodup l) fun x => by rw [ddS_mem, (sortS_perm _).mem_iff]
  exact sortS_congr p
theorem ents_keys (rec : List D → D) (s : List D) : (entsA rec s).map (·.1) = sortS (ddS (keysA s)) := by
  unfold entsA
  rw [List.map_map]
  conv => rhs; rw [← List.map_id (sortS (ddS (keysA s)))]
  rfl
theorem wneS {a b : Str} (h : (decide (a = b)) = false) : ¬ a = b := of_decide_eq_false h
theorem pk_number (rec : List D → D) (s : List D) : partK rec "number" s = .tup [.str "number", .int (minI (s.map intOf)), .int (maxI (s.map intOf))] := by
  unfold partK
  rw [if_pos rfl]
theorem pk_word (rec : List D → D) (s : List D) : partK rec "word" s = .tup [.str "word", .int (maxI (s.map lenOf))] := by
  unfold partK
  rw [if_neg (wneS (by kernel_rfl)), if_pos rfl]
theorem pk_row (rec : List D → D) (s : List D) : partK rec "row" s = .tup [.str "row", rec (s.flatMap rowOf), .int (minI (s.map lenOf)), .int (maxI (s.map lenOf))] := by
  unfold partK
  rw [if_neg (wneS (by kernel_rfl)), if_neg (wneS (by kernel_rfl)), if_pos rfl]
theorem pk_table (rec : List D → D) (s : List D) : partK rec "table" s = .tup [.str "table", .tup ((entsA rec s).map entD), .non] := by
  unfold partK
  rw [if_neg (wneS (by kernel_rfl)), if_neg (wneS (by kernel_rfl)), if_neg (wneS (by kernel_rfl)), if_pos rfl]
theorem pk_none (rec : List D → D) (s : List D) : partK rec "none" s = .tup [.str "none"] := by
  unfold partK
  rw [if_neg (wneS (by kernel_rfl)), if_neg (wneS (by kernel_rfl)), if_neg (wneS (by kernel_rfl)), if_neg (wneS (by kernel_rfl))]
theorem pk_truth (rec : List D → D) (s : List D) : partK rec "truth" s = .tup [.str "truth"] := by
  unfold partK
  rw [if_neg (wneS (by kernel_rfl)), if_neg (wneS (by kernel_rfl)), if_neg (wneS (by kernel_rfl)), if_neg (wneS (by kernel_rfl))]
theorem fw_int {n : Nat} {i : Int} (h : Fw n (.int i)) : -7 ≤ i ∧ i ≤ 99 := by cases n <;> exact h
theorem fw_str {n : Nat} {x : Str} (h : Fw n (.str x)) : x.length ≤ 3 := by cases n <;> exact h.2
theorem part_ok (n N : Nat) {xs : List D} (hx : ∀ x ∈ xs, Fw n x) (hl : xs.length * 3 ^ n ≤ 1200) {w : Str} (hw : w ∈ KW) (hne : selK w xs ≠ [])
    (ih : ∀ m, n = m + 1 → ∀ ys : List D, (∀ y ∈ ys, Fw m y) → ys.length * 3 ^ m ≤ 1200 → Sh N (least m ys) ∧ ∀ y ∈ ys, Ft (least m ys) y) :
    Sh (N + 1) (partK (recN n) w (selK w xs)) ∧ ∀ x ∈ selK w xs, Ft (partK (recN n) w (selK w xs)) x := by
  have hs : ∀ x ∈ selK w xs, Fw n x := fun x hx' => hx x (sel_mem.mp hx').1
  have hk : ∀ x ∈ selK w xs, kw x = w := fun x hx' => (sel_mem.mp hx').2
  have hsl := sel_len w xs
  have hp := pow3 n
  have hsz : (selK w xs).length * 3 ^ n ≤ 1200 := Nat.le_trans (Nat.mul_le_mul_right _ hsl) hl
  have hsz1 : (selK w xs).length ≤ 1200 := Nat.le_trans (by have := Nat.mul_le_mul_left (selK w xs).length hp; omega) hsz
  generalize selK w xs = s at hs hk hsl hne hsz hsz1 ⊢
  simp only [KW, List.mem_cons, List.not_mem_nil, or_false] at hw
  rcases hw with rfl | rfl | rfl | rfl | rfl | rfl
  · rw [pk_none]
    refine ⟨.none, fun x hx => ?_⟩
    rw [(th_inv (hs x hx).th (hk x hx)).1 rfl]
    exact .none
  · rw [pk_truth]
    refine ⟨.truth, fun x hx => ?_⟩
    obtain ⟨b, rfl⟩ := (th_inv (hs x hx).th (hk x hx)).2.1 rfl
    exact .truth
  · rw [pk_number]
    have hi : ∀ x ∈ s, ∃ i, x = .int i := fun x hx => (kw_cases (hs x hx).th (hk x hx)).1 rfl
    have hne' : s.map intOf ≠ [] := fun z => hne (List.map_eq_nil_iff.mp z)
    obtain ⟨a1, a2⟩ := minI_mem hne'
    obtain ⟨b1, b2⟩ := maxI_mem hne'
    have bd : ∀ i ∈ s.map intOf, -7 ≤ i ∧ i ≤ 99 := fun i hi' => by
      obtain ⟨x, hx, rfl⟩ := List.mem_map.mp hi'
      obtain ⟨j, rfl⟩ := hi x hx
      exact fw_int (hs _ hx)
    have c1 := bd _ a1
    have c2 := bd _ b1
    have c3 := a2 _ b1
    refine ⟨.number (by omega) c3 (by omega), fun x hx => ?_⟩
    have hm : intOf x ∈ s.map intOf := List.mem_map_of_mem hx
    obtain ⟨j, rfl⟩ := hi x hx
    exact .number (a2 _ hm) (b2 _ hm)
  · rw [pk_word]
    have hi : ∀ x ∈ s, ∃ y, x = .str y := fun x hx => (kw_cases (hs x hx).th (hk x hx)).2.1 rfl
    have hne' : s.map lenOf ≠ [] := fun z => hne (List.map_eq_nil_iff.mp z)
    obtain ⟨b1, b2⟩ := maxI_mem hne'
    have bd : ∀ i ∈ s.map lenOf, 0 ≤ i ∧ i ≤ 3 := fun i hi' => by
      obtain ⟨x, hx, rfl⟩ := List.mem_map.mp hi'
      obtain ⟨j, rfl⟩ := hi x hx
      have h3 := fw_str (hs _ hx)
      show 0 ≤ ((j.length : Nat) : Int) ∧ ((j.length : Nat) : Int) ≤ 3
      omega
    have c2 := bd _ b1
    refine ⟨.word (by omega) (by omega), fun x hx => ?_⟩
    have hm : lenOf x ∈ s.map lenOf := List.mem_map_of_mem hx
    obtain ⟨j, rfl⟩ := hi x hx
    exact .word (b2 _ hm)
  · rw [pk_row]
    have hr : ∀ x ∈ s, ∃ ys, x = .row ys := fun x hx => (kw_cases (hs x hx).th (hk x hx)).2.2.1 rfl
    cases n with
    | zero =>
      obtain ⟨x, hx'⟩ := List.exists_mem_of_ne_nil _ hne
      obtain ⟨ys, rfl⟩ := hr x hx'
      exact (hs _ hx').elim
    | succ m =>
      have hfl := flat_len hs hr
      have h3 : 3 ^ (m + 1) = 3 * 3 ^ m := by rw [Nat.pow_succ, Nat.mul_comm]
      have hin : (s.flatMap rowOf).length * 3 ^ m ≤ 1200 := by
        have h4 := Nat.mul_le_mul_right (3 ^ m) hfl
        have h5 : 3 * s.length * 3 ^ m = s.length * 3 ^ (m + 1) := by rw [h3, Nat.mul_comm 3 s.length, Nat.mul_assoc]
        omega
      obtain ⟨q1, q2⟩ := ih m rfl (s.flatMap rowOf) (flat_fw hs hr) hin
      have hne' : s.map lenOf ≠ [] := fun z => hne (List.map_eq_nil_iff.mp z)
      obtain ⟨a1, a2⟩ := minI_mem hne'
      obtain ⟨b1, b2⟩ := maxI_mem hne'
      have bd : ∀ i ∈ s.map lenOf, 0 ≤ i ∧ i ≤ 3 := fun i hi' => by
        obtain ⟨x, hx, rfl⟩ := List.mem_map.mp hi'
        obtain ⟨j, rfl⟩ := hr x hx
        have h3 := (hs _ hx).1
        show 0 ≤ (j.length : Int) ∧ (j.length : Int) ≤ 3
        omega
      have c1 := bd _ a1
      have c2 := bd _ b1
      have c3 := a2 _ b1
      refine ⟨.row (by omega) c3 (by omega) q1, fun x hx => ?_⟩
      have hm : lenOf x ∈ s.map lenOf := List.mem_map_of_mem hx
      obtain ⟨j, rfl⟩ := hr x hx
      exact .row (a2 _ hm) (b2 _ hm) fun y hy => q2 y (List.mem_flatMap.mpr ⟨_, hx, hy⟩)
  · rw [pk_table]
    have hr : ∀ x ∈ s, ∃ kvs, x = .tab kvs := fun x hx => (kw_cases (hs x hx).th (hk x hx)).2.2.2 rfl
    cases n with
    | zero =>
      obtain ⟨x, hx'⟩ := List.exists_mem_of_ne_nil _ hne
      obtain ⟨ys, rfl⟩ := hr x hx'
      exact (hs _ hx').elim
    | succ m =>
      have hkl := keys_len hs hr
      have h3 : 3 ^ (m + 1) = 3 * 3 ^ m := by rw [Nat.pow_succ, Nat.mul_comm]
      have hp3 := pow3 m
      have h4 : s.length * 3 ^ m ≤ 1200 := Nat.le_trans (Nat.mul_le_mul_left _ (by omega)) hsz
      have hv : ∀ x, Sh N (least m (valsA s x)) ∧ ∀ y ∈ valsA s x, Ft (least m (valsA s x)) y := fun x => ih m rfl (valsA s x) (vals_fw hs hr x).1 (Nat.le_trans (Nat.mul_le_mul_right _ (vals_fw hs hr x).2) h4)
      have hek := ents_keys (recN (m + 1)) s
      have hlen : (entsA (recN (m + 1)) s).length ≤ 4000 := by
        have h1 := congrArg List.length hek
        rw [List.length_map, (sortS_perm _).length_eq] at h1
        have h2 := ddS_len (keysA s)
        omega
      have hent : ∀ e ∈ entsA (recN (m + 1)) s, e.1 ∈ keysA s ∧ e.2.1 = least m (valsA s e.1) ∧ (e.2.2 = true → ∀ t ∈ s, e.1 ∈ kS (kvsOf t)) := fun e he => by
        obtain ⟨x, hx, rfl⟩ := List.mem_map.mp he
        exact ⟨(ddS_mem _ _).mp ((sortS_perm _).mem_iff.mp hx), rfl, fun z => (vals_all s x).mp (of_decide_eq_true z)⟩
      refine ⟨.table hlen ?_ (fun e he => ?_) (fun e he => ?_) (fun z => absurd rfl z), fun x hx => ?_⟩
      · rw [hek]; exact sort_again _
      · obtain ⟨t, ht, hkt⟩ := List.mem_flatMap.mp (hent e he).1
        obtain ⟨kvs, rfl⟩ := hr t ht
        exact (fw_tab (hs _ ht)).2.2.2 _ hkt
      · rw [(hent e he).2.1]; exact (hv e.1).1
      · obtain ⟨kvs, rfl⟩ := hr x hx
        refine .table (fun e he hin => ?_) (fun e he hm => (hent e he).2.2 hm _ hx) (fun y hy => ?_)
        · rw [(hent e he).2.1]
          refine (hv e.1).2 _ ?_
          exact List.mem_map.mpr ⟨.tab kvs, List.mem_filter.mpr ⟨hx, decide_eq_true hin⟩, rfl⟩
        · rw [hek, (sortS_perm _).mem_iff, ddS_mem]
          exact List.mem_flatMap.mpr ⟨_, hx, hy⟩
theorem least_main (n N : Nat) {xs : List D} (hx : ∀ x ∈ xs, Fw n x) (hl : xs.length * 3 ^ n ≤ 1200)
    (ih : ∀ m, n = m + 1 → ∀ ys : List D, (∀ y ∈ ys, Fw m y) → ys.length * 3 ^ m ≤ 1200 → Sh N (least m ys) ∧ ∀ y ∈ ys, Ft (least m ys) y) : Sh (N + 2) (least n xs) ∧ ∀ x ∈ xs, Ft (least n xs) x := by
  rw [least_eq]
  refine ⟨wrap_sh ?_ fun p hp => ?_, fun x hx' => ?_⟩
  · have h1 := List.length_filterMap_le (partO (recN n) xs) KW
    have h2 : KW.length = 6 := rfl
    omega
  · obtain ⟨w, hw, hp⟩ := List.mem_filterMap.mp hp
    unfold partO at hp
    split at hp
    · cases hp
    · rename_i hne
      cases hp
      exact (part_ok n N hx hl hw (fun z => hne (by rw [z]; rfl)) ih).1
  · have hw := fw_kw (hx x hx')
    have hmem : x ∈ selK (kw x) xs := sel_mem.mpr ⟨hx', rfl⟩
    have hne : selK (kw x) xs ≠ [] := fun z => by rw [z] at hmem; cases hmem
    refine wrap_ft (p := partK (recN n) (kw x) (selK (kw x) xs)) (List.mem_filterMap.mpr ⟨kw x, hw, ?_⟩) ((part_ok n N hx hl hw hne ih).2 x hmem)
    unfold partO
    rw [if_neg fun z => hne (List.isEmpty_iff.mp z)]
theorem least_ok : ∀ (n : Nat) (xs : List D), (∀ x ∈ xs, Fw n x) → xs.length * 3 ^ n ≤ 1200 → Sh (2 * n + 2) (least n xs) ∧ ∀ x ∈ xs, Ft (least n xs) x
  | 0, xs, hx, hl => least_main 0 0 hx hl (fun m e => nomatch e)
  | n + 1, xs, hx, hl => least_main (n + 1) (2 * n + 2) hx hl (fun m e ys hy hl => by cases e; exact least_ok n ys hy hl)
/-! ### when two shapes are alike -/
theorem eqLN_true {f : D → D → Option Bool} : ∀ {xs ys : List D}, eqLN f xs ys = some true → xs.length = ys.length → ∀ (i : Nat) (x y : D), xs[i]? = some x → ys[i]? = some y → f x y = some true
  | [], _, _, _, i, x, y, hx, _ => by simp at hx
  | a :: xs, [], _, hl, i, x, y, hx, hy => by simp at hl
  | a :: xs, b :: ys, h, hl, i, x, y, hx, hy => by
    unfold eqLN at h
    cases e1 : f a b with
    | none => rw [e1] at h; cases h
    | some c =>
      rw [e1] at h
      cases e2 : eqLN f xs ys with
      | none => rw [e2] at h; cases h
      | some d =>
        rw [e2] at h
        have h : some (c && d) = some true := h
        have hcd := (Bool.and_eq_true _ _).mp (Option.some.inj h)
        rw [hcd.1] at e1
        rw [hcd.2] at e2
        cases i with
        | zero => cases hx; cases hy; exact e1
        | succ i => exact eqLN_true e2 (by simpa using hl) i x y (by simpa using hx) (by simpa using hy)
theorem eqN_tup {n : Nat} {xs ys : List D} (h : eqN (n + 1) (.tup xs) (.tup ys) = some true) : xs.length = ys.length ∧ ∀ (i : Nat) (x y : D), xs[i]? = some x → ys[i]? = some y → eqN n x y = some true := by
  have h : (eqLN (eqN n) xs ys).map (fun a => a && (xs.length == ys.length)) = some true := h
  cases e : eqLN (eqN n) xs ys with
  | none => rw [e] at h; cases h
  | some c =>
    rw [e] at h
    have hcd := (Bool.and_eq_true _ _).mp (Option.some.inj h)
    have hl : xs.length = ys.length := by simpa using hcd.2
    rw [hcd.1] at e
    exact ⟨hl, eqLN_true e hl⟩
theorem eqN_str {n : Nat} {a b : Str} (h : eqN (n + 1) (.str a) (.str b) = some true) : a = b := by
  have h : some (a == b) = some true := h
  simpa using Option.some.inj h
theorem eqN_int {n : Nat} {a b : Int} (h : eqN (n + 1) (.int a) (.int b) = some true) : a = b := by
  have h : some (a == b) = some true := h
  simpa using Option.some.inj h
theorem eqN_bl {n : Nat} {a b : Bool} (h : eqN (n + 1) (.bl a) (.bl b) = some true) : a = b := by
  have h : some (a == b) = some true := h
  simpa using Option.some.inj h
theorem list_eq {α : Type} {l m : List α} (hl : l.length = m.length) (h : ∀ (i : Nat) (x y : α), l[i]? = some x → m[i]? = some y → x = y) : l = m := by
  apply List.ext_getElem hl
  intro i h1 h2
  exact h i _ _ (List.getElem?_eq_getElem h1) (List.getElem?_eq_getElem h2)
theorem eqN_sh {n : Nat} {a : D} (ha : Sh n a) : ∀ {m : Nat} {b : D} {N : Nat}, Sh m b → 3 * n < N → eqN (N + 1) a b = some true → a = b := by
  induction ha with
  | any | none | truth =>
    intro m b N hb hN h
    obtain ⟨N, rfl⟩ : ∃ N', N = N' + 1 := ⟨N - 1, by omega⟩
    cases hb <;> first | rfl | (obtain ⟨hl, h⟩ := eqN_tup h; first | (simp at hl; done) | exact absurd (eqN_str (h 0 _ _ rfl rfl)) (by decide +kernel))
  | @number n a b h1 h2 h3 =>
    intro m b' N hb hN h
    obtain ⟨N, rfl⟩ : ∃ N', N = N' + 1 := ⟨N - 1, by omega⟩
    cases hb with
    | number _ _ _ => obtain ⟨hl, h⟩ := eqN_tup h; rw [eqN_int (h 1 _ _ rfl rfl), eqN_int (h 2 _ _ rfl rfl)]
    | _ => obtain ⟨hl, h⟩ := eqN_tup h; first | (simp at hl; done) | exact absurd (eqN_str (h 0 _ _ rfl rfl)) (by decide +kernel)
  | @word n a h1 h2 =>
    intro m b' N hb hN h
    obtain ⟨N, rfl⟩ : ∃ N', N = N' + 1 := ⟨N - 1, by omega⟩
    cases hb with
    | word _ _ => obtain ⟨hl, h⟩ := eqN_tup h; rw [eqN_int (h 1 _ _ rfl rfl)]
    | _ => obtain ⟨hl, h⟩ := eqN_tup h; first | (simp at hl; done) | exact absurd (eqN_str (h 0 _ _ rfl rfl)) (by decide +kernel)
  | @row n s a b h1 h2 h3 _ ih =>
    intro m b' N hb hN h
    obtain ⟨N, rfl⟩ : ∃ N', N = N' + 1 := ⟨N - 1, by omega⟩
    cases hb with
    | row _ _ _ hs => obtain ⟨hl, h⟩ := eqN_tup h; rw [ih hs (by omega) (h 1 _ _ rfl rfl), eqN_int (h 2 _ _ rfl rfl), eqN_int (h 3 _ _ rfl rfl)]
    | _ => obtain ⟨hl, h⟩ := eqN_tup h; first | (simp at hl; done) | exact absurd (eqN_str (h 0 _ _ rfl rfl)) (by decide +kernel)
  | @or_ n ps _ hps ih =>
    intro m b' N hb hN h
    obtain ⟨N, rfl⟩ : ∃ N', N = N' + 2 := ⟨N - 2, by omega⟩
    cases hb with
    | @or_ m qs _ hqs =>
      obtain ⟨hl, h⟩ := eqN_tup h
      obtain ⟨hl2, h2⟩ := eqN_tup (h 1 _ _ rfl rfl)
      rw [list_eq hl2 fun i x y hx hy => ih x (List.mem_of_getElem? hx) (hqs y (List.mem_of_getElem? hy)) (by omega) (h2 i x y hx hy)]
    | _ => obtain ⟨hl, h⟩ := eqN_tup h; first | (simp at hl; done) | exact absurd (eqN_str (h 0 _ _ rfl rfl)) (by decide +kernel)
  | @table n es rest _ _ _ _ hr ih ihr =>
    intro m b' N hb hN h
    obtain ⟨N, rfl⟩ : ∃ N', N = N' + 3 := ⟨N - 3, by omega⟩
    cases hb with
    | @table m es' rest' _ _ _ hes' hr' =>
      obtain ⟨hl, h⟩ := eqN_tup h
      obtain ⟨hl2, h2⟩ := eqN_tup (h 1 _ _ rfl rfl)
      rw [List.length_map, List.length_map] at hl2
      have hes : es = es' := list_eq hl2 fun i x y hx hy => by
        have h3 := h2 i (entD x) (entD y) (by rw [List.getElem?_map, hx]; rfl) (by rw [List.getElem?_map, hy]; rfl)
        obtain ⟨_, h4⟩ := eqN_tup h3
        have q1 := eqN_str (h4 0 _ _ rfl rfl)
        have q2 := ih x (List.mem_of_getElem? hx) (hes' y (List.mem_of_getElem? hy)) (by omega) (h4 1 _ _ rfl rfl)
        have q3 := eqN_bl (h4 2 _ _ rfl rfl)
        obtain ⟨x1, x2, x3⟩ := x
        obtain ⟨y1, y2, y3⟩ := y
        have q1 : x1 = y1 := q1
        have q2 : x2 = y2 := q2
        have q3 : x3 = y3 := q3
        rw [q1, q2, q3]
      have hq := h 2 _ _ rfl rfl
      have hrest : rest = rest' := by
        by_cases h5 : rest = .non
        · by_cases h6 : rest' = .non
          · rw [h5, h6]
          · subst h5
            exfalso
            have hs := hr' h6
            cases hs <;> (have hq : (some false : Option Bool) = some true := hq; cases hq)
        · by_cases h6 : rest' = .non
          · subst h6
            exfalso
            have hs := hr h5
            cases hs <;> (have hq : (some false : Option Bool) = some true := hq; cases hq)
          · exact ihr h5 (hr' h6) (by omega) hq
      rw [hes, hrest]
    | _ => obtain ⟨hl, h⟩ := eqN_tup h; first | (simp at hl; done) | exact absurd (eqN_str (h 0 _ _ rfl rfl)) (by decide +kernel)
end Nw
set_option Elab.async false
set_option linter.all false
set_option maxRecDepth 100000
set_option maxHeartbeats 1000000
namespace Nw
open PySem PySem.Spec L2
/-! ### comparisons have an answer -/
def flatD : D → Prop | .non => True | .bl _ => True | .int _ => True | .str _ => True | _ => False
def Sd : Nat → D → Prop
  | 0, d => flatD d
  | n + 1, .tup xs => ∀ x ∈ xs, Sd n x
  | _ + 1, d => flatD d
theorem Sd.flat {n : Nat} {d : D} (h : flatD d) : Sd n d := by
  cases n with
  | zero => exact h
  | succ n => cases d <;> first | exact h | exact h.elim
theorem Sd.mono : ∀ {n : Nat} {d : D}, Sd n d → Sd (n + 1) d
  | 0, d, h => .flat h
  | n + 1, d, h => by
    cases d with
    | tup xs => exact fun x hx => (h x hx).mono
    | _ => exact h
theorem Sd.monos {n m : Nat} {d : D} (h : Sd n d) (hm : n ≤ m) : Sd m d := by
  induction hm with
  | refl => exact h
  | step _ ih => exact ih.mono
theorem eqLN_some {f : D → D → Option Bool} : ∀ {xs ys : List D}, (∀ x ∈ xs, ∀ y ∈ ys, ∃ c, f x y = some c) → ∃ c, eqLN f xs ys = some c
  | [], ys, _ => ⟨true, by cases ys <;> rfl⟩
  | x :: xs, [], _ => ⟨true, rfl⟩
  | x :: xs, y :: ys, h => by
    obtain ⟨c, hc⟩ := h x List.mem_cons_self y List.mem_cons_self
    obtain ⟨d, hd⟩ := eqLN_some (xs := xs) (ys := ys) fun a ha b hb => h a (List.mem_cons_of_mem _ ha) b (List.mem_cons_of_mem _ hb)
    exact ⟨c && d, by unfold eqLN; rw [hc, hd]; rfl⟩
theorem eqLN_refl {f : D → D → Option Bool} : ∀ {xs : List D}, (∀ x ∈ xs, f x x = some true) → eqLN f xs xs = some true
  | [], _ => rfl
  | x :: xs, h => by
    unfold eqLN
    rw [h x List.mem_cons_self, eqLN_refl (xs := xs) fun a ha => h a (List.mem_cons_of_mem _ ha)]; rfl
theorem eqN_some : ∀ (n : Nat) {m N : Nat} {a b : D}, Sd n a → Sd m b → n < N → ∃ c, eqN N a b = some c := by
  have fl : ∀ {m N : Nat} {a b : D}, flatD a → Sd m b → 0 < N → ∃ c, eqN N a b = some c := fun {m N a b} ha hb hN => by
    obtain ⟨N, rfl⟩ : ∃ N', N = N' + 1 := ⟨N - 1, by omega⟩
    cases a <;> first | exact ha.elim | (cases b <;> first | exact ⟨_, rfl⟩ | (cases m <;> exact hb.elim))
  intro n
  induction n with
  | zero => exact fun ha hb hN => fl ha hb hN
  | succ n ih =>
    intro m N a b ha hb hN
    cases a with
    | tup xs =>
      obtain ⟨N, rfl⟩ : ∃ N', N = N' + 1 := ⟨N - 1, by omega⟩
      cases b with
      | tup ys =>
        cases m with
        | zero => exact hb.elim
        | succ m =>
          obtain ⟨c, hc⟩ := eqLN_some (f := eqN N) (xs := xs) (ys := ys) fun x hx y hy => ih (ha x hx) (hb y hy) (by omega)
          exact ⟨_, by show (eqLN (eqN N) xs ys).map _ = _; rw [hc]; rfl⟩
      | non => exact ⟨_, rfl⟩
      | bl _ => exact ⟨_, rfl⟩
      | int _ => exact ⟨_, rfl⟩
      | str _ => exact ⟨_, rfl⟩
      | _ => cases m <;> exact hb.elim
    | non => exact fl (a := .non) trivial hb (by omega)
    | bl x => exact fl (a := .bl x) trivial hb (by omega)
    | int x => exact fl (a := .int x) trivial hb (by omega)
    | str x => exact fl (a := .str x) trivial hb (by omega)
    | _ => exact ha.elim
theorem eqN_refl : ∀ (n : Nat) {N : Nat} {a : D}, Sd n a → n < N → eqN N a a = some true := by
  have fl : ∀ {N : Nat} {a : D}, flatD a → 0 < N → eqN N a a = some true := fun {N a} ha hN => by
    obtain ⟨N, rfl⟩ : ∃ N', N = N' + 1 := ⟨N - 1, by omega⟩
    cases a with
    | non => rfl
    | bl x => show some (x == x) = _; rw [beq_self_eq_true]
    | int x => show some (x == x) = _; rw [beq_self_eq_true]
    | str x => show some (x == x) = _; rw [beq_self_eq_true]
    | _ => exact ha.elim
  intro n
  induction n with
  | zero => exact fun ha hN => fl ha hN
  | succ n ih =>
    intro N a ha hN
    cases a with
    | tup xs =>
      obtain ⟨N, rfl⟩ : ∃ N', N = N' + 1 := ⟨N - 1, by omega⟩
      show (eqLN (eqN N) xs xs).map (fun a => a && (xs.length == xs.length)) = _
      rw [eqLN_refl fun x hx => ih (ha x hx) (by omega)]
      show some (true && (xs.length == xs.length)) = _
      rw [beq_self_eq_true]; rfl
    | non => exact fl (a := .non) trivial (by omega)
    | bl x => exact fl (a := .bl x) trivial (by omega)
    | int x => exact fl (a := .int x) trivial (by omega)
    | str x => exact fl (a := .str x) trivial (by omega)
    | _ => exact ha.elim
theorem sh_sd {n : Nat} {d : D} (h : Sh n d) : Sd (3 * n + 1) d := by
  induction h with
  | any | none | truth =>
    intro x hx
    rw [List.mem_singleton.mp hx]; exact .flat trivial
  | number _ _ _ =>
    intro x hx
    simp only [List.mem_cons, List.not_mem_nil, or_false] at hx
    rcases hx with rfl | rfl | rfl <;> exact .flat trivial
  | word _ _ =>
    intro x hx
    simp only [List.mem_cons, List.not_mem_nil, or_false] at hx
    rcases hx with rfl | rfl <;> exact .flat trivial
  | row _ _ _ _ ih =>
    intro x hx
    simp only [List.mem_cons, List.not_mem_nil, or_false] at hx
    rcases hx with rfl | rfl | rfl | rfl
    · exact .flat trivial
    · exact ih.monos (by omega)
    · exact .flat trivial
    · exact .flat trivial
  | or_ _ _ ih =>
    intro x hx
    simp only [List.mem_cons, List.not_mem_nil, or_false] at hx
    rcases hx with rfl | rfl
    · exact .flat trivial
    · intro y hy
      show Sd (3 * _ + 2) y
      exact (ih y hy).mono
  | @table n es rest _ _ _ _ hr ih ihr =>
    intro x hx
    simp only [List.mem_cons, List.not_mem_nil, or_false] at hx
    rcases hx with rfl | rfl | rfl
    · exact .flat trivial
    · intro y hy
      obtain ⟨e, he, rfl⟩ := List.mem_map.mp hy
      intro z hz
      simp only [List.mem_cons, List.not_mem_nil, or_false] at hz
      rcases hz with rfl | rfl | rfl
      · exact .flat trivial
      · exact ih e he
      · exact .flat trivial
    · by_cases h : x = .non
      · rw [h]; exact .flat trivial
      · exact (ihr h).monos (by omega)
theorem sh_ne {n : Nat} {a : D} (h : Sh n a) (hn : n ≤ 10) : neD a a = some (.bl false) := by
  unfold neD
  rw [eqN_refl _ (sh_sd h) (by omega)]; rfl
theorem sh_eq {n : Nat} {a b : D} (ha : Sh n a) (hb : Sh n b) (hn : n ≤ 10) : ∃ c, eqD a b = some (.bl c) ∧ (c = true → a = b) := by
  obtain ⟨c, hc⟩ := eqN_some _ (sh_sd ha) (sh_sd hb) (show 3 * n + 1 < 60 by omega)
  refine ⟨c, by unfold eqD; rw [hc]; rfl, fun z => ?_⟩
  rw [z] at hc
  exact eqN_sh ha hb (show 3 * n < 59 by omega) hc
/-! ### what is told -/
theorem look_loop (K : Nat) : ∀ (xs rest : List D) (a0 : D) (a1 : Option D), (∀ x ∈ xs, (den K).look_thing [x] () = .ok .non ()) → ∃ a2, forL (tgN 1) (sDrop (dCall 1 (fun ds => up ((den K).look_thing ds)) (dCons (dVar 1) dNil))) (xs ++ rest) [some a0, a1] () = forL (tgN 1) (sDrop (dCall 1 (fun ds => up ((den K).look_thing ds)) (dCons (dVar 1) dNil))) rest [some a0, a2] ()
  | [], rest, a0, a1, _ => ⟨a1, rfl⟩
  | x :: xs, rest, a0, a1, h => by
    obtain ⟨a2, h2⟩ := look_loop K xs rest a0 (some x) fun y hy => h y (List.mem_cons_of_mem _ hy)
    refine ⟨a2, ?_⟩
    rw [List.cons_append, forL_cons, ← h2]
    have h1 := h x List.mem_cons_self
    show loopK _ (sDrop (dCall 1 (fun ds => up ((den K).look_thing ds)) (dCons (dVar 1) dNil)) [some a0, some x] ()) = _
    have h3 : sDrop (dCall 1 (fun ds => up ((den K).look_thing ds)) (dCons (dVar 1) dNil)) [some a0, some x] () = some (.next [some a0, some x], ()) := by
      simp only [h1, fnD, startD, endK, sRet, sRetN, sSeq, seqK, sIf, sAsg, sDrop, sNil, liftX, tgN, sFor, sOwn1, sOwn2, optK, putK2, sAsgO, sRetO, isRT, dAnd, dOr, dIf, bnd_e, dOp, dUn, dAll, dCons, dNil, ret_ap, dVar, getS, lift_e, lift_n, dC, dTst, isBl, dCall, up, tAndD, tOrD, tNotD, dItems, itemsD, dRange, dMt, dLc, rowD, tupD, truD, notD, tyIs, List.map_cons, List.map_nil, List.length_cons, List.length_nil, List.cons_append, List.nil_append, List.replicate_succ, List.replicate_zero, List.getElem?_cons_zero, List.getElem?_cons_succ, List.set_cons_zero, List.set_cons_succ, Option.join_some, Option.join_none, Option.map_some, Option.map_none, Option.bind_some, Option.bind_none, Nat.reduceAdd, Nat.reduceSub, Nat.zero_add, if_true, if_false, ite_true, ite_false, reduceIte, Bool.false_eq_true, Bool.true_eq_false, eq_self_iff_true]
    rw [h3]; rfl
theorem told_eq {xs : List D} (hx : ∀ x ∈ xs, Fw 3 x) (hl : xs.length ≤ 40) : (den 100)._law_told [.row xs] () = .ok (least 3 xs) () := by
  have hlook : ∀ x ∈ xs, (den 98).look_thing [x] () = .ok .non () := fun x hx' => by
    have h := look_eq 90 (hx x hx').th (by decide)
    rw [show 90 + 3 + 5 = 98 from rfl] at h
    exact h
  have h1 := shape_of_eq 3 85 xs hx (by show xs.length * 27 ≤ 1200; omega)
  rw [show 85 + 3 * 3 + 4 = 98 from rfl] at h1
  have h2 : (den 99).least_shape [.row xs] () = .ok (least 3 xs) () := by
    show fnD 2 (b_least_shape (den 98)) [.row xs] () = _
    obtain ⟨a2, hl2⟩ := look_loop 98 xs [] (.row xs) none hlook
    rw [List.append_nil] at hl2
    have hl3 : forL (tgN 1) (sDrop (dCall 1 (fun ds => up ((den 98).look_thing ds)) (dCons (dVar 1) dNil))) xs [some (.row xs), none] () = some (.next [some (.row xs), a2], ()) := hl2
    generalize hB : (sDrop (dCall 1 (fun ds => up ((den 98).look_thing ds)) (dCons (dVar 1) dNil)) : Sl → Mo Unit) = B at hl3
    simp only [b_least_shape, hB]
    simp only [hl3, h1, fnD, startD, endK, sRet, sRetN, sSeq, seqK, sIf, sAsg, sDrop, sNil, liftX, tgN, sFor, sOwn1, sOwn2, optK, putK2, sAsgO, sRetO, isRT, dAnd, dOr, dIf, bnd_e, dOp, dUn, dAll, dCons, dNil, ret_ap, dVar, getS, lift_e, lift_n, dC, dTst, isBl, dCall, up, tAndD, tOrD, tNotD, dItems, itemsD, dRange, dMt, dLc, rowD, tupD, truD, notD, tyIs, List.map_cons, List.map_nil, List.length_cons, List.length_nil, List.cons_append, List.nil_append, List.replicate_succ, List.replicate_zero, List.getElem?_cons_zero, List.getElem?_cons_succ, List.set_cons_zero, List.set_cons_succ, Option.join_some, Option.join_none, Option.map_some, Option.map_none, Option.bind_some, Option.bind_none, Nat.reduceAdd, Nat.reduceSub, Nat.zero_add, if_true, if_false, ite_true, ite_false, reduceIte, Bool.false_eq_true, Bool.true_eq_false, eq_self_iff_true]
  show fnD 4 (b__law_told (den 99)) [.row xs] () = _
  simp only [b__law_told, h2, isN_f, isn, fnD, startD, endK, sRet, sRetN, sSeq, seqK, sIf, sAsg, sDrop, sNil, liftX, tgN, sFor, sOwn1, sOwn2, optK, putK2, sAsgO, sRetO, isRT, dAnd, dOr, dIf, bnd_e, dOp, dUn, dAll, dCons, dNil, ret_ap, dVar, getS, lift_e, lift_n, dC, dTst, isBl, dCall, up, tAndD, tOrD, tNotD, dItems, itemsD, dRange, dMt, dLc, rowD, tupD, truD, notD, tyIs, List.map_cons, List.map_nil, List.length_cons, List.length_nil, List.cons_append, List.nil_append, List.replicate_succ, List.replicate_zero, List.getElem?_cons_zero, List.getElem?_cons_succ, List.set_cons_zero, List.set_cons_succ, Option.join_some, Option.join_none, Option.map_some, Option.map_none, Option.bind_some, Option.bind_none, Nat.reduceAdd, Nat.reduceSub, Nat.zero_add, if_true, if_false, ite_true, ite_false, reduceIte, Bool.false_eq_true, Bool.true_eq_false, eq_self_iff_true, sTryH, tryK]
def XB : D := .row [.str (Txt.mul "x" 61)]
theorem told_bad {xs : List D} (hx : ∀ x ∈ xs, Fw 3 x) : (den 100)._law_told [.row (xs ++ [XB])] () = .ok refD () := by
  have hlook : ∀ x ∈ xs, (den 98).look_thing [x] () = .ok .non () := fun x hx' => by
    have h := look_eq 90 (hx x hx').th (by decide)
    rw [show 90 + 3 + 5 = 98 from rfl] at h
    exact h
  have hb : (den 98).look_thing [XB] () = .exc ⟨.BadThing, []⟩ () := by kernel_rfl
  have h2 : (den 99).least_shape [.row (xs ++ [XB])] () = .exc ⟨.BadThing, []⟩ () := by
    show fnD 2 (b_least_shape (den 98)) [.row (xs ++ [XB])] () = _
    obtain ⟨a2, hl2⟩ := look_loop 98 xs [XB] (.row (xs ++ [XB])) none hlook
    have hl3 : forL (tgN 1) (sDrop (dCall 1 (fun ds => up ((den 98).look_thing ds)) (dCons (dVar 1) dNil))) [XB] [some (.row (xs ++ [XB])), a2] () = some (.thr ⟨.BadThing, []⟩ [some (.row (xs ++ [XB])), some XB], ()) := by
      rw [forL_cons]
      simp only [hb, loopK, fnD, startD, endK, sRet, sRetN, sSeq, seqK, sIf, sAsg, sDrop, sNil, liftX, tgN, sFor, sOwn1, sOwn2, optK, putK2, sAsgO, sRetO, isRT, dAnd, dOr, dIf, bnd_e, dOp, dUn, dAll, dCons, dNil, ret_ap, dVar, getS, lift_e, lift_n, dC, dTst, isBl, dCall, up, tAndD, tOrD, tNotD, dItems, itemsD, dRange, dMt, dLc, rowD, tupD, truD, notD, tyIs, List.map_cons, List.map_nil, List.length_cons, List.length_nil, List.cons_append, List.nil_append, List.replicate_succ, List.replicate_zero, List.getElem?_cons_zero, List.getElem?_cons_succ, List.set_cons_zero, List.set_cons_succ, Option.join_some, Option.join_none, Option.map_some, Option.map_none, Option.bind_some, Option.bind_none, Nat.reduceAdd, Nat.reduceSub, Nat.zero_add, if_true, if_false, ite_true, ite_false, reduceIte, Bool.false_eq_true, Bool.true_eq_false, eq_self_iff_true]
    rw [hl3] at hl2
    generalize hB : (sDrop (dCall 1 (fun ds => up ((den 98).look_thing ds)) (dCons (dVar 1) dNil)) : Sl → Mo Unit) = B at hl2
    simp only [b_least_shape, hB]
    generalize xs ++ [XB] = ys at hl2 ⊢
    simp only [hl2, fnD, startD, endK, sRet, sRetN, sSeq, seqK, sIf, sAsg, sDrop, sNil, liftX, tgN, sFor, sOwn1, sOwn2, optK, putK2, sAsgO, sRetO, isRT, dAnd, dOr, dIf, bnd_e, dOp, dUn, dAll, dCons, dNil, ret_ap, dVar, getS, lift_e, lift_n, dC, dTst, isBl, dCall, up, tAndD, tOrD, tNotD, dItems, itemsD, dRange, dMt, dLc, rowD, tupD, truD, notD, tyIs, List.map_cons, List.map_nil, List.length_cons, List.length_nil, List.cons_append, List.nil_append, List.replicate_succ, List.replicate_zero, List.getElem?_cons_zero, List.getElem?_cons_succ, List.set_cons_zero, List.set_cons_succ, Option.join_some, Option.join_none, Option.map_some, Option.map_none, Option.bind_some, Option.bind_none, Nat.reduceAdd, Nat.reduceSub, Nat.zero_add, if_true, if_false, ite_true, ite_false, reduceIte, Bool.false_eq_true, Bool.true_eq_false, eq_self_iff_true]
  show fnD 4 (b__law_told (den 99)) [.row (xs ++ [XB])] () = _
  have h3 : isND false (.exc .BadThing []) = some (.bl false) := rfl
  have h4 : subC .BadThing .NestError = true := rfl
  have h5 : (den 99)._law_refusal [.exc .BadThing []] () = .ok refD () := refusal_eq 98
  simp only [b__law_told, h2, fnD, startD, endK, sRet, sRetN, sSeq, seqK, sIf, sAsg, sDrop, sNil, liftX, tgN, sFor, sOwn1, sOwn2, optK, putK2, sAsgO, sRetO, isRT, dAnd, dOr, dIf, bnd_e, dOp, dUn, dAll, dCons, dNil, ret_ap, dVar, getS, lift_e, lift_n, dC, dTst, isBl, dCall, up, tAndD, tOrD, tNotD, dItems, itemsD, dRange, dMt, dLc, rowD, tupD, truD, notD, tyIs, List.map_cons, List.map_nil, List.length_cons, List.length_nil, List.cons_append, List.nil_append, List.replicate_succ, List.replicate_zero, List.getElem?_cons_zero, List.getElem?_cons_succ, List.set_cons_zero, List.set_cons_succ, Option.join_some, Option.join_none, Option.map_some, Option.map_none, Option.bind_some, Option.bind_none, Nat.reduceAdd, Nat.reduceSub, Nat.zero_add, if_true, if_false, ite_true, ite_false, reduceIte, Bool.false_eq_true, Bool.true_eq_false, eq_self_iff_true, sTryH, tryK]
  rw [if_pos ⟨by decide, by simp⟩]
  simp only [h4, h3, h5, fnD, startD, endK, sRet, sRetN, sSeq, seqK, sIf, sAsg, sDrop, sNil, liftX, tgN, sFor, sOwn1, sOwn2, optK, putK2, sAsgO, sRetO, isRT, dAnd, dOr, dIf, bnd_e, dOp, dUn, dAll, dCons, dNil, ret_ap, dVar, getS, lift_e, lift_n, dC, dTst, isBl, dCall, up, tAndD, tOrD, tNotD, dItems, itemsD, dRange, dMt, dLc, rowD, tupD, truD, notD, tyIs, List.map_cons, List.map_nil, List.length_cons, List.length_nil, List.cons_append, List.nil_append, List.replicate_succ, List.replicate_zero, List.getElem?_cons_zero, List.getElem?_cons_succ, List.set_cons_zero, List.set_cons_succ, Option.join_some, Option.join_none, Option.map_some, Option.map_none, Option.bind_some, Option.bind_none, Nat.reduceAdd, Nat.reduceSub, Nat.zero_add, if_true, if_false, ite_true, ite_false, reduceIte, Bool.false_eq_true, Bool.true_eq_false, eq_self_iff_true]
theorem fits_ok {d t : D} (h : Sh 8 d) (ht : Fw 3 t) : ∃ b : Bool, (den 100).fits_shape [d, t] () = .ok (.bl b) () ∧ (den 100)._law_fits [d, t] () = .ok (.bl b) () ∧ (Ft d t → b = true) := by
  obtain ⟨b, hb, hf⟩ := fit_eq h ht.th
  have h0 := hb.2 81
  rw [show 81 + 2 * 8 + 3 = 100 from rfl] at h0
  refine ⟨b, ?_, h0, hf⟩
  have h1 := look_shape_eq h (by decide) 70
  rw [show 70 + 3 * 8 + 5 = 99 from rfl] at h1
  have h2 := look_eq 91 ht.th (by decide)
  rw [show 91 + 3 + 5 = 99 from rfl] at h2
  have h3 := hb.1 80
  rw [show 80 + 2 * 8 + 3 = 99 from rfl] at h3
  show fnD 2 (b_fits_shape (den 99)) [d, t] () = _
  simp only [b_fits_shape, h1, h2, h3, fnD, startD, endK, sRet, sRetN, sSeq, seqK, sIf, sAsg, sDrop, sNil, liftX, tgN, sFor, sOwn1, sOwn2, optK, putK2, sAsgO, sRetO, isRT, dAnd, dOr, dIf, bnd_e, dOp, dUn, dAll, dCons, dNil, ret_ap, dVar, getS, lift_e, lift_n, dC, dTst, isBl, dCall, up, tAndD, tOrD, tNotD, dItems, itemsD, dRange, dMt, dLc, rowD, tupD, truD, notD, tyIs, List.map_cons, List.map_nil, List.length_cons, List.length_nil, List.cons_append, List.nil_append, List.replicate_succ, List.replicate_zero, List.getElem?_cons_zero, List.getElem?_cons_succ, List.set_cons_zero, List.set_cons_succ, Option.join_some, Option.join_none, Option.map_some, Option.map_none, Option.bind_some, Option.bind_none, Nat.reduceAdd, Nat.reduceSub, Nat.zero_add, if_true, if_false, ite_true, ite_false, reduceIte, Bool.false_eq_true, Bool.true_eq_false, eq_self_iff_true]
theorem seq_next {S : Type} {f g : Sl → Mo S} {r r' : Sl} {s s' : S} (h : f r s = some (.next r', s')) : sSeq f g r s = g r' s' := by
  unfold sSeq; rw [h]; rfl
theorem add_rows {xs ys : List D} (h : xs.length + ys.length ≤ 1000) : addD (.row xs) (.row ys) = some (.row (xs ++ ys)) := by
  show (if _ then _ else _) = _
  rw [if_pos (by rw [sizeLine_eq]; omega)]
theorem xb_eq (r : Sl) (s : Nat) : (dAll rowD (dCons (dAll rowD (dCons (dOp mulD (dC (.str "x")) (dC (.int 61))) dNil)) dNil)) r s = .ok (.row [XB]) s := by kernel_rfl
theorem law_true : ∀ ns : List Int, ns.length ≤ 63 → ∃ s', b_law (den 100) (lawSl n_law.length ns) 0 = some (.rt (.bl true), s') := by
  intro ns _
  show ∃ s', b_law (den 100) [some (scriptD ns), some (.obj 0), none, none, none, none, none, none] 0 = _
  have hsz : sizeLine = 16777216 := sizeLine_eq
  obtain ⟨c, c0, c1, hc⟩ := draw_eq ns 97 0 7 (by decide) (by omega)
  have hc : (den 100)._law_draw [scriptD ns, .obj 0, .int 7] 0 = .ok (.int c) 1 := hc
  have hr := rng_int c0 (show c ≤ 100 by omega)
  have hll : ((List.range c.toNat).map fun (j : Nat) => D.int (j : Int)).length = c.toNat := by rw [List.length_map, List.length_range]
  have hmul : 146 * c.toNat ≤ 146 * 6 := Nat.mul_le_mul_left _ (by omega)
  obtain ⟨xs, s1, h1, h2, h3, h5⟩ := lcA_ex (i := 6) (f := dCall 3 (den 100)._law_few (dCons (dVar 0) (dCons (dVar 1) (dCons (dC (.int 3)) dNil)))) (r := [some (scriptD ns), some (.obj 0), none, none, none, none, none, none]) (Fw 3) 146 sizeLine ((List.range c.toNat).map fun (j : Nat) => D.int (j : Int)) [] 1 (fun x hx s hs => by
    obtain ⟨d, s', e1, e2, e3⟩ := few_eq ns 3 92 s hs
    rw [show 92 + 3 + 5 = 100 from rfl] at e1
    have e1 : (den 100)._law_few [scriptD ns, .obj 0, .int 3] s = .ok d s' := e1
    refine ⟨d, s', ?_, e2, e3⟩
    simp only [e1, fnD, startD, endK, sRet, sRetN, sSeq, seqK, sIf, sAsg, sDrop, sNil, liftX, tgN, sFor, sOwn1, sOwn2, optK, putK2, sAsgO, sRetO, isRT, dAnd, dOr, dIf, bnd_e, dOp, dUn, dAll, dCons, dNil, ret_ap, dVar, getS, lift_e, lift_n, dC, dTst, isBl, dCall, up, tAndD, tOrD, tNotD, dItems, itemsD, dRange, dMt, dLc, rowD, tupD, truD, notD, tyIs, List.map_cons, List.map_nil, List.length_cons, List.length_nil, List.cons_append, List.nil_append, List.replicate_succ, List.replicate_zero, List.getElem?_cons_zero, List.getElem?_cons_succ, List.set_cons_zero, List.set_cons_succ, Option.join_some, Option.join_none, Option.map_some, Option.map_none, Option.bind_some, Option.bind_none, Nat.reduceAdd, Nat.reduceSub, Nat.zero_add, if_true, if_false, ite_true, ite_false, reduceIte, Bool.false_eq_true, Bool.true_eq_false, eq_self_iff_true]) (by rw [hll]; omega)
  rw [hll] at h2 h5
  rw [List.nil_append] at h1
  have hxl : xs.length ≤ 6 := by omega
  have g0 : (sAsg (tgN 2) (dLc (dRange (dCons (dCall 3 (den 100)._law_draw (dCons (dVar 0) (dCons (dVar 1) (dCons (dC (.int 7)) dNil)))) dNil)) (tgN 6) dYes (dCall 3 (den 100)._law_few (dCons (dVar 0) (dCons (dVar 1) (dCons (dC (.int 3)) dNil)))))) [some (scriptD ns), some (.obj 0), none, none, none, none, none, none] 0 = some (.next [some (scriptD ns), some (.obj 0), some (.row xs), none, none, none, none, none], s1) := by
    simp only [hc, hr, h1, fnD, startD, endK, sRet, sRetN, sSeq, seqK, sIf, sAsg, sDrop, sNil, liftX, tgN, sFor, sOwn1, sOwn2, optK, putK2, sAsgO, sRetO, isRT, dAnd, dOr, dIf, bnd_e, dOp, dUn, dAll, dCons, dNil, ret_ap, dVar, getS, lift_e, lift_n, dC, dTst, isBl, dCall, up, tAndD, tOrD, tNotD, dItems, itemsD, dRange, dMt, dLc, rowD, tupD, truD, notD, tyIs, List.map_cons, List.map_nil, List.length_cons, List.length_nil, List.cons_append, List.nil_append, List.replicate_succ, List.replicate_zero, List.getElem?_cons_zero, List.getElem?_cons_succ, List.set_cons_zero, List.set_cons_succ, Option.join_some, Option.join_none, Option.map_some, Option.map_none, Option.bind_some, Option.bind_none, Nat.reduceAdd, Nat.reduceSub, Nat.zero_add, if_true, if_false, ite_true, ite_false, reduceIte, Bool.false_eq_true, Bool.true_eq_false, eq_self_iff_true]
  have due := law_least_eq 3 91 xs h3 (by show xs.length * 27 ≤ 1200; omega)
  rw [show 91 + 2 * 3 + 3 = 100 from rfl] at due
  have g1 : (sAsg (tgN 3) (dCall 1 (fun ds => up ((den 100)._law_least ds)) (dCons (dVar 2) dNil))) [some (scriptD ns), some (.obj 0), some (.row xs), none, none, none, none, none] s1 = some (.next [some (scriptD ns), some (.obj 0), some (.row xs), some (least 3 xs), none, none, none, none], s1) := by
    simp only [due, fnD, startD, endK, sRet, sRetN, sSeq, seqK, sIf, sAsg, sDrop, sNil, liftX, tgN, sFor, sOwn1, sOwn2, optK, putK2, sAsgO, sRetO, isRT, dAnd, dOr, dIf, bnd_e, dOp, dUn, dAll, dCons, dNil, ret_ap, dVar, getS, lift_e, lift_n, dC, dTst, isBl, dCall, up, tAndD, tOrD, tNotD, dItems, itemsD, dRange, dMt, dLc, rowD, tupD, truD, notD, tyIs, List.map_cons, List.map_nil, List.length_cons, List.length_nil, List.cons_append, List.nil_append, List.replicate_succ, List.replicate_zero, List.getElem?_cons_zero, List.getElem?_cons_succ, List.set_cons_zero, List.set_cons_succ, Option.join_some, Option.join_none, Option.map_some, Option.map_none, Option.bind_some, Option.bind_none, Nat.reduceAdd, Nat.reduceSub, Nat.zero_add, if_true, if_false, ite_true, ite_false, reduceIte, Bool.false_eq_true, Bool.true_eq_false, eq_self_iff_true]
  have tl := told_eq h3 (by omega)
  have g2 : (sAsg (tgN 4) (dCall 1 (fun ds => up ((den 100)._law_told ds)) (dCons (dVar 2) dNil))) [some (scriptD ns), some (.obj 0), some (.row xs), some (least 3 xs), none, none, none, none] s1 = some (.next [some (scriptD ns), some (.obj 0), some (.row xs), some (least 3 xs), some (least 3 xs), none, none, none], s1) := by
    simp only [tl, fnD, startD, endK, sRet, sRetN, sSeq, seqK, sIf, sAsg, sDrop, sNil, liftX, tgN, sFor, sOwn1, sOwn2, optK, putK2, sAsgO, sRetO, isRT, dAnd, dOr, dIf, bnd_e, dOp, dUn, dAll, dCons, dNil, ret_ap, dVar, getS, lift_e, lift_n, dC, dTst, isBl, dCall, up, tAndD, tOrD, tNotD, dItems, itemsD, dRange, dMt, dLc, rowD, tupD, truD, notD, tyIs, List.map_cons, List.map_nil, List.length_cons, List.length_nil, List.cons_append, List.nil_append, List.replicate_succ, List.replicate_zero, List.getElem?_cons_zero, List.getElem?_cons_succ, List.set_cons_zero, List.set_cons_succ, Option.join_some, Option.join_none, Option.map_some, Option.map_none, Option.bind_some, Option.bind_none, Nat.reduceAdd, Nat.reduceSub, Nat.zero_add, if_true, if_false, ite_true, ite_false, reduceIte, Bool.false_eq_true, Bool.true_eq_false, eq_self_iff_true]
  obtain ⟨hsh0, hft⟩ := least_ok 3 xs h3 (by show xs.length * 27 ≤ 1200; omega)
  have hsh : Sh 8 (least 3 xs) := hsh0
  have hne := sh_ne hsh (by decide)
  have hall : lcA (tgN 7) dYes (dCall 2 (fun ds => up ((den 100).fits_shape ds)) (dCons (dVar 4) (dCons (dVar 7) dNil))) [some (scriptD ns), some (.obj 0), some (.row xs), some (least 3 xs), some (least 3 xs), none, none, none] [] xs s1 = .ok (.row (xs.map fun _ => .bl true)) s1 := by
    rw [lcA_map (fun _ => .bl true) xs [] fun y hy => ?_, List.nil_append]
    obtain ⟨b, q1, _, q3⟩ := fits_ok hsh (h3 y hy)
    rw [q3 (hft y hy)] at q1
    simp only [q1, fnD, startD, endK, sRet, sRetN, sSeq, seqK, sIf, sAsg, sDrop, sNil, liftX, tgN, sFor, sOwn1, sOwn2, optK, putK2, sAsgO, sRetO, isRT, dAnd, dOr, dIf, bnd_e, dOp, dUn, dAll, dCons, dNil, ret_ap, dVar, getS, lift_e, lift_n, dC, dTst, isBl, dCall, up, tAndD, tOrD, tNotD, dItems, itemsD, dRange, dMt, dLc, rowD, tupD, truD, notD, tyIs, List.map_cons, List.map_nil, List.length_cons, List.length_nil, List.cons_append, List.nil_append, List.replicate_succ, List.replicate_zero, List.getElem?_cons_zero, List.getElem?_cons_succ, List.set_cons_zero, List.set_cons_succ, Option.join_some, Option.join_none, Option.map_some, Option.map_none, Option.bind_some, Option.bind_none, Nat.reduceAdd, Nat.reduceSub, Nat.zero_add, if_true, if_false, ite_true, ite_false, reduceIte, Bool.false_eq_true, Bool.true_eq_false, eq_self_iff_true]
  have g3 : (sIf (tOrD (dTst (dOp neD (dVar 4) (dVar 3)) isBl) (tNotD (dTst (dAll allD (dCons (dLc (dItems (dVar 2)) (tgN 7) dYes (dCall 2 (fun ds => up ((den 100).fits_shape ds)) (dCons (dVar 4) (dCons (dVar 7) dNil)))) dNil)) truD))) (sRet (dC (.bl false))) sNil) [some (scriptD ns), some (.obj 0), some (.row xs), some (least 3 xs), some (least 3 xs), none, none, none] s1 = some (.next [some (scriptD ns), some (.obj 0), some (.row xs), some (least 3 xs), some (least 3 xs), none, none, none], s1) := by
    simp only [hne, hall, all_true, fnD, startD, endK, sRet, sRetN, sSeq, seqK, sIf, sAsg, sDrop, sNil, liftX, tgN, sFor, sOwn1, sOwn2, optK, putK2, sAsgO, sRetO, isRT, dAnd, dOr, dIf, bnd_e, dOp, dUn, dAll, dCons, dNil, ret_ap, dVar, getS, lift_e, lift_n, dC, dTst, isBl, dCall, up, tAndD, tOrD, tNotD, dItems, itemsD, dRange, dMt, dLc, rowD, tupD, truD, notD, tyIs, List.map_cons, List.map_nil, List.length_cons, List.length_nil, List.cons_append, List.nil_append, List.replicate_succ, List.replicate_zero, List.getElem?_cons_zero, List.getElem?_cons_succ, List.set_cons_zero, List.set_cons_succ, Option.join_some, Option.join_none, Option.map_some, Option.map_none, Option.bind_some, Option.bind_none, Nat.reduceAdd, Nat.reduceSub, Nat.zero_add, if_true, if_false, ite_true, ite_false, reduceIte, Bool.false_eq_true, Bool.true_eq_false, eq_self_iff_true, Bool.not_true]
  have hrev : revD (.row xs) = some (.row xs.reverse) := rfl
  have t1 := told_eq (xs := xs.reverse) (fun x hx => h3 x (List.mem_reverse.mp hx)) (by rw [List.length_reverse]; omega)
  rw [least_set 3 xs.reverse xs fun x => List.mem_reverse] at t1
  have t2 := told_eq (xs := xs ++ xs) (fun x hx => h3 x ((List.mem_append.mp hx).elim id id)) (by rw [List.length_append]; omega)
  rw [least_set 3 (xs ++ xs) xs fun x => by rw [List.mem_append, or_self]] at t2
  have ha := add_rows (xs := xs) (ys := xs) (by omega)
  have g4 : (sIf (tOrD (dTst (dOp neD (dCall 1 (fun ds => up ((den 100)._law_told ds)) (dCons (dUn revD (dVar 2)) dNil)) (dVar 3)) isBl) (dTst (dOp neD (dCall 1 (fun ds => up ((den 100)._law_told ds)) (dCons (dOp addD (dVar 2) (dVar 2)) dNil)) (dVar 3)) isBl)) (sRet (dC (.bl false))) sNil) [some (scriptD ns), some (.obj 0), some (.row xs), some (least 3 xs), some (least 3 xs), none, none, none] s1 = some (.next [some (scriptD ns), some (.obj 0), some (.row xs), some (least 3 xs), some (least 3 xs), none, none, none], s1) := by
    generalize xs ++ xs = X2 at t2 ha
    simp only [hrev, t1, ha, t2, hne, fnD, startD, endK, sRet, sRetN, sSeq, seqK, sIf, sAsg, sDrop, sNil, liftX, tgN, sFor, sOwn1, sOwn2, optK, putK2, sAsgO, sRetO, isRT, dAnd, dOr, dIf, bnd_e, dOp, dUn, dAll, dCons, dNil, ret_ap, dVar, getS, lift_e, lift_n, dC, dTst, isBl, dCall, up, tAndD, tOrD, tNotD, dItems, itemsD, dRange, dMt, dLc, rowD, tupD, truD, notD, tyIs, List.map_cons, List.map_nil, List.length_cons, List.length_nil, List.cons_append, List.nil_append, List.replicate_succ, List.replicate_zero, List.getElem?_cons_zero, List.getElem?_cons_succ, List.set_cons_zero, List.set_cons_succ, Option.join_some, Option.join_none, Option.map_some, Option.map_none, Option.bind_some, Option.bind_none, Nat.reduceAdd, Nat.reduceSub, Nat.zero_add, if_true, if_false, ite_true, ite_false, reduceIte, Bool.false_eq_true, Bool.true_eq_false, eq_self_iff_true]
  obtain ⟨more, s2, e1, hmore, e3⟩ := few_eq ns 3 92 s1 (by show s1 + 146 ≤ sizeLine; omega)
  rw [show 92 + 3 + 5 = 100 from rfl] at e1
  have e1 : (den 100)._law_few [scriptD ns, .obj 0, .int 3] s1 = .ok more s2 := e1
  have g5 : (sAsg (tgN 5) (dCall 3 (den 100)._law_few (dCons (dVar 0) (dCons (dVar 1) (dCons (dC (.int 3)) dNil))))) [some (scriptD ns), some (.obj 0), some (.row xs), some (least 3 xs), some (least 3 xs), none, none, none] s1 = some (.next [some (scriptD ns), some (.obj 0), some (.row xs), some (least 3 xs), some (least 3 xs), some more, none, none], s2) := by
    simp only [e1, fnD, startD, endK, sRet, sRetN, sSeq, seqK, sIf, sAsg, sDrop, sNil, liftX, tgN, sFor, sOwn1, sOwn2, optK, putK2, sAsgO, sRetO, isRT, dAnd, dOr, dIf, bnd_e, dOp, dUn, dAll, dCons, dNil, ret_ap, dVar, getS, lift_e, lift_n, dC, dTst, isBl, dCall, up, tAndD, tOrD, tNotD, dItems, itemsD, dRange, dMt, dLc, rowD, tupD, truD, notD, tyIs, List.map_cons, List.map_nil, List.length_cons, List.length_nil, List.cons_append, List.nil_append, List.replicate_succ, List.replicate_zero, List.getElem?_cons_zero, List.getElem?_cons_succ, List.set_cons_zero, List.set_cons_succ, Option.join_some, Option.join_none, Option.map_some, Option.map_none, Option.bind_some, Option.bind_none, Nat.reduceAdd, Nat.reduceSub, Nat.zero_add, if_true, if_false, ite_true, ite_false, reduceIte, Bool.false_eq_true, Bool.true_eq_false, eq_self_iff_true]
  have hx2 : ∀ x ∈ xs ++ [more], Fw 3 x := fun x hx => (List.mem_append.mp hx).elim (h3 x) fun z => by rw [List.mem_singleton.mp z]; exact hmore
  have hl2 : (xs ++ [more]).length ≤ 7 := by rw [List.length_append]; show xs.length + 1 ≤ 7; omega
  have t3 := told_eq hx2 (by omega)
  have due2 := law_least_eq 3 91 _ hx2 (by show (xs ++ [more]).length * 27 ≤ 1200; omega)
  rw [show 91 + 2 * 3 + 3 = 100 from rfl] at due2
  obtain ⟨hsh2, hft2⟩ := least_ok 3 (xs ++ [more]) hx2 (by show (xs ++ [more]).length * 27 ≤ 1200; omega)
  have hsh2 : Sh 8 (least 3 (xs ++ [more])) := hsh2
  have hne2 := sh_ne hsh2 (by decide)
  have ha2 := add_rows (xs := xs) (ys := [more]) (by show xs.length + 1 ≤ 1000; omega)
  obtain ⟨b, q1, q2, q3⟩ := fits_ok hsh hmore
  have hbb : neD (.bl b) (.bl b) = some (.bl false) := by cases b <;> kernel_rfl
  have g6 : (sIf (tOrD (dTst (dOp neD (dCall 2 (fun ds => up ((den 100).fits_shape ds)) (dCons (dVar 4) (dCons (dVar 5) dNil))) (dCall 2 (fun ds => up ((den 100)._law_fits ds)) (dCons (dVar 3) (dCons (dVar 5) dNil)))) isBl) (dTst (dOp neD (dCall 1 (fun ds => up ((den 100)._law_told ds)) (dCons (dOp addD (dVar 2) (dAll rowD (dCons (dVar 5) dNil))) dNil)) (dCall 1 (fun ds => up ((den 100)._law_least ds)) (dCons (dOp addD (dVar 2) (dAll rowD (dCons (dVar 5) dNil))) dNil))) isBl)) (sRet (dC (.bl false))) sNil) [some (scriptD ns), some (.obj 0), some (.row xs), some (least 3 xs), some (least 3 xs), some more, none, none] s2 = some (.next [some (scriptD ns), some (.obj 0), some (.row xs), some (least 3 xs), some (least 3 xs), some more, none, none], s2) := by
    generalize xs ++ [more] = X2 at t3 due2 ha2 hne2
    simp only [q1, q2, hbb, ha2, t3, due2, hne2, one', fnD, startD, endK, sRet, sRetN, sSeq, seqK, sIf, sAsg, sDrop, sNil, liftX, tgN, sFor, sOwn1, sOwn2, optK, putK2, sAsgO, sRetO, isRT, dAnd, dOr, dIf, bnd_e, dOp, dUn, dAll, dCons, dNil, ret_ap, dVar, getS, lift_e, lift_n, dC, dTst, isBl, dCall, up, tAndD, tOrD, tNotD, dItems, itemsD, dRange, dMt, dLc, rowD, tupD, truD, notD, tyIs, List.map_cons, List.map_nil, List.length_cons, List.length_nil, List.cons_append, List.nil_append, List.replicate_succ, List.replicate_zero, List.getElem?_cons_zero, List.getElem?_cons_succ, List.set_cons_zero, List.set_cons_succ, Option.join_some, Option.join_none, Option.map_some, Option.map_none, Option.bind_some, Option.bind_none, Nat.reduceAdd, Nat.reduceSub, Nat.zero_add, if_true, if_false, ite_true, ite_false, reduceIte, Bool.false_eq_true, Bool.true_eq_false, eq_self_iff_true]
  obtain ⟨ce, hce, hcq⟩ := sh_eq hsh2 hsh (by decide)
  have hcb : ce = true → b = true := fun z => q3 (by
    have h := hft2 more (List.mem_append_right _ List.mem_cons_self)
    rw [hcq z] at h
    exact h)
  have g7 : (sIf (tAndD (dTst (dOp eqD (dCall 1 (fun ds => up ((den 100)._law_told ds)) (dCons (dOp addD (dVar 2) (dAll rowD (dCons (dVar 5) dNil))) dNil)) (dVar 3)) isBl) (tNotD (dTst (dCall 2 (fun ds => up ((den 100).fits_shape ds)) (dCons (dVar 4) (dCons (dVar 5) dNil))) truD))) (sRet (dC (.bl false))) sNil) [some (scriptD ns), some (.obj 0), some (.row xs), some (least 3 xs), some (least 3 xs), some more, none, none] s2 = some (.next [some (scriptD ns), some (.obj 0), some (.row xs), some (least 3 xs), some (least 3 xs), some more, none, none], s2) := by
    generalize xs ++ [more] = X2 at t3 ha2 hce
    cases ce with
    | false => simp only [ha2, t3, hce, one', fnD, startD, endK, sRet, sRetN, sSeq, seqK, sIf, sAsg, sDrop, sNil, liftX, tgN, sFor, sOwn1, sOwn2, optK, putK2, sAsgO, sRetO, isRT, dAnd, dOr, dIf, bnd_e, dOp, dUn, dAll, dCons, dNil, ret_ap, dVar, getS, lift_e, lift_n, dC, dTst, isBl, dCall, up, tAndD, tOrD, tNotD, dItems, itemsD, dRange, dMt, dLc, rowD, tupD, truD, notD, tyIs, List.map_cons, List.map_nil, List.length_cons, List.length_nil, List.cons_append, List.nil_append, List.replicate_succ, List.replicate_zero, List.getElem?_cons_zero, List.getElem?_cons_succ, List.set_cons_zero, List.set_cons_succ, Option.join_some, Option.join_none, Option.map_some, Option.map_none, Option.bind_some, Option.bind_none, Nat.reduceAdd, Nat.reduceSub, Nat.zero_add, if_true, if_false, ite_true, ite_false, reduceIte, Bool.false_eq_true, Bool.true_eq_false, eq_self_iff_true]
    | true =>
      rw [hcb rfl] at q1
      simp only [ha2, t3, hce, q1, one', tru_bl, fnD, startD, endK, sRet, sRetN, sSeq, seqK, sIf, sAsg, sDrop, sNil, liftX, tgN, sFor, sOwn1, sOwn2, optK, putK2, sAsgO, sRetO, isRT, dAnd, dOr, dIf, bnd_e, dOp, dUn, dAll, dCons, dNil, ret_ap, dVar, getS, lift_e, lift_n, dC, dTst, isBl, dCall, up, tAndD, tOrD, tNotD, dItems, itemsD, dRange, dMt, dLc, rowD, tupD, truD, notD, tyIs, List.map_cons, List.map_nil, List.length_cons, List.length_nil, List.cons_append, List.nil_append, List.replicate_succ, List.replicate_zero, List.getElem?_cons_zero, List.getElem?_cons_succ, List.set_cons_zero, List.set_cons_succ, Option.join_some, Option.join_none, Option.map_some, Option.map_none, Option.bind_some, Option.bind_none, Nat.reduceAdd, Nat.reduceSub, Nat.zero_add, if_true, if_false, ite_true, ite_false, reduceIte, Bool.false_eq_true, Bool.true_eq_false, eq_self_iff_true, Bool.not_true]
  have t4 := told_bad h3
  have ha3 := add_rows (xs := xs) (ys := [XB]) (by show xs.length + 1 ≤ 1000; omega)
  have er : eqD refD (.tup [.str "refused", .str "thing"]) = some (.bl true) := by kernel_rfl
  refine ⟨s2, ?_⟩
  unfold b_law
  rw [seq_next g0, seq_next g1, seq_next g2, seq_next g3, seq_next g4, seq_next g5, seq_next g6, seq_next g7]
  have xe := xb_eq [some (scriptD ns), some (.obj 0), some (.row xs), some (least 3 xs), some (least 3 xs), some more, none, none] s2
  generalize (dAll rowD (dCons (dAll rowD (dCons (dOp mulD (dC (.str "x")) (dC (.int 61))) dNil)) dNil) : Sl → M Nat D) = A at xe ⊢
  generalize xs ++ [XB] = X3 at t4 ha3
  simp only [xe, ha3, t4, er, two', fnD, startD, endK, sRet, sRetN, sSeq, seqK, sIf, sAsg, sDrop, sNil, liftX, tgN, sFor, sOwn1, sOwn2, optK, putK2, sAsgO, sRetO, isRT, dAnd, dOr, dIf, bnd_e, dOp, dUn, dAll, dCons, dNil, ret_ap, dVar, getS, lift_e, lift_n, dC, dTst, isBl, dCall, up, tAndD, tOrD, tNotD, dItems, itemsD, dRange, dMt, dLc, rowD, tupD, truD, notD, tyIs, List.map_cons, List.map_nil, List.length_cons, List.length_nil, List.cons_append, List.nil_append, List.replicate_succ, List.replicate_zero, List.getElem?_cons_zero, List.getElem?_cons_succ, List.set_cons_zero, List.set_cons_succ, Option.join_some, Option.join_none, Option.map_some, Option.map_none, Option.bind_some, Option.bind_none, Nat.reduceAdd, Nat.reduceSub, Nat.zero_add, if_true, if_false, ite_true, ite_false, reduceIte, Bool.false_eq_true, Bool.true_eq_false, eq_self_iff_true]
end Nw
set_option Elab.async false
set_option linter.all false
set_option maxRecDepth 100000
set_option maxHeartbeats 0
namespace Nw
open PySem PySem.Spec PyProof.Rows L2
def d_kind_of : He.DefD := ⟨("kind_of", none), "kind_of", "kind_of", defArgs s_kind_of, defBody s_kind_of, defScope s_kind_of, [], []⟩
def d_is_sign : He.DefD := ⟨("is_sign", none), "is_sign", "is_sign", defArgs s_is_sign, defBody s_is_sign, defScope s_is_sign, [], []⟩
def d_is_word : He.DefD := ⟨("is_word", none), "is_word", "is_word", defArgs s_is_word, defBody s_is_word, defScope s_is_word, [], []⟩
def d_is_thing : He.DefD := ⟨("is_thing", none), "is_thing", "is_thing", defArgs s_is_thing, defBody s_is_thing, defScope s_is_thing, [], []⟩
def d_inner_things : He.DefD := ⟨("inner_things", none), "inner_things", "inner_things", defArgs s_inner_things, defBody s_inner_things, defScope s_inner_things, [], []⟩
def d_look_thing : He.DefD := ⟨("look_thing", none), "look_thing", "look_thing", defArgs s_look_thing, defBody s_look_thing, defScope s_look_thing, [], []⟩
def d_is_entry : He.DefD := ⟨("is_entry", none), "is_entry", "is_entry", defArgs s_is_entry, defBody s_is_entry, defScope s_is_entry, [], []⟩
def d_is_table_shape : He.DefD := ⟨("is_table_shape", none), "is_table_shape", "is_table_shape", defArgs s_is_table_shape, defBody s_is_table_shape, defScope s_is_table_shape, [], []⟩
def d_is_shape : He.DefD := ⟨("is_shape", none), "is_shape", "is_shape", defArgs s_is_shape, defBody s_is_shape, defScope s_is_shape, [], []⟩
def d_look_shape : He.DefD := ⟨("look_shape", none), "look_shape", "look_shape", defArgs s_look_shape, defBody s_look_shape, defScope s_look_shape, [], []⟩
def d_is_table_fit : He.DefD := ⟨("is_table_fit", none), "is_table_fit", "is_table_fit", defArgs s_is_table_fit, defBody s_is_table_fit, defScope s_is_table_fit, [], []⟩
def d_is_fit : He.DefD := ⟨("is_fit", none), "is_fit", "is_fit", defArgs s_is_fit, defBody s_is_fit, defScope s_is_fit, [], []⟩
def d_fits_shape : He.DefD := ⟨("fits_shape", none), "fits_shape", "fits_shape", defArgs s_fits_shape, defBody s_fits_shape, defScope s_fits_shape, [], []⟩
def d_shape_of_rows : He.DefD := ⟨("shape_of_rows", none), "shape_of_rows", "shape_of_rows", defArgs s_shape_of_rows, defBody s_shape_of_rows, defScope s_shape_of_rows, [], []⟩
def d_shape_of_tables : He.DefD := ⟨("shape_of_tables", none), "shape_of_tables", "shape_of_tables", defArgs s_shape_of_tables, defBody s_shape_of_tables, defScope s_shape_of_tables, [], []⟩
def d_shape_of_kind : He.DefD := ⟨("shape_of_kind", none), "shape_of_kind", "shape_of_kind", defArgs s_shape_of_kind, defBody s_shape_of_kind, defScope s_shape_of_kind, [], []⟩
def d_shape_of : He.DefD := ⟨("shape_of", none), "shape_of", "shape_of", defArgs s_shape_of, defBody s_shape_of, defScope s_shape_of, [], []⟩
def d_least_shape : He.DefD := ⟨("least_shape", none), "least_shape", "least_shape", defArgs s_least_shape, defBody s_least_shape, defScope s_least_shape, [], []⟩
def d__law_cell : He.DefD := ⟨("_law_cell", none), "_law_cell", "_law_cell", defArgs s__law_cell, defBody s__law_cell, defScope s__law_cell, [], []⟩
def d__law_mix : He.DefD := ⟨("_law_mix", none), "_law_mix", "_law_mix", defArgs s__law_mix, defBody s__law_mix, defScope s__law_mix, [], []⟩
def d__law_draw : He.DefD := ⟨("_law_draw", none), "_law_draw", "_law_draw", defArgs s__law_draw, defBody s__law_draw, defScope s__law_draw, [], []⟩
def d__law_pick : He.DefD := ⟨("_law_pick", none), "_law_pick", "_law_pick", defArgs s__law_pick, defBody s__law_pick, defScope s__law_pick, [], []⟩
def d__law_refusal : He.DefD := ⟨("_law_refusal", none), "_law_refusal", "_law_refusal", defArgs s__law_refusal, defBody s__law_refusal, defScope s__law_refusal, [], []⟩
def d__law_kind : He.DefD := ⟨("_law_kind", none), "_law_kind", "_law_kind", defArgs s__law_kind, defBody s__law_kind, defScope s__law_kind, [], []⟩
def d__law_few : He.DefD := ⟨("_law_few", none), "_law_few", "_law_few", defArgs s__law_few, defBody s__law_few, defScope s__law_few, [], []⟩
def d__law_fits : He.DefD := ⟨("_law_fits", none), "_law_fits", "_law_fits", defArgs s__law_fits, defBody s__law_fits, defScope s__law_fits, [], []⟩
def d__law_least : He.DefD := ⟨("_law_least", none), "_law_least", "_law_least", defArgs s__law_least, defBody s__law_least, defScope s__law_least, [], []⟩
def d__law_entries : He.DefD := ⟨("_law_entries", none), "_law_entries", "_law_entries", defArgs s__law_entries, defBody s__law_entries, defScope s__law_entries, [], []⟩
def d__law_told : He.DefD := ⟨("_law_told", none), "_law_told", "_law_told", defArgs s__law_told, defBody s__law_told, defScope s__law_told, [], []⟩
def d_law : He.DefD := ⟨("law", none), "law", "law", defArgs s_law, defBody s_law, defScope s_law, [], []⟩
def fn : List He.DefD := [d_kind_of, d_is_sign, d_is_word, d_is_thing, d_inner_things, d_look_thing, d_is_entry, d_is_table_shape, d_is_shape, d_look_shape, d_is_table_fit, d_is_fit, d_fits_shape, d_shape_of_rows, d_shape_of_tables, d_shape_of_kind, d_shape_of, d_least_shape, d__law_cell, d__law_mix, d__law_draw, d__law_pick, d__law_refusal, d__law_kind, d__law_few, d__law_fits, d__law_least, d__law_entries, d__law_told, d_law]
def fa0 : List He.Fa := [.glo "kind_of", .glo "is_sign", .glo "is_word", .glo "is_thing", .glo "inner_things", .glo "look_thing", .glo "is_entry", .glo "is_table_shape", .glo "is_shape", .glo "look_shape", .glo "is_table_fit", .glo "is_fit", .glo "fits_shape", .glo "shape_of_rows", .glo "shape_of_tables", .glo "shape_of_kind", .glo "shape_of", .glo "least_shape", .glo "_law_cell", .glo "_law_mix", .glo "_law_draw", .glo "_law_pick", .glo "_law_refusal", .glo "_law_kind", .glo "_law_few", .glo "_law_fits", .glo "_law_least", .glo "_law_entries", .glo "_law_told", .glo "law", .glo "BadText", .glo "BadThing", .glo "BadWay", .glo "NestError", .glo "NoGo", .glo "NoWay", .glo "Nothing", .glo "KINDS", .glo "SIZES", .free "ValueError"]
def fa1 : List He.Fa := [.free "abs", .free "all", .free "any", .free "bool", .free "dict", .free "int", .free "isinstance", .free "len", .free "list", .free "max", .free "min", .free "ord", .free "range", .free "set", .free "sorted", .free "str", .free "tuple", .exc "BadThing", .int "MOST_DEEP_shapes" (30), .int "MOST_DEEP_things" (12), .int "MOST_MANY" (1000000), .int "MOST_NUMBER" (999999999999999), .int "MOST_SIGNS" (60)]
def fa : List He.Fa := fa0 ++ fa1
def loose0 : List PySem.Str := [("NestError" : PySem.Str), ("BadThing" : PySem.Str), ("BadText" : PySem.Str), ("BadWay" : PySem.Str), ("NoWay" : PySem.Str), ("NoGo" : PySem.Str), ("Nothing" : PySem.Str), ("MOST_NUMBER" : PySem.Str), ("MOST_SIGNS" : PySem.Str), ("MOST_DEEP_things" : PySem.Str), ("kind_of" : PySem.Str), ("is_sign" : PySem.Str), ("is_word" : PySem.Str), ("is_thing" : PySem.Str), ("inner_things" : PySem.Str), ("look_thing" : PySem.Str), ("SIZES" : PySem.Str), ("KINDS" : PySem.Str), ("MOST_DEEP_shapes" : PySem.Str), ("MOST_MANY" : PySem.Str), ("is_entry" : PySem.Str), ("is_table_shape" : PySem.Str), ("is_shape" : PySem.Str), ("look_shape" : PySem.Str), ("is_table_fit" : PySem.Str), ("is_fit" : PySem.Str), ("fits_shape" : PySem.Str), ("shape_of_rows" : PySem.Str), ("shape_of_tables" : PySem.Str), ("shape_of_kind" : PySem.Str), ("shape_of" : PySem.Str), ("least_shape" : PySem.Str), ("_law_cell" : PySem.Str), ("_law_mix" : PySem.Str), ("_law_draw" : PySem.Str)]
def loose1 : List PySem.Str := [("_law_pick" : PySem.Str), ("_law_refusal" : PySem.Str), ("_law_kind" : PySem.Str), ("_law_few" : PySem.Str), ("_law_fits" : PySem.Str), ("_law_least" : PySem.Str), ("_law_entries" : PySem.Str), ("_law_told" : PySem.Str)]
def loose : List PySem.Str := loose0 ++ loose1
abbrev RR : PySem.W.OpenRow := PySem.W.OpenLaw.row PySem.Challenge.rw_nestways_k91_whole_least_shape
def tabs : List He.Tab := [(fun K => He.ga K "SIZES", ["any", "none", "truth", "number", "word", "row", "table", "or"])]
def ex (K : PySem.W.Frag) : Bool := xfB K [.NestError, .BadThing, .BadText, .BadWay, .NoWay, .NoGo, .Nothing] && tabB K (He.ga K "SIZES") [("any", 1), ("none", 1), ("truth", 1), ("number", 3), ("word", 2), ("row", 4), ("table", 3), ("or", 2)] && lstB K (He.ga K "KINDS") ["none", "truth", "number", "word", "row", "table"]
abbrev hk : PySem.W.Hook := He.hookX 5 fa fn tabs [] ex
def ob (s : PySem.W.SharedT) : He.AlX := He.obsX 5 fa fn tabs [] ex (HandSHeadRun.getT s)
theorem ob_eq (s : PySem.W.SharedT) : ob s = hk.obs s.abs := He.obsX_eq (HandSHeadRun.getT_eq s)
def fixW (w : World) (b : Bool) : World := { w with params := { w.params with followText := fun s => if s = "special-get-raises" then b else w.params.followText s } }
theorem fixW_eq (w : World) : fixW w (w.params.followText "special-get-raises") = w := by
  have h : (fun s => if s = "special-get-raises" then w.params.followText "special-get-raises" else w.params.followText s) = w.params.followText := by
    funext s
    split
    · rename_i e; rw [e]
    · rfl
  unfold fixW
  rw [h]
theorem run_t (w : World) : HandSHeadRun.RunEq RR (PySem.W.view RR.prog [47]) hk ob 4000 loose (fixW w true) := by
  intro os
  kernel_rfl
theorem run_f (w : World) : HandSHeadRun.RunEq RR (PySem.W.view RR.prog [47]) hk ob 4000 loose (fixW w false) := by
  intro os
  kernel_rfl
theorem run (w : World) : HandSHeadRun.RunEq RR (PySem.W.view RR.prog [47]) hk ob 4000 loose w := by
  have h := fixW_eq w
  cases e : w.params.followText "special-get-raises" with
  | false => rw [e] at h; rw [← h]; exact run_f w
  | true => rw [e] at h; rw [← h]; exact run_t w
theorem facts {P : Program} {w : World} {K : PySem.W.Frag} {h : Heap} {mg : Str → Option Value} {f : Addr} (X : K.In h) (G : h.Ns mainGlobals mg) (hfa : mg ("law" : Str) = some (.ref f)) (c : He.SaysX fa fn tabs [] ex w h K) :
    ∃ fd : FuncData, (∀ (s : Shared) (v : Value), BindsTo s fd ⟨[v], []⟩ [("script", v)]) ∧ ∀ base : Heap, K.In base → base.Ns mainGlobals mg → FnOk P w K mg base CX0 (100 + 1) f fd ["script"] (spLaw K 63) := by
  have fx : Fx w K mg := {
    xf := xf_of ((Bool.and_eq_true _ _).mp ((Bool.and_eq_true _ _).mp c.more).1).1
    f_ValueError := He.free_ok X G (c.t.d.fact 39 (f := .free "ValueError") rfl)
    f_abs := He.free_ok X G (c.t.d.fact 40 (f := .free "abs") rfl)
    f_all := He.free_ok X G (c.t.d.fact 41 (f := .free "all") rfl)
    f_any := He.free_ok X G (c.t.d.fact 42 (f := .free "any") rfl)
    f_bool := He.free_ok X G (c.t.d.fact 43 (f := .free "bool") rfl)
    f_dict := He.free_ok X G (c.t.d.fact 44 (f := .free "dict") rfl)
    f_int := He.free_ok X G (c.t.d.fact 45 (f := .free "int") rfl)
    f_isinstance := He.free_ok X G (c.t.d.fact 46 (f := .free "isinstance") rfl)
    f_len := He.free_ok X G (c.t.d.fact 47 (f := .free "len") rfl)
    f_list := He.free_ok X G (c.t.d.fact 48 (f := .free "list") rfl)
    f_max := He.free_ok X G (c.t.d.fact 49 (f := .free "max") rfl)
    f_min := He.free_ok X G (c.t.d.fact 50 (f := .free "min") rfl)
    f_ord := He.free_ok X G (c.t.d.fact 51 (f := .free "ord") rfl)
    f_range := He.free_ok X G (c.t.d.fact 52 (f := .free "range") rfl)
    f_set := He.free_ok X G (c.t.d.fact 53 (f := .free "set") rfl)
    f_sorted := He.free_ok X G (c.t.d.fact 54 (f := .free "sorted") rfl)
    f_str := He.free_ok X G (c.t.d.fact 55 (f := .free "str") rfl)
    f_tuple := He.free_ok X G (c.t.d.fact 56 (f := .free "tuple") rfl)
    c_BadText := He.glo_ok X G (c.t.d.fact 30 (f := .glo "BadText") rfl)
    c_BadThing := He.glo_ok X G (c.t.d.fact 31 (f := .glo "BadThing") rfl)
    c_BadWay := He.glo_ok X G (c.t.d.fact 32 (f := .glo "BadWay") rfl)
    c_NestError := He.glo_ok X G (c.t.d.fact 33 (f := .glo "NestError") rfl)
    c_NoGo := He.glo_ok X G (c.t.d.fact 34 (f := .glo "NoGo") rfl)
    c_NoWay := He.glo_ok X G (c.t.d.fact 35 (f := .glo "NoWay") rfl)
    c_Nothing := He.glo_ok X G (c.t.d.fact 36 (f := .glo "Nothing") rfl)
    e_BadThing := (He.exc_ok (c.t.d.fact 57 (f := .exc "BadThing") rfl)).1
    k_BadThing := (He.exc_ok (c.t.d.fact 57 (f := .exc "BadThing") rfl)).2.1
    g_MOST_DEEP_shapes := He.int_ok X G (c.t.d.fact 58 (f := .int "MOST_DEEP_shapes" (30)) rfl)
    g_MOST_DEEP_things := He.int_ok X G (c.t.d.fact 59 (f := .int "MOST_DEEP_things" (12)) rfl)
    g_MOST_MANY := He.int_ok X G (c.t.d.fact 60 (f := .int "MOST_MANY" (1000000)) rfl)
    g_MOST_NUMBER := He.int_ok X G (c.t.d.fact 61 (f := .int "MOST_NUMBER" (999999999999999)) rfl)
    g_MOST_SIGNS := He.int_ok X G (c.t.d.fact 62 (f := .int "MOST_SIGNS" (60)) rfl)
    t_SIZES := ktab_of (c.t.tab 0 (t := (fun K => He.ga K "SIZES", ["any", "none", "truth", "number", "word", "row", "table", "or"])) rfl) ((Bool.and_eq_true _ _).mp ((Bool.and_eq_true _ _).mp c.more).1).2
    l_KINDS := klst_of ((Bool.and_eq_true _ _).mp c.more).2
    m_KINDS := He.glo_ok X G (c.t.d.fact 37 (f := .glo "KINDS") rfl)
    m_SIZES := He.glo_ok X G (c.t.d.fact 38 (f := .glo "SIZES") rfl)
  }
  have fns : Fns K mg := {
    kind_of := ⟨c.t.d.def_ 0 (d := d_kind_of) rfl, He.glo_ok X G (c.t.d.fact 0 (f := .glo "kind_of") rfl)⟩
    is_sign := ⟨c.t.d.def_ 1 (d := d_is_sign) rfl, He.glo_ok X G (c.t.d.fact 1 (f := .glo "is_sign") rfl)⟩
    is_word := ⟨c.t.d.def_ 2 (d := d_is_word) rfl, He.glo_ok X G (c.t.d.fact 2 (f := .glo "is_word") rfl)⟩
    is_thing := ⟨c.t.d.def_ 3 (d := d_is_thing) rfl, He.glo_ok X G (c.t.d.fact 3 (f := .glo "is_thing") rfl)⟩
    inner_things := ⟨c.t.d.def_ 4 (d := d_inner_things) rfl, He.glo_ok X G (c.t.d.fact 4 (f := .glo "inner_things") rfl)⟩
    look_thing := ⟨c.t.d.def_ 5 (d := d_look_thing) rfl, He.glo_ok X G (c.t.d.fact 5 (f := .glo "look_thing") rfl)⟩
    is_entry := ⟨c.t.d.def_ 6 (d := d_is_entry) rfl, He.glo_ok X G (c.t.d.fact 6 (f := .glo "is_entry") rfl)⟩
    is_table_shape := ⟨c.t.d.def_ 7 (d := d_is_table_shape) rfl, He.glo_ok X G (c.t.d.fact 7 (f := .glo "is_table_shape") rfl)⟩
    is_shape := ⟨c.t.d.def_ 8 (d := d_is_shape) rfl, He.glo_ok X G (c.t.d.fact 8 (f := .glo "is_shape") rfl)⟩
    look_shape := ⟨c.t.d.def_ 9 (d := d_look_shape) rfl, He.glo_ok X G (c.t.d.fact 9 (f := .glo "look_shape") rfl)⟩
    is_table_fit := ⟨c.t.d.def_ 10 (d := d_is_table_fit) rfl, He.glo_ok X G (c.t.d.fact 10 (f := .glo "is_table_fit") rfl)⟩
    is_fit := ⟨c.t.d.def_ 11 (d := d_is_fit) rfl, He.glo_ok X G (c.t.d.fact 11 (f := .glo "is_fit") rfl)⟩
    fits_shape := ⟨c.t.d.def_ 12 (d := d_fits_shape) rfl, He.glo_ok X G (c.t.d.fact 12 (f := .glo "fits_shape") rfl)⟩
    shape_of_rows := ⟨c.t.d.def_ 13 (d := d_shape_of_rows) rfl, He.glo_ok X G (c.t.d.fact 13 (f := .glo "shape_of_rows") rfl)⟩
    shape_of_tables := ⟨c.t.d.def_ 14 (d := d_shape_of_tables) rfl, He.glo_ok X G (c.t.d.fact 14 (f := .glo "shape_of_tables") rfl)⟩
    shape_of_kind := ⟨c.t.d.def_ 15 (d := d_shape_of_kind) rfl, He.glo_ok X G (c.t.d.fact 15 (f := .glo "shape_of_kind") rfl)⟩
    shape_of := ⟨c.t.d.def_ 16 (d := d_shape_of) rfl, He.glo_ok X G (c.t.d.fact 16 (f := .glo "shape_of") rfl)⟩
    least_shape := ⟨c.t.d.def_ 17 (d := d_least_shape) rfl, He.glo_ok X G (c.t.d.fact 17 (f := .glo "least_shape") rfl)⟩
    _law_cell := ⟨c.t.d.def_ 18 (d := d__law_cell) rfl, He.glo_ok X G (c.t.d.fact 18 (f := .glo "_law_cell") rfl)⟩
    _law_mix := ⟨c.t.d.def_ 19 (d := d__law_mix) rfl, He.glo_ok X G (c.t.d.fact 19 (f := .glo "_law_mix") rfl)⟩
    _law_draw := ⟨c.t.d.def_ 20 (d := d__law_draw) rfl, He.glo_ok X G (c.t.d.fact 20 (f := .glo "_law_draw") rfl)⟩
    _law_pick := ⟨c.t.d.def_ 21 (d := d__law_pick) rfl, He.glo_ok X G (c.t.d.fact 21 (f := .glo "_law_pick") rfl)⟩
    _law_refusal := ⟨c.t.d.def_ 22 (d := d__law_refusal) rfl, He.glo_ok X G (c.t.d.fact 22 (f := .glo "_law_refusal") rfl)⟩
    _law_kind := ⟨c.t.d.def_ 23 (d := d__law_kind) rfl, He.glo_ok X G (c.t.d.fact 23 (f := .glo "_law_kind") rfl)⟩
    _law_few := ⟨c.t.d.def_ 24 (d := d__law_few) rfl, He.glo_ok X G (c.t.d.fact 24 (f := .glo "_law_few") rfl)⟩
    _law_fits := ⟨c.t.d.def_ 25 (d := d__law_fits) rfl, He.glo_ok X G (c.t.d.fact 25 (f := .glo "_law_fits") rfl)⟩
    _law_least := ⟨c.t.d.def_ 26 (d := d__law_least) rfl, He.glo_ok X G (c.t.d.fact 26 (f := .glo "_law_least") rfl)⟩
    _law_entries := ⟨c.t.d.def_ 27 (d := d__law_entries) rfl, He.glo_ok X G (c.t.d.fact 27 (f := .glo "_law_entries") rfl)⟩
    _law_told := ⟨c.t.d.def_ 28 (d := d__law_told) rfl, He.glo_ok X G (c.t.d.fact 28 (f := .glo "_law_told") rfl)⟩
    law := ⟨c.t.d.def_ 29 (d := d_law) rfl, He.glo_ok X G (c.t.d.fact 29 (f := .glo "law") rfl)⟩
  }
  obtain ⟨⟨fd, F⟩, e0⟩ := fns.law
  have e := hfa.symm.trans e0
  cases e
  have b := FunD.bindsA (ps := ["script"]) F fun _ _ _ _ _ _ us hl => match us, hl with | [_], _ => rfl
  exact ⟨fd, fun s v => b s [v] rfl, fun base _ _ => fn_law (N := n_law) F sc_law rfl rfl (by first | exact Or.inl rfl | exact Or.inr rfl) (fun T => rest_law fx (hyp_all fx fns 100) T) (by rw [sizeLine_eq]; decide) (fun _ _ _ _ _ _ _ => rfl) law_true⟩
end Nw
open PySem PySem.W PySem.Calls PyProof.Rows
theorem PySem.Challenge.cw_nestways_k91_whole_least_shape_holds : PySem.Challenge.rw_nestways_k91_whole_least_shape.Holds := by
  w_on; o_law
  refine HandSHeadRun.head_any (r := OpenLaw.row PySem.Challenge.rw_nestways_k91_whole_least_shape) (q := view (OpenLaw.row PySem.Challenge.rw_nestways_k91_whole_least_shape).prog [47]) (H := Nw.hk) (ob := Nw.ob) (M := 4000) (loose := Nw.loose) (d := HandSHeadRun.topDef (OpenLaw.row PySem.Challenge.rw_nestways_k91_whole_least_shape).prog 47) (kwd := []) Nw.ob_eq
    (by kernel_rfl) (fun s => by kernel_rfl) Nw.run (by kernel_rfl) (by kernel_rfl) (by kernel_rfl) (by rfl) (by first | assumption | decide +kernel) (by decide +kernel) ⟨rfl, rfl, rfl, rfl, rfl, by decide +kernel⟩ ?hw ?hc
  case hw => w_witness2
  case hc =>
    refine L2.walk_ofE (l := PySem.Challenge.rw_nestways_k91_whole_least_shape) (n := 63) (k := 100 + 1) (x := "script") (CX := L2.CX0) rfl (by decide) (by kernel_rfl) ⟨rfl, by decide, by decide⟩ ?F (fun _ _ _ _ z => z)
    intro w mg fa h Y G hmg0
    obtain ⟨K, KX, c⟩ := Y
    have hmg : mg ("law" : PySem.Str) = some (.ref fa) := by
      have e : (HandSHeadRun.topDef (OpenLaw.row PySem.Challenge.rw_nestways_k91_whole_least_shape).prog 47).name = ("law" : PySem.Str) := by kernel_rfl
      rw [← e]
      exact hmg0
    obtain ⟨fd, hb, hF⟩ := Nw.facts (P := (PySem.Challenge.rw_nestways_k91_whole_least_shape).prog) (w := w) KX G hmg c
    exact ⟨K, fd, Nw.spLaw K 63, KX, hb, fun H a ns hl _ hS => ⟨a, ns, rfl, hl, hS, fun _ => rfl⟩, hF⟩
