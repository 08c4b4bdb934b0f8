import PyProof.Rows.All
import Wide.All
import OpenK.AllK
import Wide.FinOn
import HandS.ForMost
import HandS.Exc
import HandS.WordsExc
import HandS.TupAny
import HandS.Deep
import HandS.IsInst
import HandS.More
import HandS.ExcIs
import HandS.TryOnly
import HandS.Dict
import HandS.Small
import HandS.Iter
import HandS.SetFor
import HandS.DictComp
import HandS.Property
import HandS.Style
import HandS.FStr
import HandS.RaiseMore
import KE.KxText
import KE.KStrBytes
import PyProof.P3Eq
import PySem.Challenge.RW_byteshape_k05_written_form
set_option Elab.async false
set_option linter.all false
set_option maxRecDepth 100000
set_option maxHeartbeats 4000000
/-! ML 1: data, cells, the ghost heap, the relation to the abstract heap of the hand layer. -/
namespace ML
open PySem PySem.Spec PyProof.Rows L2

/-- data: what a Python value is, tuples and frozen lists through and through; ref: a cell of the store -/
inductive Dv where
  | non | bl (b : Bool) | int (i : Int) | str (x : Str)
  | tup (l : List Dv) | lst (l : List Dv) | scr (l : List Dv) | ref (n : Nat) | ty (s : String) | exc (a : Nat)
/-- a mutable object -/
inductive Cell where
  | lst (l : List Dv) | dct (kvs : List (Key × Dv)) | ins (c : Str) (fs : List (Str × Dv)) | dead | lck (kvs : List (Key × Dv))
/-- a cell whose object is frozen -/
inductive Still : Cell → Prop where
  | dead : Still .dead
  | lck (kvs : List (Key × Dv)) : Still (.lck kvs)
abbrev Sto := List Cell
abbrev Env' := List (Option Dv)

/-- an exception: its class by name, its fields -/
structure Exn where
  cls : Str
  fs : List (Str × Dv)

/-- outcome -/
inductive Rs (α : Type) where
  | ok (a : α) (S : Sto)
  | er (e : Exn) (S : Sto)
abbrev M (α : Type) := Sto → Option (Rs α)
def M.pure {α : Type} (a : α) : M α := fun S => some (.ok a S)
def M.bind {α β : Type} (x : M α) (f : α → M β) : M β := fun S => match x S with
  | none => none
  | some (.er e S') => some (.er e S')
  | some (.ok a S') => f a S'
instance : Monad M where
  pure := M.pure
  bind := M.bind
def stuck {α : Type} : M α := fun _ => none
def ofO {α : Type} : Option α → M α
  | some a => M.pure a
  | none => stuck
theorem bind_some {α β : Type} {x : M α} {f : α → M β} {S : Sto} {r : Rs β} (h : M.bind x f S = some r) :
    (∃ a S', x S = some (.ok a S') ∧ f a S' = some r) ∨ (∃ e S', x S = some (.er e S') ∧ r = .er e S') := by
  unfold M.bind at h
  cases e : x S with
  | none => rw [e] at h; cases h
  | some o =>
    rw [e] at h
    cases o with
    | ok a S' => exact .inl ⟨a, S', rfl, h⟩
    | er x S' => exact .inr ⟨x, S', rfl, (Option.some.inj h).symm⟩

/-- the written part and the module's names -/
structure Bs where
  K : PySem.W.Frag
  mg : Str → Option Value
abbrev _root_.L2.Cx.bs (X : Cx) : Bs := ⟨X.K, X.mg⟩

/-- the ghost: what is frozen, where the cells stand -/
structure Gh where
  F : Hp
  m : List Addr
  /-- private objects, kept by all -/
  pv : List (Addr × HO)
def Gh.le (g g' : Gh) : Prop := (∀ a o, g.F a = some o → g'.F a = some o) ∧ (∀ (n : Nat) (a : Addr), g.m[n]? = some a → g'.m[n]? = some a) ∧ g'.pv = g.pv
theorem Gh.le_refl (g : Gh) : g.le g := ⟨fun _ _ h => h, fun _ _ h => h, rfl⟩
theorem Gh.le_trans {a b c : Gh} (h : a.le b) (k : b.le c) : a.le c := ⟨fun x o e => k.1 x o (h.1 x o e), fun n x e => k.2.1 n x (h.2.1 n x e), k.2.2.trans h.2.2⟩

theorem Rd.mono {F F' : Hp} (h : ∀ a o, F a = some o → F' a = some o) {a : Addr} {u : HO} (r : Rd F a u) : Rd F' a u := by
  rcases r with r | ⟨o, r⟩
  · exact .inl (h _ _ r)
  · exact .inr ⟨o, h _ _ r⟩
theorem SqL_mono {K : PySem.W.Frag} {F F' : Hp} (h : ∀ a o, F a = some o → F' a = some o) {a : Addr} {xs : List V} (r : SqL K F a xs) : SqL K F' a xs := by
  rcases r with r | r
  · exact .inl (Rd.mono h r)
  · exact .inr r
theorem SqT_mono {K : PySem.W.Frag} {F F' : Hp} (h : ∀ a o, F a = some o → F' a = some o) {a : Addr} {xs : List V} (r : SqT K F a xs) : SqT K F' a xs := by
  rcases r with r | r
  · exact .inl (Rd.mono h r)
  · exact .inr r

mutual
/-- the value v is the data d -/
inductive Rp (K : PySem.W.Frag) (g : Gh) : Dv → V → Prop
  | non : Rp K g .non .non
  | bl (b : Bool) : Rp K g (.bl b) (.bl b)
  | int (i : Int) : Rp K g (.int i) (.int i)
  | str (x : Str) : Rp K g (.str x) (.str x)
  | ty (n : String) : Rp K g (.ty n) (.ty n)
  | exc (a : Addr) : Rp K g (.exc a) (.ref a)
  | tup {a : Addr} {vs : List V} {l : List Dv} : SqT K g.F a vs → Rps K g l vs → Rp K g (.tup l) (.ref a)
  | lst {a : Addr} {vs : List V} {l : List Dv} : g.F a = some (.lst vs) → Rps K g l vs → Rp K g (.lst l) (.ref a)
  | scr {a : Addr} {vs : List V} {l : List Dv} : SqL K g.F a vs → Rps K g l vs → Rp K g (.scr l) (.ref a)
  | ref {n : Nat} {a : Addr} : g.m[n]? = some a → Rp K g (.ref n) (.ref a)
inductive Rps (K : PySem.W.Frag) (g : Gh) : List Dv → List V → Prop
  | nil : Rps K g [] []
  | cons {d : Dv} {v : V} {ds : List Dv} {vs : List V} : Rp K g d v → Rps K g ds vs → Rps K g (d :: ds) (v :: vs)
end
section
variable {K : PySem.W.Frag} {g g' : Gh}
mutual
theorem Rp.same {F : Hp} {m : List Addr} {pv pv' : List (Addr × HO)} : ∀ {d : Dv} {v : V}, Rp K ⟨F, m, pv⟩ d v → Rp K ⟨F, m, pv'⟩ d v
  | _, _, .non => .non
  | _, _, .bl b => .bl b
  | _, _, .int i => .int i
  | _, _, .str x => .str x
  | _, _, .ty n => .ty n
  | _, _, .exc n => .exc n
  | _, _, .tup s r => .tup s (Rps.same r)
  | _, _, .lst s r => .lst s (Rps.same r)
  | _, _, .scr s r => .scr s (Rps.same r)
  | _, _, .ref e => .ref e
theorem Rps.same {F : Hp} {m : List Addr} {pv pv' : List (Addr × HO)} : ∀ {d : List Dv} {v : List V}, Rps K ⟨F, m, pv⟩ d v → Rps K ⟨F, m, pv'⟩ d v
  | _, _, .nil => .nil
  | _, _, .cons r t => .cons (Rp.same r) (Rps.same t)
end
mutual
theorem Rp.mono (h : g.le g') : ∀ {d : Dv} {v : V}, Rp K g d v → Rp K g' d v
  | _, _, .non => .non
  | _, _, .bl b => .bl b
  | _, _, .int i => .int i
  | _, _, .str x => .str x
  | _, _, .ty n => .ty n
  | _, _, .exc n => .exc n
  | _, _, .tup s r => .tup (SqT_mono h.1 s) (Rps.mono h r)
  | _, _, .lst s r => .lst (h.1 _ _ s) (Rps.mono h r)
  | _, _, .scr s r => .scr (SqL_mono h.1 s) (Rps.mono h r)
  | _, _, .ref e => .ref (h.2.1 _ _ e)
theorem Rps.mono (h : g.le g') : ∀ {d : List Dv} {v : List V}, Rps K g d v → Rps K g' d v
  | _, _, .nil => .nil
  | _, _, .cons r t => .cons (Rp.mono h r) (Rps.mono h t)
end
theorem Rp.mono' (h1 : ∀ a o, g.F a = some o → g'.F a = some o) (h2 : ∀ (n : Nat) (a : Addr), g.m[n]? = some a → g'.m[n]? = some a) {d : Dv} {v : V} (r : Rp K g d v) : Rp K g' d v := by
  have q : Rp K ⟨g'.F, g'.m, g.pv⟩ d v := Rp.mono (g := g) (g' := ⟨g'.F, g'.m, g.pv⟩) ⟨h1, h2, rfl⟩ r
  exact Rp.same q
theorem Rps.mono' (h1 : ∀ a o, g.F a = some o → g'.F a = some o) (h2 : ∀ (n : Nat) (a : Addr), g.m[n]? = some a → g'.m[n]? = some a) {d : List Dv} {v : List V} (r : Rps K g d v) : Rps K g' d v := by
  have q : Rps K ⟨g'.F, g'.m, g.pv⟩ d v := Rps.mono (g := g) (g' := ⟨g'.F, g'.m, g.pv⟩) ⟨h1, h2, rfl⟩ r
  exact Rps.same q
theorem Rps.length : ∀ {ds : List Dv} {vs : List V}, Rps K g ds vs → ds.length = vs.length
  | _, _, .nil => rfl
  | _, _, .cons _ t => by simp [Rps.length t]
theorem Rps.get : ∀ {ds : List Dv} {vs : List V} {i : Nat} {d : Dv}, Rps K g ds vs → ds[i]? = some d → ∃ v, vs[i]? = some v ∧ Rp K g d v
  | _, _, _, _, .nil, e => by simp at e
  | _, _, 0, _, .cons r _, e => by simp at e; subst e; exact ⟨_, rfl, r⟩
  | _, _, i + 1, d, .cons _ t, e => by
    obtain ⟨v, h1, h2⟩ := Rps.get (i := i) (d := d) t (by simpa using e)
    exact ⟨v, by simpa using h1, h2⟩
theorem Rps.getV : ∀ {ds : List Dv} {vs : List V} {i : Nat} {v : V}, Rps K g ds vs → vs[i]? = some v → ∃ d, ds[i]? = some d ∧ Rp K g d v
  | _, _, _, _, .nil, e => by simp at e
  | _, _, 0, _, .cons r _, e => by simp at e; subst e; exact ⟨_, rfl, r⟩
  | _, _, i + 1, d, .cons _ t, e => by
    obtain ⟨v, h1, h2⟩ := Rps.getV (i := i) (v := d) t (by simpa using e)
    exact ⟨v, by simpa using h1, h2⟩
theorem Rps.append : ∀ {ds es : List Dv} {vs ws : List V}, Rps K g ds vs → Rps K g es ws → Rps K g (ds ++ es) (vs ++ ws)
  | _, _, _, _, .nil, s => s
  | _, _, _, _, .cons r t, s => .cons r (Rps.append t s)
theorem Rps.take : ∀ {ds : List Dv} {vs : List V} (n : Nat), Rps K g ds vs → Rps K g (ds.take n) (vs.take n)
  | _, _, 0, _ => .nil
  | _, _, _ + 1, .nil => .nil
  | _, _, n + 1, .cons r t => .cons r (Rps.take n t)
theorem Rps.drop : ∀ {ds : List Dv} {vs : List V} (n : Nat), Rps K g ds vs → Rps K g (ds.drop n) (vs.drop n)
  | _, _, 0, r => r
  | _, _, _ + 1, .nil => .nil
  | _, _, n + 1, .cons _ t => Rps.drop n t
theorem Rps.set {d : Dv} {v : V} (r : Rp K g d v) : ∀ {ds : List Dv} {vs : List V} (i : Nat), Rps K g ds vs → Rps K g (ds.set i d) (vs.set i v)
  | _, _, _, .nil => .nil
  | _, _, 0, .cons _ t => .cons r t
  | _, _, i + 1, .cons q t => .cons q (Rps.set r i t)
theorem Rps.eraseIdx : ∀ {ds : List Dv} {vs : List V} (i : Nat), Rps K g ds vs → Rps K g (ds.eraseIdx i) (vs.eraseIdx i)
  | _, _, _, .nil => .nil
  | _, _, 0, .cons _ t => t
  | _, _, i + 1, .cons q t => .cons q (Rps.eraseIdx i t)
theorem Rps.reverse : ∀ {ds : List Dv} {vs : List V}, Rps K g ds vs → Rps K g ds.reverse vs.reverse
  | _, _, .nil => .nil
  | _, _, .cons r t => by
    rw [List.reverse_cons, List.reverse_cons]
    exact Rps.append (Rps.reverse t) (.cons r .nil)
/-- ints, texts, bools -/
theorem Rps.ints : ∀ (ns : List Int), Rps K g (ns.map Dv.int) (ns.map V.int)
  | [] => .nil
  | n :: ns => .cons (.int n) (Rps.ints ns)
theorem Rps.strs : ∀ (ns : List Str), Rps K g (ns.map Dv.str) (ns.map V.str)
  | [] => .nil
  | n :: ns => .cons (.str n) (Rps.strs ns)
end

/-- the pairs of a dict, the fields of an instance -/
def Rkv {κ : Type} (K : PySem.W.Frag) (g : Gh) : List (κ × Dv) → List (κ × V) → Prop
  | [], [] => True
  | p :: ps, q :: qs => p.1 = q.1 ∧ Rp K g p.2 q.2 ∧ Rkv K g ps qs
  | _, _ => False
theorem Rkv.mono {κ : Type} {K : PySem.W.Frag} {g g' : Gh} (h : g.le g') : ∀ {ps : List (κ × Dv)} {qs : List (κ × V)}, Rkv K g ps qs → Rkv K g' ps qs
  | [], [], _ => trivial
  | _ :: _, _ :: _, ⟨a, b, c⟩ => ⟨a, b.mono h, Rkv.mono h c⟩
  | [], _ :: _, x => x.elim
  | _ :: _, [], x => x.elim

theorem Rkv.mono' {κ : Type} {K : PySem.W.Frag} {g g' : Gh} (h1 : ∀ a o, g.F a = some o → g'.F a = some o) (h2 : ∀ (n : Nat) (a : Addr), g.m[n]? = some a → g'.m[n]? = some a) : ∀ {ps : List (κ × Dv)} {qs : List (κ × V)}, Rkv K g ps qs → Rkv K g' ps qs
  | [], [], _ => trivial
  | _ :: _, _ :: _, ⟨a, b, c⟩ => ⟨a, b.mono' h1 h2, Rkv.mono' h1 h2 c⟩
  | [], _ :: _, x => x.elim
  | _ :: _, [], x => x.elim

def CellOk (B : Bs) (g : Gh) (H : Hp) (a : Addr) : Cell → Prop
  | .lst l => ∃ vs, H a = some (.lst vs) ∧ Rps B.K g l vs
  | .dct kvs => ∃ ws, H a = some (.dK ws) ∧ Rkv B.K g kvs ws
  | .ins c fs => ∃ C dx ws, B.mg c = some (.ref C) ∧ H a = some (.ins C dx ws) ∧ H dx = some (.own a) ∧ g.F dx = none ∧ Rkv B.K g fs ws
  | .dead => ∃ o, g.F a = some o
  | .lck kvs => ∃ od ws, g.F a = some (.frz od (.dK ws)) ∧ Rkv B.K g kvs ws
/-- the store stands in the abstract heap -/
structure Ok (B : Bs) (g : Gh) (H : Hp) (S : Sto) : Prop where
  fz : ∀ a o, g.F a = some o → H a = some o
  len : g.m.length = S.length
  cel : ∀ (n : Nat) c a, S[n]? = some c → g.m[n]? = some a → CellOk B g H a c
  nf : ∀ (n : Nat) c a, S[n]? = some c → g.m[n]? = some a → g.F a = none ∨ Still c
  inj : ∀ (i j : Nat) a, g.m[i]? = some a → g.m[j]? = some a → i = j
  pvt : ∀ p ∈ g.pv, H p.1 = some p.2 ∧ g.F p.1 = none ∧ ∀ n : Nat, g.m[n]? ≠ some p.1
/-- the frame's slots -/
structure En (B : Bs) (g : Gh) (σ : L2.St) (env : Env') : Prop where
  len : env.length = σ.length
  at_ : ∀ (i : Nat) d, env[i]? = some (some d) → ∃ v, σ[i]? = some (some v) ∧ Rp B.K g d v
theorem En.mono {B : Bs} {g g' : Gh} (h : g.le g') {σ : L2.St} {env : Env'} (e : En B g σ env) : En B g' σ env :=
  ⟨e.len, fun i d q => let ⟨v, a, b⟩ := e.at_ i d q; ⟨v, a, b.mono h⟩⟩
theorem En.set {B : Bs} {g : Gh} {σ : L2.St} {env : Env'} (e : En B g σ env) (i : Nat) {d : Dv} {v : V} (r : Rp B.K g d v) : En B g (σ.set i (some v)) (env.set i (some d)) := by
  refine ⟨by rw [List.length_set, List.length_set]; exact e.len, fun j d' h => ?_⟩
  by_cases hj : i = j
  · subst hj
    by_cases hl : i < env.length
    · rw [List.getElem?_set_self hl] at h
      cases h
      exact ⟨v, List.getElem?_set_self (by rw [← e.len]; exact hl), r⟩
    · rw [List.getElem?_eq_none (by rw [List.length_set]; omega)] at h
      cases h
  · rw [List.getElem?_set_ne hj] at h
    obtain ⟨w, a, b⟩ := e.at_ j d' h
    exact ⟨w, by rw [List.getElem?_set_ne hj]; exact a, b⟩

section
variable {B : Bs} {g g' : Gh} {H H' : Hp} {S : Sto}
theorem Ok.live {n : Nat} {c : Cell} {a : Addr} (h : Ok B g H S) (hs : S[n]? = some c) (hm : g.m[n]? = some a) : ∃ o, H a = some o := by
  have q := h.cel n c a hs hm
  cases c with
  | lst l => obtain ⟨_, e, _⟩ := q; exact ⟨_, e⟩
  | dct l => obtain ⟨_, e, _⟩ := q; exact ⟨_, e⟩
  | ins c fs => obtain ⟨_, _, _, _, e, _⟩ := q; exact ⟨_, e⟩
  | dead => obtain ⟨o, e⟩ := q; exact ⟨o, h.fz a o e⟩
  | lck l => obtain ⟨od, ws, e, _⟩ := q; exact ⟨_, h.fz a _ e⟩
theorem Ok.at_ {n : Nat} {a : Addr} (h : Ok B g H S) (hm : g.m[n]? = some a) : ∃ c, S[n]? = some c := by
  have hl := h.len
  have hn : n < g.m.length := (List.getElem?_eq_some_iff.mp hm).1
  exact ⟨S[n]'(by omega), List.getElem?_eq_getElem (by omega)⟩
theorem Ok.adr {n : Nat} {c : Cell} (h : Ok B g H S) (hs : S[n]? = some c) : ∃ a, g.m[n]? = some a := by
  have hl := h.len
  have hn : n < S.length := (List.getElem?_eq_some_iff.mp hs).1
  exact ⟨g.m[n]'(by omega), List.getElem?_eq_getElem (by omega)⟩
/-- the heap grows: all that stood stands -/
theorem CellOk.same {a : Addr} {c : Cell} (q : CellOk B g H a c) (hg : g.le g') (k : ∀ b o, H b = some o → H' b = some o) (nd : ∀ b, g.F b = none → H b ≠ none → g'.F b = none) : CellOk B g' H' a c := by
  cases c with
  | lst l => obtain ⟨vs, e, r⟩ := q; exact ⟨vs, k _ _ e, r.mono hg⟩
  | dct l => obtain ⟨vs, e, r⟩ := q; exact ⟨vs, k _ _ e, r.mono hg⟩
  | ins c fs => obtain ⟨C, dx, ws, hm, e, ed, ef, r⟩ := q; exact ⟨C, dx, ws, hm, k _ _ e, k _ _ ed, nd dx ef (by rw [ed]; simp), r.mono hg⟩
  | dead => obtain ⟨o, e⟩ := q; exact ⟨o, hg.1 _ _ e⟩
  | lck l => obtain ⟨od, ws, e, r⟩ := q; exact ⟨od, ws, hg.1 _ _ e, r.mono hg⟩
/-- a new frozen object -/
def Gh.frz (g : Gh) (p : Addr) (o : HO) : Gh := ⟨upd g.F p o, g.m, g.pv⟩
theorem Gh.frz_le {p : Addr} {o : HO} (h : g.F p = none) : g.le (g.frz p o) :=
  ⟨fun a u e => by show upd g.F p o a = some u; rw [upd_ne (ne_of_none e h)]; exact e, fun _ _ e => e, rfl⟩
theorem Ok.free {p : Addr} (h : Ok B g H S) (hp : H p = none) : g.F p = none := by
  cases q : g.F p with
  | none => rfl
  | some o => rw [h.fz p o q] at hp; cases hp
theorem Ok.newF {p : Addr} {o : HO} (h : Ok B g H S) (hp : H p = none) : g.le (g.frz p o) ∧ Ok B (g.frz p o) (upd H p o) S := by
  have hf := h.free hp
  have hle : g.le (g.frz p o) := Gh.frz_le hf
  refine ⟨hle, ⟨fun a u e => ?_, h.len, fun n c a hs hm => ?_, fun n c a hs hm => ?_, h.inj, fun q hq => ?_⟩⟩
  · have e' : upd g.F p o a = some u := e
    by_cases ha : a = p
    · subst ha; rw [upd_same] at e' ⊢; exact e'
    · rw [upd_ne ha] at e' ⊢; exact h.fz a u e'
  · refine (h.cel n c a hs hm).same hle (fun b u e => by rw [upd_ne (ne_of_none e hp)]; exact e) fun b e hb => ?_
    show upd g.F p o b = none
    rw [upd_ne (fun z => by subst z; exact hb hp)]
    exact e
  · rcases h.nf n c a hs hm with z | z
    · refine .inl ?_
      obtain ⟨u, hu⟩ := h.live hs hm
      show upd g.F p o a = none
      rw [upd_ne (ne_of_none hu hp)]
      exact z
    · exact .inr z
  · obtain ⟨e1, e2, e3⟩ := h.pvt q hq
    have ne := ne_of_none e1 hp
    exact ⟨by rw [upd_ne ne]; exact e1, by show upd g.F p o q.1 = none; rw [upd_ne ne]; exact e2, e3⟩
/-- a new cell -/
def Gh.cell (g : Gh) (p : Addr) : Gh := ⟨g.F, g.m ++ [p], g.pv⟩
theorem Gh.cell_le {p : Addr} : g.le (g.cell p) := ⟨fun _ _ e => e, fun n a e => by
  show (g.m ++ [p])[n]? = some a
  rw [List.getElem?_append_left (List.getElem?_eq_some_iff.mp e).1]
  exact e, rfl⟩
theorem Gh.cell_at {p : Addr} : (g.cell p).m[g.m.length]? = some p := by
  show (g.m ++ [p])[g.m.length]? = some p
  simp
theorem Ok.newC {p : Addr} {o : HO} {c : Cell} (h : Ok B g H S) (hp : H p = none) (hc : CellOk B (g.cell p) (upd H p o) p c) : g.le (g.cell p) ∧ Ok B (g.cell p) (upd H p o) (S ++ [c]) := by
  have hle : g.le (g.cell p) := Gh.cell_le
  have hlen := h.len
  have split : ∀ (n : Nat) c' a, (S ++ [c])[n]? = some c' → (g.cell p).m[n]? = some a → (S[n]? = some c' ∧ g.m[n]? = some a) ∨ (c' = c ∧ a = p) := fun n c' a e1 e2 => by
    have e2' : (g.m ++ [p])[n]? = some a := e2
    by_cases hn : n < S.length
    · rw [List.getElem?_append_left hn] at e1
      rw [List.getElem?_append_left (by omega)] at e2'
      exact .inl ⟨e1, e2'⟩
    · rw [List.getElem?_append_right (by omega)] at e1
      rw [List.getElem?_append_right (by omega)] at e2'
      rw [hlen] at e2'
      cases hk : n - S.length with
      | zero => rw [hk] at e1 e2'; simp at e1 e2'; exact .inr ⟨e1.symm, e2'.symm⟩
      | succ k => rw [hk] at e1; simp at e1
  refine ⟨hle, ⟨fun a u e => ?_, ?_, fun n c' a hs hm => ?_, fun n c' a hs hm => ?_, fun i j a e1 e2 => ?_, fun q hq => ?_⟩⟩
  · have e' : g.F a = some u := e
    rw [upd_ne (ne_of_none (h.fz a u e') hp)]
    exact h.fz a u e'
  · show (g.m ++ [p]).length = _
    simp [hlen]
  · rcases split n c' a hs hm with ⟨e1, e2⟩ | ⟨rfl, rfl⟩
    · exact (h.cel n c' a e1 e2).same hle (fun b u e => by rw [upd_ne (ne_of_none e hp)]; exact e) fun b e _ => e
    · exact hc
  · rcases split n c' a hs hm with ⟨e1, e2⟩ | ⟨rfl, rfl⟩
    · exact h.nf n c' a e1 e2
    · exact .inl (h.free hp)
  · have pos : ∀ (i : Nat) a, (g.cell p).m[i]? = some a → (i < g.m.length ∧ g.m[i]? = some a) ∨ (i = g.m.length ∧ a = p) := fun i a e => by
      have e' : (g.m ++ [p])[i]? = some a := e
      by_cases hi : i < g.m.length
      · rw [List.getElem?_append_left hi] at e'
        exact .inl ⟨hi, e'⟩
      · rw [List.getElem?_append_right (by omega)] at e'
        cases hk : i - g.m.length with
        | zero => rw [hk] at e'; simp at e'; exact .inr ⟨by omega, e'.symm⟩
        | succ k => rw [hk] at e'; simp at e'
    have old : ∀ (i : Nat), g.m[i]? = some p → False := fun i e => by
      obtain ⟨c', hc'⟩ := h.at_ e
      obtain ⟨o', ho'⟩ := h.live hc' e
      rw [hp] at ho'; cases ho'
    rcases pos i a e1 with ⟨_, q1⟩ | ⟨q1, rfl⟩
    · rcases pos j a e2 with ⟨_, q2⟩ | ⟨q2, rfl⟩
      · exact h.inj i j a q1 q2
      · exact (old i q1).elim
    · rcases pos j a e2 with ⟨_, q2⟩ | ⟨q2, _⟩
      · exact (old j q2).elim
      · rw [q1, q2]
  · obtain ⟨e1, e2, e3⟩ := h.pvt q hq
    have ne := ne_of_none e1 hp
    refine ⟨by rw [upd_ne ne]; exact e1, e2, fun n e => ?_⟩
    have e' : (g.m ++ [p])[n]? = some q.1 := e
    by_cases hn : n < g.m.length
    · rw [List.getElem?_append_left hn] at e'
      exact e3 n e'
    · rw [List.getElem?_append_right (by omega)] at e'
      cases hk : n - g.m.length with
      | zero => rw [hk] at e'; simp at e'; exact ne e'.symm
      | succ k => rw [hk] at e'; simp at e'
/-- a cell written -/
theorem Ok.write {n : Nat} {c c' : Cell} {a : Addr} {o : HO} (h : Ok B g H S) (hs : S[n]? = some c) (hd : ¬ Still c) (hm : g.m[n]? = some a) (hc : CellOk B g (upd H a o) a c') : Ok B g (upd H a o) (S.set n c') := by
  have nF : g.F a = none := by
    rcases h.nf n c a hs hm with z | z
    · exact z
    · exact absurd z hd
  have hn : n < S.length := (List.getElem?_eq_some_iff.mp hs).1
  have notown : ∀ x, H a ≠ some (.own x) := fun x e => by
    have q := h.cel n c a hs hm
    cases c with
    | lst l => obtain ⟨_, e', _⟩ := q; rw [e] at e'; cases e'
    | dct l => obtain ⟨_, e', _⟩ := q; rw [e] at e'; cases e'
    | ins c fs => obtain ⟨_, _, _, _, e', _⟩ := q; rw [e] at e'; cases e'
    | dead => exact hd .dead
    | lck l => exact hd (.lck l)
  refine ⟨fun b u e => ?_, by rw [List.length_set]; exact h.len, fun k d b e1 e2 => ?_, fun k d b e1 e2 => ?_, h.inj, fun q hq => ?_⟩
  · rw [upd_ne (fun z => by rw [z, nF] at e; cases e)]
    exact h.fz b u e
  · by_cases hk : n = k
    · subst hk
      rw [List.getElem?_set_self hn] at e1
      cases e1
      rw [hm] at e2; cases e2
      exact hc
    · rw [List.getElem?_set_ne hk] at e1
      have ne : b ≠ a := fun z => hk (h.inj n k a hm (z ▸ e2))
      have q := h.cel k d b e1 e2
      cases d with
      | lst l => obtain ⟨vs, e, r⟩ := q; exact ⟨vs, by rw [upd_ne ne]; exact e, r⟩
      | dct l => obtain ⟨vs, e, r⟩ := q; exact ⟨vs, by rw [upd_ne ne]; exact e, r⟩
      | ins c fs =>
        obtain ⟨C, dx, ws, hmg, e, ed, ef, r⟩ := q
        refine ⟨C, dx, ws, hmg, by rw [upd_ne ne]; exact e, ?_, ef, r⟩
        rw [upd_ne (fun z => notown b (by rw [← z]; exact ed))]
        exact ed
      | dead => exact q
      | lck l => exact q
  · by_cases hk : n = k
    · subst hk
      rw [hm] at e2; cases e2
      exact .inl nF
    · rw [List.getElem?_set_ne hk] at e1
      exact h.nf k d b e1 e2
  · obtain ⟨e1, e2, e3⟩ := h.pvt q hq
    exact ⟨by rw [upd_ne (fun z => e3 n (by rw [z]; exact hm))]; exact e1, e2, e3⟩
/-- a list's cell is frozen -/
theorem Ok.freeze {n : Nat} {a : Addr} {l : List Dv} {vs : List V} (h : Ok B g H S) (hs : S[n]? = some (.lst l)) (hm : g.m[n]? = some a) (hv : H a = some (.lst vs)) :
    g.le (g.frz a (.lst vs)) ∧ Ok B (g.frz a (.lst vs)) H (S.set n .dead) := by
  have nF : g.F a = none := by
    rcases h.nf n _ a hs hm with z | z
    · exact z
    · cases z
  have hle : g.le (g.frz a (.lst vs)) := Gh.frz_le nF
  have hn : n < S.length := (List.getElem?_eq_some_iff.mp hs).1
  refine ⟨hle, ⟨fun b u e => ?_, by rw [List.length_set]; exact h.len, fun k d b e1 e2 => ?_, fun k d b e1 e2 => ?_, h.inj, fun q hq => ?_⟩⟩
  · have e' : upd g.F a (.lst vs) b = some u := e
    by_cases hb : b = a
    · subst hb; rw [upd_same] at e'; rw [hv]; exact e'
    · rw [upd_ne hb] at e'; exact h.fz b u e'
  · by_cases hk : n = k
    · subst hk
      rw [List.getElem?_set_self hn] at e1
      cases e1
      have e2' : g.m[n]? = some b := e2
      rw [hm] at e2'; cases e2'
      exact ⟨_, upd_same⟩
    · rw [List.getElem?_set_ne hk] at e1
      have q := h.cel k d b e1 e2
      cases d with
      | lst l => obtain ⟨ws, e, r⟩ := q; exact ⟨ws, e, r.mono hle⟩
      | dct l => obtain ⟨ws, e, r⟩ := q; exact ⟨ws, e, r.mono hle⟩
      | ins c fs =>
        obtain ⟨C, dx, ws, hmg, e, ed, ef, r⟩ := q
        refine ⟨C, dx, ws, hmg, e, ed, ?_, r.mono hle⟩
        show upd g.F a _ dx = none
        rw [upd_ne (fun z => by rw [z, hv] at ed; cases ed)]
        exact ef
      | dead => obtain ⟨o, e⟩ := q; exact ⟨o, hle.1 _ _ e⟩
      | lck l => obtain ⟨od, ws, e, r⟩ := q; exact ⟨od, ws, hle.1 _ _ e, r.mono hle⟩
  · by_cases hk : n = k
    · subst hk
      rw [List.getElem?_set_self hn] at e1
      cases e1
      exact .inr .dead
    · rw [List.getElem?_set_ne hk] at e1
      have ne : b ≠ a := fun z => hk (h.inj n k a hm (z ▸ e2))
      rcases h.nf k d b e1 e2 with z | z
      · refine .inl ?_
        show upd g.F a _ b = none
        rw [upd_ne ne]
        exact z
      · exact .inr z
  · obtain ⟨e1, e2, e3⟩ := h.pvt q hq
    exact ⟨e1, by show upd g.F a _ q.1 = none; rw [upd_ne (fun z => e3 n (by rw [z]; exact hm))]; exact e2, e3⟩
/-! ### private objects: made, written, given out -/
def Gh.priv (g : Gh) (p : Addr) (o : HO) : Gh := ⟨g.F, g.m, (p, o) :: g.pv⟩
theorem Ok.priv {p : Addr} {o : HO} (h : Ok B g H S) (hp : H p = none) : Ok B (g.priv p o) (upd H p o) S := by
  refine ⟨fun a u e => by rw [upd_ne (ne_of_none (h.fz a u e) hp)]; exact h.fz a u e, h.len, fun n c a hs hm => ?_, h.nf, h.inj, fun q hq => ?_⟩
  · have q := h.cel n c a hs hm
    have q2 : CellOk B g (upd H p o) a c := q.same (Gh.le_refl g) (fun b u e => by rw [upd_ne (ne_of_none e hp)]; exact e) fun b e _ => e
    cases c with
    | lst l => obtain ⟨vs, e, r⟩ := q2; exact ⟨vs, e, r.mono' (g := g) (g' := g.priv p o) (fun _ _ e => e) fun _ _ e => e⟩
    | dct l => obtain ⟨vs, e, r⟩ := q2; exact ⟨vs, e, r.mono' (g := g) (g' := g.priv p o) (fun _ _ e => e) fun _ _ e => e⟩
    | ins c fs => obtain ⟨C, dx, ws, hmg, e, ed, ef, r⟩ := q2; exact ⟨C, dx, ws, hmg, e, ed, ef, r.mono' (g := g) (g' := g.priv p o) (fun _ _ e => e) fun _ _ e => e⟩
    | dead => exact q2
    | lck l => obtain ⟨od, ws, e, r⟩ := q2; exact ⟨od, ws, e, r.mono' (g := g) (g' := g.priv p o) (fun _ _ e => e) fun _ _ e => e⟩
  · rcases List.mem_cons.mp hq with rfl | hq
    · refine ⟨upd_same, h.free hp, fun n e => ?_⟩
      obtain ⟨c, hc⟩ := h.at_ (n := n) e
      obtain ⟨u, hu⟩ := h.live hc e
      rw [hp] at hu; cases hu
    · obtain ⟨e1, e2, e3⟩ := h.pvt q hq
      exact ⟨by rw [upd_ne (ne_of_none e1 hp)]; exact e1, e2, e3⟩
/-- back: the private object leaves the ghost, changed to o', frozen -/
theorem Ok.unpriv {g0 : Gh} {p : Addr} {o o' : HO} (h : Ok B g H S) (hg : g.pv = (p, o) :: g0.pv) (hn : ∀ q ∈ g0.pv, q.1 ≠ p) (no : ∀ {x}, o ≠ .own x) : Ok B ⟨upd g.F p o', g.m, g0.pv⟩ (upd H p o') S := by
  obtain ⟨p1, p2, p3⟩ := h.pvt (p, o) (by rw [hg]; exact List.mem_cons_self)
  have p1 : H p = some o := p1
  have p2 : g.F p = none := p2
  have p3 : ∀ n : Nat, g.m[n]? ≠ some p := p3
  have gF : ∀ a u, g.F a = some u → upd g.F p o' a = some u := fun a u e => by rw [upd_ne (fun z => by rw [z, p2] at e; cases e)]; exact e
  refine ⟨fun a u e => ?_, h.len, fun n c a hs hm => ?_, fun n c a hs hm => ?_, h.inj, fun q hq => ?_⟩
  · have e' : upd g.F p o' a = some u := e
    by_cases ha : a = p
    · subst ha; rw [upd_same] at e' ⊢; exact e'
    · rw [upd_ne ha] at e' ⊢; exact h.fz a u e'
  · have ne : a ≠ p := fun z => p3 n (z ▸ hm)
    have q := h.cel n c a hs hm
    cases c with
    | lst l => obtain ⟨vs, e, r⟩ := q; exact ⟨vs, by rw [upd_ne ne]; exact e, r.mono' (g := g) (g' := ⟨upd g.F p o', g.m, g0.pv⟩) gF fun _ _ e => e⟩
    | dct l => obtain ⟨vs, e, r⟩ := q; exact ⟨vs, by rw [upd_ne ne]; exact e, r.mono' (g := g) (g' := ⟨upd g.F p o', g.m, g0.pv⟩) gF fun _ _ e => e⟩
    | ins c fs =>
      obtain ⟨C, dx, ws, hmg, e, ed, ef, r⟩ := q
      have nd : dx ≠ p ∨ o = .own a := by
        by_cases z : dx = p
        · subst z
          rw [p1] at ed
          exact .inr (Option.some.inj ed)
        · exact .inl z
      rcases nd with nd | nd
      · exact ⟨C, dx, ws, hmg, by rw [upd_ne ne]; exact e, by rw [upd_ne nd]; exact ed, by show upd g.F p o' dx = none; rw [upd_ne nd]; exact ef, r.mono' (g := g) (g' := ⟨upd g.F p o', g.m, g0.pv⟩) gF fun _ _ e => e⟩
      · exact (no nd).elim
    | dead => obtain ⟨u, e⟩ := q; exact ⟨u, gF _ _ e⟩
    | lck l => obtain ⟨od, ws, e, r⟩ := q; exact ⟨od, ws, gF _ _ e, r.mono' (g := g) (g' := ⟨upd g.F p o', g.m, g0.pv⟩) gF fun _ _ e => e⟩
  · rcases h.nf n c a hs hm with z | z
    · refine .inl ?_
      show upd g.F p o' a = none
      rw [upd_ne (fun z2 => p3 n (by rw [← z2]; exact hm))]
      exact z
    · exact .inr z
  · obtain ⟨e1, e2, e3⟩ := h.pvt q (by rw [hg]; exact List.mem_cons_of_mem _ hq)
    have ne := hn q hq
    exact ⟨by rw [upd_ne ne]; exact e1, by show upd g.F p o' q.1 = none; rw [upd_ne ne]; exact e2, e3⟩
end

/-! ### lists read: frozen, or a cell -/
/-- the items of a list of the program's own -/
def ownOf (S : Sto) : Dv → Option (List Dv)
  | .lst l => some l
  | .ref n => match S[n]? with
    | some (.lst l) => some l
    | _ => none
  | _ => none
/-- the items of a list -/
def listOf (S : Sto) : Dv → Option (List Dv)
  | .scr l => some l
  | d => ownOf S d
theorem own_at {B : Bs} {g : Gh} {H : Hp} {S : Sto} {d : Dv} {v : V} {l : List Dv} (h : Ok B g H S) (r : Rp B.K g d v) (e : ownOf S d = some l) : ∃ a vs, v = .ref a ∧ H a = some (.lst vs) ∧ Rps B.K g l vs := by
  cases r with
  | lst s q =>
    cases e
    exact ⟨_, _, rfl, h.fz _ _ s, q⟩
  | ref hm =>
    rename_i n a
    obtain ⟨c, hc⟩ := h.at_ hm
    simp only [ownOf, hc] at e
    cases c with
    | lst l' =>
      cases e
      obtain ⟨vs, ha, q⟩ := h.cel _ _ _ hc hm
      exact ⟨a, vs, rfl, ha, q⟩
    | dct _ => cases e
    | ins _ _ => cases e
    | dead => cases e
    | lck _ => cases e
  | _ => cases e
theorem list_at {B : Bs} {g : Gh} {H : Hp} {S : Sto} {d : Dv} {v : V} {l : List Dv} (h : Ok B g H S) (r : Rp B.K g d v) (e : listOf S d = some l) : ∃ a vs, v = .ref a ∧ SqL B.K H a vs ∧ Rps B.K g l vs := by
  cases r with
  | scr s q =>
    cases e
    exact ⟨_, _, rfl, SqL_mono h.fz s, q⟩
  | lst s q =>
    obtain ⟨a, vs, h1, h2, h3⟩ := own_at h (.lst s q) e
    exact ⟨a, vs, h1, SqL.of h2, h3⟩
  | ref hm =>
    obtain ⟨a, vs, h1, h2, h3⟩ := own_at h (.ref hm) e
    exact ⟨a, vs, h1, SqL.of h2, h3⟩
  | _ => cases e
theorem tup_at {B : Bs} {g : Gh} {H : Hp} {S : Sto} {v : V} {l : List Dv} (h : Ok B g H S) (r : Rp B.K g (.tup l) v) : ∃ a vs, v = .ref a ∧ SqT B.K H a vs ∧ Rps B.K g l vs := by
  cases r with
  | tup s q => exact ⟨_, _, rfl, SqT_mono h.fz s, q⟩
end ML

/-! ML 2: the judgements over expressions; operators, comparisons, tests. -/
namespace ML
open PySem PySem.Spec PyProof.Rows L2

def Xr (B : Bs) (g : Gh) (H : Hp) (x : Exn) (c : Value) (dd : Option Addr) : Prop :=
  ∃ C, B.mg x.cls = some (.ref C) ∧ c = .ref C ∧ ((x.fs = [] ∧ dd = none) ∨ x.fs ≠ [] ∧ ∃ d ws, dd = some d ∧ H d = some (.xd ws) ∧ Rkv B.K g x.fs ws)
def Post {α β : Type} (B : Bs) (g : Gh) (R : Gh → α → β → Prop) (Q : β → Hp → Prop) (Wx : XK) : Rs α → Prop
  | .ok a S => ∀ g' b H', g.le g' → Ok B g' H' S → R g' a b → Q b H'
  | .er x S => ∀ g' c dd H', g.le g' → Ok B g' H' S → Xr B g' H' x c dd → Wx c dd H'
theorem Post.mono {α β : Type} {B : Bs} {g g1 : Gh} {R : Gh → α → β → Prop} {Q : β → Hp → Prop} {Wx : XK} {r : Rs α} (h : Post B g R Q Wx r) (hl : g.le g1) : Post B g1 R Q Wx r := by
  cases r with
  | ok a S => exact fun g' b H' l => h g' b H' (Gh.le_trans hl l)
  | er x S => exact fun g' c dd H' l => h g' c dd H' (Gh.le_trans hl l)
abbrev TX (β : Type) := L2.St → Hp → (β → Hp → Prop) → Prop
/-- a reading does what the mirror says -/
def Sn {α β : Type} (B : Bs) (W : WX) (R : Gh → α → β → Prop) (t : TX β) (f : Env' → M α) : Prop :=
  ∀ (g : Gh) (σ : L2.St) (H : Hp) (env : Env') (S : Sto) (r : Rs α) (Q : β → Hp → Prop), Ok B g H S → En B g σ env → f env S = some r → Post B g R Q (fun c dd H => W c dd σ H) r → t σ H Q
/-- what is behind a value, at the frame σ -/
def Sn1 {α β α1 β1 : Type} (B : Bs) (W : WX) (R1 : Gh → α1 → β1 → Prop) (R : Gh → α → β → Prop) (t : β1 → TX β) (f : α1 → Env' → M α) : Prop :=
  ∀ (g : Gh) (σ : L2.St) (H : Hp) (env : Env') (S : Sto) (a : α1) (b : β1) (r : Rs α) (Q : β → Hp → Prop), Ok B g H S → En B g σ env → R1 g a b → f a env S = some r → Post B g R Q (fun c dd H => W c dd σ H) r → t b σ H Q
theorem Sn.bind {α β α1 β1 : Type} {B : Bs} {W : WX} {R1 : Gh → α1 → β1 → Prop} {R : Gh → α → β → Prop} {t1 : TX β1} {f1 : Env' → M α1} {t2 : β1 → TX β} {f2 : α1 → Env' → M α}
    (h1 : Sn B W R1 t1 f1) (h2 : Sn1 B W R1 R t2 f2) : Sn B W R (fun σ H Q => t1 σ H fun b H1 => t2 b σ H1 Q) (fun env => do let a ← f1 env; f2 a env) := by
  intro g σ H env S r Q ok en e post
  rcases bind_some (x := f1 env) (f := fun a => f2 a env) e with ⟨a, S1, e1, e2⟩ | ⟨x, S1, e1, rfl⟩
  · exact h1 g σ H env S _ _ ok en e1 fun g' b H' l ok' r' => h2 g' σ H' env S1 a b r Q ok' (en.mono l) r' e2 (post.mono l)
  · exact h1 g σ H env S _ _ ok en e1 post
/-- the first value kept while a second one is asked -/
theorem Sn1.bind {α β α1 β1 α2 β2 : Type} {B : Bs} {W : WX} {R1 : Gh → α1 → β1 → Prop} {R2 : Gh → α2 → β2 → Prop} {R : Gh → α → β → Prop} {t2 : TX β2} {f2 : Env' → M α2} {t3 : β1 → β2 → TX β} {f3 : α1 → α2 → Env' → M α}
    (hm : ∀ g g' a b, g.le g' → R1 g a b → R1 g' a b) (h2 : Sn B W R2 t2 f2) (h3 : Sn1 B W (fun g (p : α1 × α2) (q : β1 × β2) => R1 g p.1 q.1 ∧ R2 g p.2 q.2) R (fun q => t3 q.1 q.2) (fun p => f3 p.1 p.2)) :
    Sn1 B W R1 R (fun b σ H Q => t2 σ H fun c H1 => t3 b c σ H1 Q) (fun a env => do let c ← f2 env; f3 a c env) := by
  intro g σ H env S a b r Q ok en ra e post
  rcases bind_some (x := f2 env) (f := fun c => f3 a c env) e with ⟨c, S1, e1, e2⟩ | ⟨x, S1, e1, rfl⟩
  · exact h2 g σ H env S _ _ ok en e1 fun g' d H' l ok' r' => h3 g' σ H' env S1 (a, c) (b, d) r Q ok' (en.mono l) ⟨hm _ _ _ _ l ra, r'⟩ e2 (post.mono l)
  · exact h2 g σ H env S _ _ ok en e1 post

/-- the standing premises -/
structure Ct (X : Cx) (W : WX) : Prop where
  calm : X.calm = true
  nd : X.N.Nodup
  un : X.A.units + 65 < cLine
  tk : Takes X W
abbrev Rv (X : Cx) : Gh → Dv → V → Prop := fun g => Rp X.K g
abbrev Rvs (X : Cx) : Gh → List Dv → List V → Prop := fun g => Rps X.K g
abbrev Re {α : Type} : Gh → α → α → Prop := fun _ a b => a = b
def DE (X : Cx) (W : WX) (e : Expr) (f : Env' → M Dv) : Prop := ∃ t : TE, PE X e t ∧ Sn X.bs W (Rv X) t f
def DT (X : Cx) (W : WX) (e : Expr) (f : Env' → M Bool) : Prop := ∃ t : TT, PT X e t ∧ Sn X.bs W Re t f
def DW (X : Cx) (W : WX) (e : Expr) (f : Env' → M Bool) : Prop := ∃ t : TT, PW X e t ∧ Sn X.bs W Re t f
def DA (X : Cx) (W : WX) (es : List Expr) (f : Env' → M (List Dv)) : Prop := ∃ t : TA, PA X es t ∧ Sn X.bs W (Rvs X) t f ∧ ∀ env S ds S', f env S = some (.ok ds S') → ds.length = es.length

/-! ### pure steps of the mirrors -/
def lift0 {α : Type} (o : Sto → Option α) : M α := fun S => match o S with
  | some d => some (.ok d S)
  | none => none
theorem lift0_some {α : Type} {o : Sto → Option α} {S : Sto} {r : Rs α} (h : lift0 o S = some r) : ∃ d, o S = some d ∧ r = .ok d S := by
  unfold lift0 at h
  cases e : o S with
  | none => rw [e] at h; cases h
  | some d => rw [e] at h; exact ⟨d, rfl, (Option.some.inj h).symm⟩
theorem pure_some {α : Type} {a : α} {S : Sto} {r : Rs α} (h : (pure a : M α) S = some r) : r = .ok a S := (Option.some.inj h).symm

section
variable {X : Cx} {W : WX}
/-! ### names, constants -/
def getv (i : Nat) (env : Env') : M Dv := match env[i]? with
  | some (some d) => M.pure d
  | _ => stuck
theorem de_var {i : Nat} {x : Str} {pos : Pos} (hN : X.N[i]? = some x) (hv : Vis X.env.scope x) (hd : (x == ("__debug__" : Str)) = false := by decide) (hcd : (x == ("__classdict__" : Str)) = false := by decide) :
    DE X W (.Name x pos) (getv i) := by
  refine ⟨_, pe_var hN hv hd hcd, fun g σ H env S r Q ok en e post => ?_⟩
  unfold getv at e
  cases he : env[i]? with
  | none => rw [he] at e; cases e
  | some o =>
    cases o with
    | none => rw [he] at e; cases e
    | some d =>
      rw [he] at e
      obtain ⟨v, h1, h2⟩ := en.at_ i d he
      have er := pure_some e
      subst er
      exact ⟨v, h1, post g v H (Gh.le_refl g) ok h2⟩
def eC (d : Dv) (_ : Env') : M Dv := pure d
theorem de_const {e : Expr} {d : Dv} {v : V} (hp : PE X e (tC v)) (hr : ∀ g, Rp X.K g d v) : DE X W e (eC d) := by
  refine ⟨_, hp, fun g σ H env S r Q ok en e post => ?_⟩
  have er := pure_some e
  subst er
  exact post g v H (Gh.le_refl g) ok (hr g)
theorem de_int {i j pos} : DE X W (.Constant (.int i) j pos) (eC (.int i)) := de_const pe_int fun _ => .int i
theorem de_bl {i j pos} : DE X W (.Constant (.bool i) j pos) (eC (.bl i)) := de_const pe_bl fun _ => .bl i
theorem de_non {j pos} : DE X W (.Constant .none j pos) (eC .non) := de_const pe_non fun _ => .non
theorem de_str {i j pos} : DE X W (.Constant (.str i) j pos) (eC (.str i)) := de_const pe_str fun _ => .str i
/-- a constant of the module -/
theorem de_glob {x : Str} {d : Dv} {v : V} {u : Value} {pos : Pos} (hm : X.mg x = some u) (r : RelV v u) (hr : ∀ g, Rp X.K g d v) (hg : Gl X x := by rfl) (hd : (x == ("__debug__" : Str)) = false := by decide) : DE X W (.Name x pos) (eC d) :=
  de_const (pe_glob hg hm r hd) hr

/-! ### binary operators -/
def OpD (X : Cx) (f : Value → Value → Sem Value) (o : Sto → Dv → Dv → Option Dv) : Prop :=
  ∃ r : R2, OpR X f r ∧ ∀ (g : Gh) (H : Hp) (S : Sto) (a b : Dv) (x y : V) (d : Dv) (Q : VK), Ok X.bs g H S → Rp X.K g a x → Rp X.K g b y → o S a b = some d →
    (∀ g' v H', g.le g' → Ok X.bs g' H' S → Rp X.K g' d v → Q v H') → r x y H Q
theorem OpD.or {f : Value → Value → Sem Value} {o o' : Sto → Dv → Dv → Option Dv} (h : OpD X f o) (h' : OpD X f o') : OpD X f (fun S a b => match o S a b with | some d => some d | none => o' S a b) := by
  obtain ⟨r, h1, h2⟩ := h
  obtain ⟨r', h1', h2'⟩ := h'
  refine ⟨_, h1.or h1', fun g H S a b x y d Q ok ra rb e q => ?_⟩
  dsimp only at e
  cases eo : o S a b with
  | some z => rw [eo] at e; cases e; exact .inl (h2 g H S a b x y _ Q ok ra rb eo q)
  | none => rw [eo] at e; exact .inr (h2' g H S a b x y d Q ok ra rb e q)
def op2 (o : Sto → Dv → Dv → Option Dv) (a b : Dv) : M Dv := lift0 fun S => o S a b
def eOp (o : Sto → Dv → Dv → Option Dv) (fa fb : Env' → M Dv) (env : Env') : M Dv := do let x ← fa env; let y ← fb env; op2 o x y
theorem sn_op {f : Value → Value → Sem Value} {o : Sto → Dv → Dv → Option Dv} {r : R2} {ta tb : TE} {fa fb : Env' → M Dv}
    (h2 : ∀ (g : Gh) (H : Hp) (S : Sto) (a b : Dv) (x y : V) (d : Dv) (Q : VK), Ok X.bs g H S → Rp X.K g a x → Rp X.K g b y → o S a b = some d → (∀ g' v H', g.le g' → Ok X.bs g' H' S → Rp X.K g' d v → Q v H') → r x y H Q)
    (ha : Sn X.bs W (Rv X) ta fa) (hb : Sn X.bs W (Rv X) tb fb) : Sn X.bs W (Rv X) (tOp r ta tb) (eOp o fa fb) := by
  refine Sn.bind (t2 := fun x σ H1 Q => tb σ H1 fun y H2 => r x y H2 Q) (f2 := fun a env => do let b ← fb env; op2 o a b) ha (Sn1.bind (t3 := fun x y σ H2 Q => r x y H2 Q) (f3 := fun a b _ => op2 o a b) (fun _ _ _ _ l r => Rp.mono l r) hb ?_)
  intro g σ H env S a b res Q ok en ⟨r1, r2⟩ e post
  obtain ⟨d, e', er⟩ := lift0_some e
  subst er
  exact h2 g H S a.1 a.2 b.1 b.2 d Q ok r1 r2 e' fun g' v H' l ok' rr => post g' v H' l ok' rr
theorem de_op {op : Operator} {a b : Expr} {fa fb : Env' → M Dv} {o : Sto → Dv → Dv → Option Dv} {pos : Pos} (ho : OpD X (binaryOp op) o) (ha : DE X W a fa) (hb : DE X W b fb) :
    DE X W (.BinOp a op b pos) (eOp o fa fb) := by
  obtain ⟨r, h1, h2⟩ := ho
  obtain ⟨ta, pa, sa⟩ := ha
  obtain ⟨tb, pb, sb⟩ := hb
  exact ⟨_, pe_op h1 pa pb, sn_op (f := binaryOp op) h2 sa sb⟩
theorem de_cmp {op : CmpOp} {a b : Expr} {fa fb : Env' → M Dv} {o : Sto → Dv → Dv → Option Dv} {pos : Pos} (ho : OpD X (compareOp op) o) (ha : DE X W a fa) (hb : DE X W b fb) (hm : behindInMarks op b = false) :
    DE X W (.Compare a [op] [b] pos) (eOp o fa fb) := by
  obtain ⟨r, h1, h2⟩ := ho
  obtain ⟨ta, pa, sa⟩ := ha
  obtain ⟨tb, pb, sb⟩ := hb
  exact ⟨_, pe_cmpR h1 pa pb hm, sn_op (f := compareOp op) h2 sa sb⟩
def asB : Dv → M Bool
  | .bl b => pure b
  | _ => stuck
def tB (f : Env' → M Dv) (env : Env') : M Bool := do let x ← f env; asB x
theorem sn_test {t : TE} {f : Env' → M Dv} (h : Sn X.bs W (Rv X) t f) : Sn X.bs W Re (tTest t) (tB f) := by
  refine Sn.bind (t2 := fun x _ H' Q => ∃ k, x = .bl k ∧ Q k H') (f2 := fun x _ => asB x) h ?_
  intro g σ H env S a b res Q ok en r e post
  cases a with
  | bl k =>
    cases r
    have er := pure_some e
    subst er
    exact ⟨k, rfl, post g k H (Gh.le_refl g) ok rfl⟩
  | _ => cases e
theorem dt_cmp {op : CmpOp} {a b : Expr} {fa fb : Env' → M Dv} {o : Sto → Dv → Dv → Option Dv} {pos : Pos} (ho : OpD X (compareOp op) o) (ha : DE X W a fa) (hb : DE X W b fb) (hm : behindInMarks op b = false) :
    DT X W (.Compare a [op] [b] pos) (tB (eOp o fa fb)) := by
  obtain ⟨r, h1, h2⟩ := ho
  obtain ⟨ta, pa, sa⟩ := ha
  obtain ⟨tb, pb, sb⟩ := hb
  exact ⟨_, pt_cmpR h1 pa pb hm, sn_test (sn_op (f := compareOp op) h2 sa sb)⟩

/-! ### the operators on data -/
def onI (p : Int → Int → Option Dv) : Sto → Dv → Dv → Option Dv := fun _ a b => match a, b with
  | .int i, .int j => p i j
  | _, _ => none
theorem op_onI {f : Value → Value → Sem Value} {C : Int → Int → Prop} [∀ i j, Decidable (C i j)] {k : Int → Int → V} {kd : Int → Int → Dv} (h : OpR X f (rI C k)) (hk : ∀ g i j, Rp X.K g (kd i j) (k i j)) :
    OpD X f (onI fun i j => if C i j then some (kd i j) else none) := by
  refine ⟨_, h, fun g H S a b x y d Q ok ra rb e q => ?_⟩
  unfold onI at e
  split at e
  · rename_i i j
    cases ra
    cases rb
    dsimp only at e
    split at e
    · rename_i hc
      cases e
      exact ⟨i, j, rfl, rfl, hc, q g _ H (Gh.le_refl g) ok (hk g i j)⟩
    · cases e
  · cases e
theorem op_onI0 {f : Value → Value → Sem Value} {k : Int → Int → V} {kd : Int → Int → Dv} (h : OpR X f (rI0 k)) (hk : ∀ g i j, Rp X.K g (kd i j) (k i j)) : OpD X f (onI fun i j => some (kd i j)) := by
  refine ⟨_, h, fun g H S a b x y d Q ok ra rb e q => ?_⟩
  unfold onI at e
  split at e
  · rename_i i j
    cases ra
    cases rb
    cases e
    exact ⟨i, j, rfl, rfl, q g _ H (Gh.le_refl g) ok (hk g i j)⟩
  · cases e
def onS (p : Str → Str → Option Dv) : Sto → Dv → Dv → Option Dv := fun _ a b => match a, b with
  | .str i, .str j => p i j
  | _, _ => none
def addS : Sto → Dv → Dv → Option Dv := onS fun i j => if i.length + j.length ≤ sizeLine then some (.str (i ++ j)) else none
theorem od_addS : OpD X (binaryOp .Add) addS := by
  refine ⟨_, op_add_str, fun g H S a b x y d Q ok ra rb e q => ?_⟩
  unfold addS onS at e
  split at e
  · rename_i i j
    cases ra
    cases rb
    dsimp only at e
    split at e
    · rename_i hc
      cases e
      exact ⟨i, j, rfl, rfl, hc, q g _ H (Gh.le_refl g) ok (.str _)⟩
    · cases e
  · cases e
def addT : Sto → Dv → Dv → Option Dv := fun _ a b => match a, b with
  | .tup l, .tup r => if l.length + r.length ≤ sizeLine then some (.tup (l ++ r)) else none
  | _, _ => none
theorem nilR {K : PySem.W.Frag} {g : Gh} {ds : List Dv} {vs : List V} (r : Rps K g ds vs) : ds = [] ↔ vs = [] := by
  cases r <;> simp
theorem od_addT : OpD X (binaryOp .Add) addT := by
  refine ⟨_, op_catA, fun g H S a b x y d Q ok ra rb e q => ?_⟩
  unfold addT at e
  split at e
  · rename_i l r
    split at e
    · rename_i hc
      cases e
      obtain ⟨p, vs, rfl, h1, r1⟩ := tup_at ok ra
      obtain ⟨p2, vs2, rfl, h2, r2⟩ := tup_at ok rb
      refine ⟨p, p2, vs, vs2, rfl, rfl, h1, h2, by rw [← r1.length, ← r2.length]; exact hc, fun z => ?_, fun z z2 => ?_, fun z z2 np hp => ?_⟩
      · have zl := (nilR r1).mpr z
        subst zl
        exact q g _ H (Gh.le_refl g) ok rb
      · have zl := (nilR r2).mpr z2
        subst zl
        rw [List.append_nil] at q
        exact q g _ H (Gh.le_refl g) ok ra
      · obtain ⟨hle, ok'⟩ := ok.newF (o := .tup (vs ++ vs2)) hp
        exact q _ _ _ hle ok' (.tup (SqT.of upd_same) ((r1.append r2).mono hle))
    · cases e
  · cases e
def addL : Sto → Dv → Dv → Option Dv := fun S a b => match ownOf S a, ownOf S b with
  | some l, some r => if l.length + r.length ≤ sizeLine then some (.lst (l ++ r)) else none
  | _, _ => none
theorem od_addL : OpD X (binaryOp .Add) addL := by
  refine ⟨_, op_cat, fun g H S a b x y d Q ok ra rb e q => ?_⟩
  unfold addL at e
  split at e
  · rename_i l r el er
    split at e
    · rename_i hc
      cases e
      obtain ⟨p, vs, rfl, h1, r1⟩ := own_at ok ra el
      obtain ⟨p2, vs2, rfl, h2, r2⟩ := own_at ok rb er
      refine ⟨p, p2, vs, vs2, rfl, rfl, h1, h2, by rw [← r1.length, ← r2.length]; exact hc, fun np hp => ?_⟩
      obtain ⟨hle, ok'⟩ := ok.newF (o := .lst (vs ++ vs2)) hp
      exact q _ _ _ hle ok' (.lst upd_same ((r1.append r2).mono hle))
    · cases e
  · cases e
/-- + -/
def addD : Sto → Dv → Dv → Option Dv := fun S a b => match a, b with
  | .int i, .int j => some (.int (i + j))
  | .str i, .str j => if i.length + j.length ≤ sizeLine then some (.str (i ++ j)) else none
  | .tup l, .tup r => if l.length + r.length ≤ sizeLine then some (.tup (l ++ r)) else none
  | a, b => addL S a b
theorem OpD.of {f : Value → Value → Sem Value} {o o' : Sto → Dv → Dv → Option Dv} (h : OpD X f o) (e : ∀ S a b d, o' S a b = some d → o S a b = some d) : OpD X f o' := by
  obtain ⟨r, h1, h2⟩ := h
  exact ⟨r, h1, fun g H S a b x y d Q ok ra rb eo q => h2 g H S a b x y d Q ok ra rb (e S a b d eo) q⟩
theorem od_add : OpD X (binaryOp .Add) addD := by
  refine OpD.of (OpD.or (op_onI0 (kd := fun i j => .int (i + j)) op_add fun _ _ _ => .int _) (OpD.or od_addS (OpD.or od_addT od_addL))) fun S a b d e => ?_
  unfold addD at e
  split at e
  · simpa [onI] using e
  · split at e
    · rename_i hc
      simp [onI, addS, onS, hc]
      exact Option.some.inj e
    · cases e
  · rename_i l r
    split at e
    · rename_i hc
      simp [onI, addS, onS, addT, hc]
      exact Option.some.inj e
    · cases e
  · rename_i h1 h2 h3
    have e1 : onI (fun i j => some (Dv.int (i + j))) S a b = none := by
      unfold onI
      split
      · exact (h1 _ _ rfl rfl).elim
      · rfl
    have e2 : addS S a b = none := by
      unfold addS onS
      split
      · exact (h2 _ _ rfl rfl).elim
      · rfl
    have e3 : addT S a b = none := by
      unfold addT
      split
      · exact (h3 _ _ rfl rfl).elim
      · rfl
    simp only [e1, e2, e3]
    exact e
def subD : Sto → Dv → Dv → Option Dv := onI fun i j => some (.int (i - j))
theorem od_sub : OpD X (binaryOp .Sub) subD := op_onI0 op_sub fun _ _ _ => .int _
instance {i j : Int} : Decidable (CMul i j) := by unfold CMul; infer_instance
instance {i j : Int} : Decidable (CDivN i j) := by unfold CDivN; infer_instance
instance {i j : Int} : Decidable (CPow i j) := by unfold CPow; infer_instance
def mulI : Sto → Dv → Dv → Option Dv := onI fun i j => if CMul i j then some (.int (i * j)) else none
theorem od_mulI : OpD X (binaryOp .Mult) mulI := op_onI op_mul fun _ _ _ => .int _
def fdivD : Sto → Dv → Dv → Option Dv := onI fun i j => if CDivN i j then some (.int (i.fdiv j)) else none
theorem od_fdiv : OpD X (binaryOp .FloorDiv) fdivD := op_onI op_fdivN fun _ _ _ => .int _
def modD : Sto → Dv → Dv → Option Dv := onI fun i j => if j ≠ 0 then some (.int (i.fmod j)) else none
theorem od_mod : OpD X (binaryOp .Mod) modD := op_onI op_modN fun _ _ _ => .int _
def powD : Sto → Dv → Dv → Option Dv := onI fun i j => if CPow i j then some (.int (i ^ j.toNat)) else none
theorem od_pow : OpD X (binaryOp .Pow) powD := op_onI op_pow fun _ _ _ => .int _

/-! ### order -/
def cmpI (p : Int → Int → Bool) : Sto → Dv → Dv → Option Dv := onI fun i j => some (.bl (p i j))
def ltD : Sto → Dv → Dv → Option Dv := cmpI fun i j => decide (i < j)
def leD : Sto → Dv → Dv → Option Dv := cmpI fun i j => decide (i ≤ j)
def gtD : Sto → Dv → Dv → Option Dv := cmpI fun i j => decide (j < i)
def geD : Sto → Dv → Dv → Option Dv := cmpI fun i j => decide (j ≤ i)
theorem od_lt : OpD X (compareOp .Lt) ltD := op_onI0 op_lt fun _ _ _ => .bl _
theorem od_le : OpD X (compareOp .LtE) leD := op_onI0 op_le fun _ _ _ => .bl _
theorem od_gt : OpD X (compareOp .Gt) gtD := op_onI0 op_gt fun _ _ _ => .bl _
theorem od_ge : OpD X (compareOp .GtE) geD := op_onI0 op_ge fun _ _ _ => .bl _

/-! ### equality of data -/
mutual
def pyOf (S : Sto) (top : Bool) : Dv → Option PyData
  | .non => some .none
  | .bl b => some (.bool b)
  | .int i => some (.int i)
  | .str x => some (.str x)
  | .tup l => (pysOf S l).map .tuple
  | .lst l => (pysOf S l).map .list
  | _ => none
def pysOf (S : Sto) : List Dv → Option (List PyData)
  | [] => some []
  | d :: ds => match pyOf S false d, pysOf S ds with
    | some p, some ps => some (p :: ps)
    | _, _ => none
end
/-- with a cell at the top -/
def pyTop (S : Sto) : Dv → Option PyData
  | .scr l => (pysOf S l).map .list
  | .ref n => match S[n]? with
    | some (.lst l) => (pysOf S l).map .list
    | _ => none
  | d => pyOf S false d
mutual
theorem pyOf_dp {B : Bs} {g : Gh} {H : Hp} {S : Sto} (ok : Ok B g H S) {k : Bool} : ∀ {d : Dv} {v : V} {p : PyData}, Rp B.K g d v → pyOf S k d = some p → Dp B.K H v p
  | _, _, _, .non, e => by cases e; exact .non
  | _, _, _, .bl b, e => by cases e; exact .bl b
  | _, _, _, .int b, e => by cases e; exact .int b
  | _, _, _, .str b, e => by cases e; exact .str b
  | _, _, _, .ty b, e => by cases e
  | _, _, _, .tup (l := l) s r, e => by
    simp only [pyOf] at e
    cases q : pysOf S l with
    | none => rw [q] at e; cases e
    | some ps => rw [q] at e; cases e; exact .tup (SqT_mono ok.fz s) (pysOf_dp ok r q)
  | _, _, _, .lst (l := l) s r, e => by
    simp only [pyOf] at e
    cases q : pysOf S l with
    | none => rw [q] at e; cases e
    | some ps => rw [q] at e; cases e; exact .lst (SqL.of (ok.fz _ _ s)) (pysOf_dp ok r q)
  | _, _, _, .scr _ _, e => by cases e
  | _, _, _, .ref _, e => by cases e
theorem pysOf_dp {B : Bs} {g : Gh} {H : Hp} {S : Sto} (ok : Ok B g H S) : ∀ {d : List Dv} {v : List V} {p : List PyData}, Rps B.K g d v → pysOf S d = some p → DpAll B.K H v p
  | _, _, _, .nil, e => by cases e; exact .nil
  | _, _, _, .cons (d := d) (ds := ds) r t, e => by
    simp only [pysOf] at e
    cases q : pyOf S false d with
    | none => rw [q] at e; cases e
    | some p =>
      cases q2 : pysOf S ds with
      | none => rw [q, q2] at e; cases e
      | some ps => rw [q, q2] at e; cases e; exact .cons (pyOf_dp ok r q) (pysOf_dp ok t q2)
end
theorem pyTop_dp {B : Bs} {g : Gh} {H : Hp} {S : Sto} (ok : Ok B g H S) {d : Dv} {v : V} {p : PyData} (r : Rp B.K g d v) (e : pyTop S d = some p) : Dp B.K H v p := by
  have lists : ∀ l, listOf S d = some l → (pysOf S l).map PyData.list = some p → Dp B.K H v p := fun l hl he => by
    obtain ⟨a, vs, rfl, s, rr⟩ := list_at ok r hl
    cases q : pysOf S l with
    | none => rw [q] at he; cases he
    | some ps => rw [q] at he; cases he; exact .lst s (pysOf_dp ok rr q)
  cases d with
  | scr l => exact lists l rfl e
  | ref n =>
    simp only [pyTop] at e
    cases q : S[n]? with
    | none => rw [q] at e; cases e
    | some c =>
      cases c with
      | lst l => rw [q] at e; exact lists l (by simp [listOf, ownOf, q]) e
      | dct _ => rw [q] at e; cases e
      | ins _ _ => rw [q] at e; cases e
      | dead => rw [q] at e; cases e
      | lck _ => rw [q] at e; cases e
  | _ => exact pyOf_dp (k := false) ok r e
def eqPy (S : Sto) (a b : Dv) : Option Bool := match pyTop S a, pyTop S b with
  | some p, some q => if SeqAt.shaped p = true ∧ SeqAt.shaped q = true then some (PyData.eqv p q) else none
  | _, _ => none
def eqD : Sto → Dv → Dv → Option Dv := fun S a b => (eqPy S a b).map .bl
def neD : Sto → Dv → Dv → Option Dv := fun S a b => (eqPy S a b).map fun k => .bl (!k)
theorem eqPy_some {S : Sto} {a b : Dv} {k : Bool} (e : eqPy S a b = some k) : ∃ p q, pyTop S a = some p ∧ pyTop S b = some q ∧ SeqAt.shaped p = true ∧ SeqAt.shaped q = true ∧ k = PyData.eqv p q := by
  unfold eqPy at e
  split at e
  · rename_i p q h1 h2
    split at e
    · rename_i hc
      exact ⟨p, q, h1, h2, hc.1, hc.2, (Option.some.inj e).symm⟩
    · cases e
  · cases e
theorem od_eq (c : Ct X W) : OpD X (compareOp .Eq) eqD := by
  refine ⟨_, op_eqD (by have := c.un; omega), fun g H S a b x y d Q ok ra rb e q => ?_⟩
  obtain ⟨k, e1, e2⟩ := Option.map_eq_some_iff.mp e
  obtain ⟨p, p2, h1, h2, s1, s2, rfl⟩ := eqPy_some e1
  subst e2
  exact ⟨p, p2, pyTop_dp ok ra h1, pyTop_dp ok rb h2, s1, s2, q g _ H (Gh.le_refl g) ok (.bl _)⟩
theorem od_ne (c : Ct X W) : OpD X (compareOp .NotEq) neD := by
  refine ⟨_, op_neD (by have := c.un; omega), fun g H S a b x y d Q ok ra rb e q => ?_⟩
  obtain ⟨k, e1, e2⟩ := Option.map_eq_some_iff.mp e
  obtain ⟨p, p2, h1, h2, s1, s2, rfl⟩ := eqPy_some e1
  subst e2
  exact ⟨p, p2, pyTop_dp ok ra h1, pyTop_dp ok rb h2, s1, s2, q g _ H (Gh.le_refl g) ok (.bl _)⟩
/-- is None -/
def isND (neg : Bool) : Sto → Dv → Dv → Option Dv := fun _ a b => match b with
  | .non => some (.bl (match a with | .non => !neg | _ => neg))
  | _ => none
theorem rp_non {K : PySem.W.Frag} {g : Gh} {a : Dv} {v : V} (r : Rp K g a v) : decide (v = .non) = (match a with | .non => true | _ => false) := by
  cases r <;> rfl
theorem od_isN : OpD X (compareOp .Is) (isND false) := by
  refine ⟨_, op_isN, fun g H S a b x y d Q ok ra rb e q => ?_⟩
  cases b with
  | non =>
    cases rb
    cases e
    refine ⟨rfl, ?_⟩
    have h := rp_non ra
    have h2 := q g (.bl (decide (x = .non))) H (Gh.le_refl g) ok (by rw [h]; cases ra <;> exact .bl _)
    exact h2
  | _ => cases e
theorem od_notN : OpD X (compareOp .IsNot) (isND true) := by
  refine ⟨_, op_notN, fun g H S a b x y d Q ok ra rb e q => ?_⟩
  cases b with
  | non =>
    cases rb
    cases e
    refine ⟨rfl, ?_⟩
    have h := rp_non ra
    have h2 := q g (.bl (!decide (x = .non))) H (Gh.le_refl g) ok (by rw [h]; cases ra <;> exact .bl _)
    exact h2
  | _ => cases e

/-! ### in -/
def inSign : Str → Str → Option Bool := fun x z => match x.cps.toList with
  | [c] => some (decide (c ∈ z.cps.toList))
  | _ => none
theorem sign_of {x : Str} {c : Nat} (h : x.cps.toList = [c]) : x = ⟨#[c]⟩ := by
  cases x with
  | mk a =>
    have : a = #[c] := Array.toList_inj.mp (by simpa using h)
    rw [this]
def inS : Sto → Dv → Dv → Option Dv := onS fun x z => (inSign x z).map .bl
def ninS : Sto → Dv → Dv → Option Dv := onS fun x z => (inSign x z).map fun k => .bl (!k)
theorem inSign_some {x z : Str} {k : Bool} (e : inSign x z = some k) : ∃ c, x = ⟨#[c]⟩ ∧ k = decide (c ∈ z.cps.toList) := by
  unfold inSign at e
  split at e
  · rename_i c h
    exact ⟨c, sign_of h, (Option.some.inj e).symm⟩
  · cases e
theorem od_inS : OpD X (compareOp .In) inS := by
  refine ⟨_, op_in_sign, fun g H S a b x y d Q ok ra rb e q => ?_⟩
  unfold inS onS at e
  split at e
  · rename_i i j
    cases ra
    cases rb
    obtain ⟨k, e1, rfl⟩ := Option.map_eq_some_iff.mp e
    obtain ⟨c, rfl, rfl⟩ := inSign_some e1
    exact ⟨c, j, rfl, rfl, q g _ H (Gh.le_refl g) ok (.bl _)⟩
  · cases e
theorem od_ninS : OpD X (compareOp .NotIn) ninS := by
  refine ⟨_, op_notIn_sign, fun g H S a b x y d Q ok ra rb e q => ?_⟩
  unfold ninS onS at e
  split at e
  · rename_i i j
    cases ra
    cases rb
    obtain ⟨k, e1, rfl⟩ := Option.map_eq_some_iff.mp e
    obtain ⟨c, rfl, rfl⟩ := inSign_some e1
    exact ⟨c, j, rfl, rfl, q g _ H (Gh.le_refl g) ok (.bl _)⟩
  · cases e
/-- flat values -/
def flatD : Dv → Bool
  | .non => true
  | .bl _ => true
  | .int _ => true
  | .str _ => true
  | _ => false
def eqF : Dv → Dv → Bool
  | .non, .non => true
  | .bl a, .bl b => a == b
  | .bl a, .int b => (if a then 1 else 0) == b
  | .int a, .bl b => a == (if b then 1 else 0)
  | .int a, .int b => a == b
  | .str a, .str b => a == b
  | _, _ => false
theorem flat_rp {K : PySem.W.Frag} {g : Gh} {d : Dv} {v : V} (r : Rp K g d v) (h : flatD d = true) : flatV v = true := by
  cases r <;> first | rfl | cases h
theorem flats_rp {K : PySem.W.Frag} {g : Gh} : ∀ {ds : List Dv} {vs : List V}, Rps K g ds vs → ds.all flatD = true → vs.all flatV = true
  | _, _, .nil, _ => rfl
  | _, _, .cons r t, h => by
    rw [List.all_cons, Bool.and_eq_true] at h
    rw [List.all_cons, flat_rp r h.1, flats_rp t h.2]
    rfl
theorem eqF_rp {K : PySem.W.Frag} {g : Gh} {d e : Dv} {v w : V} (r : Rp K g d v) (q : Rp K g e w) (h : flatD d = true) (h2 : flatD e = true) : eqV v w = eqF d e := by
  cases r <;> first | (cases q <;> first | rfl | cases h2) | cases h
theorem inF_rp {K : PySem.W.Frag} {g : Gh} {d : Dv} {v : V} (r : Rp K g d v) (h : flatD d = true) : ∀ {ds : List Dv} {vs : List V}, Rps K g ds vs → ds.all flatD = true → inV v vs = ds.any fun y => eqF y d
  | _, _, .nil, _ => rfl
  | _, _, .cons r1 t, h2 => by
    rw [List.all_cons, Bool.and_eq_true] at h2
    have ih := inF_rp r h t h2.2
    unfold inV at ih ⊢
    rw [List.any_cons, List.any_cons, eqF_rp r1 r h2.1 h, ih]
def seqOf (S : Sto) : Dv → Option (List Dv)
  | .tup l => some l
  | d => listOf S d
theorem seq_at {B : Bs} {g : Gh} {H : Hp} {S : Sto} {d : Dv} {v : V} {l : List Dv} (h : Ok B g H S) (r : Rp B.K g d v) (e : seqOf S d = some l) : ∃ a vs, v = .ref a ∧ (SqL B.K H a vs ∨ SqT B.K H a vs) ∧ Rps B.K g l vs := by
  cases d with
  | tup l' =>
    cases e
    obtain ⟨a, vs, h1, h2, h3⟩ := tup_at h r
    exact ⟨a, vs, h1, .inr h2, h3⟩
  | _ =>
    obtain ⟨a, vs, h1, h2, h3⟩ := list_at h r e
    exact ⟨a, vs, h1, .inl h2, h3⟩
def inQ (neg : Bool) : Sto → Dv → Dv → Option Dv := fun S a b => match seqOf S b with
  | some l => if flatD a = true ∧ l.all flatD = true then some (.bl (if neg then !(l.any fun y => eqF y a) else l.any fun y => eqF y a)) else none
  | none => none
theorem od_inQ : OpD X (compareOp .In) (inQ false) := by
  refine ⟨_, op_in_seq, fun g H S a b x y d Q ok ra rb e q => ?_⟩
  unfold inQ at e
  split at e
  · rename_i l hl
    split at e
    · rename_i hc
      cases e
      obtain ⟨p, vs, rfl, h1, r1⟩ := seq_at ok rb hl
      refine ⟨p, vs, rfl, h1, flat_rp ra hc.1, flats_rp r1 hc.2, ?_⟩
      rw [inF_rp ra hc.1 r1 hc.2]
      exact q g _ H (Gh.le_refl g) ok (.bl _)
    · cases e
  · cases e
theorem od_ninQ : OpD X (compareOp .NotIn) (inQ true) := by
  refine ⟨_, op_notIn_seq, fun g H S a b x y d Q ok ra rb e q => ?_⟩
  unfold inQ at e
  split at e
  · rename_i l hl
    split at e
    · rename_i hc
      cases e
      obtain ⟨p, vs, rfl, h1, r1⟩ := seq_at ok rb hl
      refine ⟨p, vs, rfl, h1, flat_rp ra hc.1, flats_rp r1 hc.2, ?_⟩
      rw [inF_rp ra hc.1 r1 hc.2]
      exact q g _ H (Gh.le_refl g) ok (.bl _)
    · cases e
  · cases e
/-- in: a sign in a text, a flat value in a list or tuple -/
def inD : Sto → Dv → Dv → Option Dv := fun S a b => match inS S a b with | some d => some d | none => inQ false S a b
def ninD : Sto → Dv → Dv → Option Dv := fun S a b => match ninS S a b with | some d => some d | none => inQ true S a b
theorem od_in : OpD X (compareOp .In) inD := OpD.or od_inS od_inQ
theorem od_nin : OpD X (compareOp .NotIn) ninD := OpD.or od_ninS od_ninQ
end
end ML

/-! ML 3: chains, tests, displays, built-ins, subscripts, slices, methods. -/
namespace ML
open PySem PySem.Spec PyProof.Rows L2
section
variable {X : Cx} {W : WX}
/-! ### chains -/
def chainF (o o' : Sto → Dv → Dv → Option Dv) (fa fb fc : Env' → M Dv) : Env' → M Dv := fun env => do
  let x ← fa env; let y ← fb env; let z ← op2 o x y; let k ← asB z
  if k = true then (do let w ← fc env; op2 o' y w) else pure (.bl false)
theorem chain_sn {op op' : CmpOp} {fa fb fc : Env' → M Dv} {o o' : Sto → Dv → Dv → Option Dv} {r r' : R2} {ta tb tc : TE}
    (h2 : ∀ (g : Gh) (H : Hp) (S : Sto) (a b : Dv) (x y : V) (d : Dv) (Q : VK), Ok X.bs g H S → Rp X.K g a x → Rp X.K g b y → o S a b = some d → (∀ g' v H', g.le g' → Ok X.bs g' H' S → Rp X.K g' d v → Q v H') → r x y H Q)
    (h2' : ∀ (g : Gh) (H : Hp) (S : Sto) (a b : Dv) (x y : V) (d : Dv) (Q : VK), Ok X.bs g H S → Rp X.K g a x → Rp X.K g b y → o' S a b = some d → (∀ g' v H', g.le g' → Ok X.bs g' H' S → Rp X.K g' d v → Q v H') → r' x y H Q)
    (sa : Sn X.bs W (Rv X) ta fa) (sb : Sn X.bs W (Rv X) tb fb) (sc : Sn X.bs W (Rv X) tc fc) : Sn X.bs W (Rv X) (tChain r r' ta tb tc) (chainF o o' fa fb fc) := by
  refine fun g σ H env S res Q ok en e post => ?_
  unfold chainF at e
  rcases bind_some (x := fa env) e with ⟨x, S1, e1, e2⟩ | ⟨ex, S1, e1, rfl⟩
  · refine sa g σ H env S _ _ ok en e1 fun g1 v1 H1 l1 ok1 r1 => ?_
    rcases bind_some (x := fb env) e2 with ⟨y, S2, e3, e4⟩ | ⟨ex, S2, e3, rfl⟩
    · refine sb g1 σ H1 env S1 _ _ ok1 (en.mono l1) e3 fun g2 v2 H2 l2 ok2 r2 => ?_
      rcases bind_some (x := op2 o x y) e4 with ⟨z, S3, e5, e6⟩ | ⟨ex, S3, e5, rfl⟩
      · obtain ⟨d, e', er⟩ := lift0_some e5
        cases er
        refine h2 g2 H2 S2 x y v1 v2 z _ ok2 (r1.mono l2) r2 e' fun g3 v3 H3 l3 ok3 r3 => ?_
        rcases bind_some (x := asB z) e6 with ⟨k, S4, e7, e8⟩ | ⟨ex, S4, e7, _⟩
        · cases z with
          | bl b =>
            cases e7
            cases r3
            refine ⟨k, rfl, ?_⟩
            have l13 := Gh.le_trans l1 (Gh.le_trans l2 l3)
            cases k with
            | true =>
              rw [if_pos rfl] at e8 ⊢
              rcases bind_some (x := fc env) e8 with ⟨w, S5, e9, e10⟩ | ⟨ex, S5, e9, rfl⟩
              · refine sc g3 σ H3 env S2 _ _ ok3 (en.mono l13) e9 fun g4 v4 H4 l4 ok4 r4 => ?_
                obtain ⟨d, e', er⟩ := lift0_some e10
                subst er
                exact h2' g4 H4 S5 y w v2 v4 d _ ok4 (r2.mono (Gh.le_trans l3 l4)) r4 e' fun g5 v5 H5 l5 ok5 r5 => (post.mono l13) g5 v5 H5 (Gh.le_trans l4 l5) ok5 r5
              · exact sc g3 σ H3 env S2 _ _ ok3 (en.mono l13) e9 (post.mono l13)
            | false =>
              rw [if_neg Bool.false_ne_true] at e8 ⊢
              have er := pure_some e8
              subst er
              exact post g3 _ H3 l13 ok3 (.bl false)
          | _ => cases e7
        · cases z with
          | bl b => cases e7
          | _ => cases e7
      · obtain ⟨d, e', er⟩ := lift0_some e5
        cases er
    · exact sb g1 σ H1 env S1 _ _ ok1 (en.mono l1) e3 (post.mono l1)
  · exact sa g σ H env S _ _ ok en e1 post

theorem de_chain {op op' : CmpOp} {a b c : Expr} {fa fb fc : Env' → M Dv} {o o' : Sto → Dv → Dv → Option Dv} {pos : Pos} (ho : OpD X (compareOp op) o) (ho' : OpD X (compareOp op') o')
    (ha : DE X W a fa) (hb : DE X W b fb) (hc : DE X W c fc) (h : ∀ {r r' : R2} {ta tb tc : TE}, OpR X (compareOp op) r → OpR X (compareOp op') r' → PE X a ta → PE X b tb → PE X c tc → PE X (.Compare a [op, op'] [b, c] pos) (tChain r r' ta tb tc)) :
    DE X W (.Compare a [op, op'] [b, c] pos) (chainF o o' fa fb fc) := by
  obtain ⟨r, h1, h2⟩ := ho
  obtain ⟨r', h1', h2'⟩ := ho'
  obtain ⟨ta, pa, sa⟩ := ha
  obtain ⟨tb, pb, sb⟩ := hb
  obtain ⟨tc, pc, sc⟩ := hc
  exact ⟨_, h h1 h1' pa pb pc, chain_sn (op := op) (op' := op') h2 h2' sa sb sc⟩

/-! ### tests -/
def truD (S : Sto) : Dv → Option Bool
  | .non => some false
  | .bl b => some b
  | .int i => some (i != 0)
  | .str y => if y.length ≤ sizeLine then some ((y.length : Int) != 0) else none
  | .tup l => some (!l.isEmpty)
  | .lst l => some (!l.isEmpty)
  | .scr l => some (!l.isEmpty)
  | .ref n => match S[n]? with
    | some (.lst l) => some (!l.isEmpty)
    | some (.dct l) => some (!l.isEmpty)
    | _ => none
  | .ty _ => none
  | .exc _ => none
theorem emp_rps {K : PySem.W.Frag} {g : Gh} {ds : List Dv} {vs : List V} (r : Rps K g ds vs) : ds.isEmpty = vs.isEmpty := by cases r <;> rfl
theorem emp_rkv {κ : Type} {K : PySem.W.Frag} {g : Gh} : ∀ {ds : List (κ × Dv)} {vs : List (κ × V)}, Rkv K g ds vs → ds.isEmpty = vs.isEmpty
  | [], [], _ => rfl
  | _ :: _, _ :: _, _ => rfl
  | [], _ :: _, x => x.elim
  | _ :: _, [], x => x.elim
theorem tru_at {B : Bs} {g : Gh} {H : Hp} {S : Sto} {d : Dv} {v : V} {k : Bool} (ok : Ok B g H S) (r : Rp B.K g d v) (e : truD S d = some k) : TruV B.K v H k := by
  cases r with
  | non => cases e; rfl
  | bl b => cases e; rfl
  | int i => cases e; rfl
  | str y =>
    simp only [truD] at e
    split at e
    · rename_i h
      cases e
      exact ⟨h, rfl⟩
    · cases e
  | ty n => cases e
  | exc n => cases e
  | tup s q =>
    cases e
    exact .inr (.inl ⟨_, SqT_mono ok.fz s, by rw [emp_rps q]⟩)
  | lst s q =>
    cases e
    exact .inl ⟨_, SqL.of (ok.fz _ _ s), by rw [emp_rps q]⟩
  | scr s q =>
    cases e
    exact .inl ⟨_, SqL_mono ok.fz s, by rw [emp_rps q]⟩
  | ref hm =>
    obtain ⟨c, hc⟩ := ok.at_ hm
    simp only [truD, hc] at e
    have q := ok.cel _ _ _ hc hm
    cases c with
    | lst l =>
      cases e
      obtain ⟨vs, h1, h2⟩ := q
      exact .inl ⟨_, SqL.of h1, by rw [emp_rps h2]⟩
    | dct l =>
      cases e
      obtain ⟨vs, h1, h2⟩ := q
      exact .inr (.inr ⟨_, h1, by rw [emp_rkv h2]⟩)
    | ins _ _ => cases e
    | dead => cases e
    | lck _ => cases e
def truM (d : Dv) : M Bool := lift0 fun S => truD S d
def tTru (f : Env' → M Dv) (env : Env') : M Bool := do let d ← f env; truM d
def tAnd2 (fa fb : Env' → M Bool) (env : Env') : M Bool := do let k ← fa env; if k = true then fb env else pure false
def tOr2 (fa fb : Env' → M Bool) (env : Env') : M Bool := do let k ← fa env; if k = true then pure true else fb env
def tNot1 (fa : Env' → M Bool) (env : Env') : M Bool := do let k ← fa env; pure (!k)
def eAnd (fa fb : Env' → M Dv) (env : Env') : M Dv := do let x ← fa env; let k ← asB x; if k = true then fb env else pure (.bl false)
def eOr (fa fb : Env' → M Dv) (env : Env') : M Dv := do let x ← fa env; let k ← asB x; if k = true then pure (.bl true) else fb env
def eNot (fa : Env' → M Dv) (env : Env') : M Dv := do let x ← fa env; let k ← asB x; pure (.bl (!k))
def eIfE (fc : Env' → M Bool) (fa fb : Env' → M Dv) (env : Env') : M Dv := do let k ← fc env; if k = true then fa env else fb env
def eBnd (f : Env' → M Dv) (o : Dv → M Dv) (env : Env') : M Dv := do let x ← f env; o x
def aNil (_ : Env') : M (List Dv) := pure []
def aCons (f : Env' → M Dv) (fs : Env' → M (List Dv)) (env : Env') : M (List Dv) := do let d ← f env; let ds ← fs env; pure (d :: ds)
def eArg (fs : Env' → M (List Dv)) (o : List Dv → M Dv) (env : Env') : M Dv := do let ds ← fs env; o ds
theorem dt_truth {e : Expr} {f : Env' → M Dv} (h : DE X W e f) (he : ∀ whole, isTrue e X.env whole = (do let v ← whole; standAt e.pos; holding [v] (truthy v)) := by intro _; rfl) :
    DT X W e (tTru f) := by
  obtain ⟨t, p, s⟩ := h
  refine ⟨_, pt_truth p he, Sn.bind (t2 := fun x _ H' Q => ∃ k, TruV X.K x H' k ∧ Q k H') (f2 := fun d _ => truM d) s ?_⟩
  intro g σ H env S a b res Q ok en r e post
  obtain ⟨k, e', er⟩ := lift0_some e
  subst er
  exact ⟨k, tru_at ok r e', post g k H (Gh.le_refl g) ok rfl⟩
theorem dw_and1 {a : Expr} {fa : Env' → M Bool} {pos : Pos} (ha : DT X W a fa) : DW X W (.BoolOp .And [a] pos) fa := by
  obtain ⟨t, p, s⟩ := ha
  exact ⟨t, pw_and1 p, s⟩
theorem dw_or1 {a : Expr} {fa : Env' → M Bool} {pos : Pos} (ha : DT X W a fa) : DW X W (.BoolOp .Or [a] pos) fa := by
  obtain ⟨t, p, s⟩ := ha
  exact ⟨t, pw_or1 p, s⟩
theorem dw_and {a b : Expr} {rest : List Expr} {fa fb : Env' → M Bool} {pos : Pos} (ha : DT X W a fa) (hb : DW X W (.BoolOp .And (b :: rest) pos) fb) :
    DW X W (.BoolOp .And (a :: b :: rest) pos) (tAnd2 fa fb) := by
  obtain ⟨t, p, s⟩ := ha
  obtain ⟨t2, p2, s2⟩ := hb
  refine ⟨_, pw_and p p2, Sn.bind (t2 := fun c σ H1 Q => if c = true then t2 σ H1 Q else Q false H1) (f2 := fun k env => if k = true then fb env else pure false) s ?_⟩
  intro g σ H env S a b res Q ok en r e post
  cases r
  cases a with
  | true => exact s2 g σ H env S res Q ok en e post
  | false =>
    have er := pure_some e
    subst er
    exact post g false H (Gh.le_refl g) ok rfl
theorem dw_or {a b : Expr} {rest : List Expr} {fa fb : Env' → M Bool} {pos : Pos} (ha : DT X W a fa) (hb : DW X W (.BoolOp .Or (b :: rest) pos) fb) :
    DW X W (.BoolOp .Or (a :: b :: rest) pos) (tOr2 fa fb) := by
  obtain ⟨t, p, s⟩ := ha
  obtain ⟨t2, p2, s2⟩ := hb
  refine ⟨_, pw_or p p2, Sn.bind (t2 := fun c σ H1 Q => if c = true then Q true H1 else t2 σ H1 Q) (f2 := fun k env => if k = true then pure true else fb env) s ?_⟩
  intro g σ H env S a b res Q ok en r e post
  cases r
  cases a with
  | false => exact s2 g σ H env S res Q ok en e post
  | true =>
    have er := pure_some e
    subst er
    exact post g true H (Gh.le_refl g) ok rfl
theorem dt_w {e : Expr} {f : Env' → M Bool} (h : DW X W e f) : DT X W e f := by
  obtain ⟨t, p, s⟩ := h
  exact ⟨t, p.pt, s⟩
theorem dt_not {a : Expr} {fa : Env' → M Bool} {pos : Pos} (ha : DT X W a fa) : DT X W (.UnaryOp .Not a pos) (tNot1 fa) := by
  obtain ⟨t, p, s⟩ := ha
  refine ⟨_, pt_not p, Sn.bind (t2 := fun c _ H1 Q => Q (!c) H1) (f2 := fun k _ => pure (!k)) s ?_⟩
  intro g σ H env S a b res Q ok en r e post
  cases r
  have er := pure_some e
  subst er
  exact post g _ H (Gh.le_refl g) ok rfl
/-! ### and, or, not as values -/
theorem de_one {op : PySem.BoolOp} {a : Expr} {fa : Env' → M Dv} {pos : Pos} (ha : DE X W a fa) : DE X W (.BoolOp op [a] pos) fa := by
  obtain ⟨t, p, s⟩ := ha
  exact ⟨t, pe_one p, s⟩
theorem de_and {a b : Expr} {rest : List Expr} {fa fb : Env' → M Dv} {pos : Pos} (ha : DE X W a fa) (hb : DE X W (.BoolOp .And (b :: rest) pos) fb) :
    DE X W (.BoolOp .And (a :: b :: rest) pos) (eAnd fa fb) := by
  obtain ⟨t, p, s⟩ := ha
  obtain ⟨t2, p2, s2⟩ := hb
  refine ⟨_, pe_and p p2, Sn.bind (t2 := fun x σ H1 Q => ∃ c, x = .bl c ∧ if c = true then t2 σ H1 Q else Q (V.bl false) H1) (f2 := fun x env => do let k ← asB x; if k = true then fb env else pure (.bl false)) s ?_⟩
  intro g σ H env S a b res Q ok en r e post
  rcases bind_some (x := asB a) e with ⟨k, S1, e1, e2⟩ | ⟨ex, S1, e1, _⟩
  · cases a with
    | bl c =>
      cases e1
      cases r
      refine ⟨k, rfl, ?_⟩
      cases k with
      | true => exact s2 g σ H env S res Q ok en e2 post
      | false =>
        have er := pure_some e2
        subst er
        exact post g _ H (Gh.le_refl g) ok (.bl _)
    | _ => cases e1
  · cases a <;> cases e1
theorem de_or {a b : Expr} {rest : List Expr} {fa fb : Env' → M Dv} {pos : Pos} (ha : DE X W a fa) (hb : DE X W (.BoolOp .Or (b :: rest) pos) fb) :
    DE X W (.BoolOp .Or (a :: b :: rest) pos) (eOr fa fb) := by
  obtain ⟨t, p, s⟩ := ha
  obtain ⟨t2, p2, s2⟩ := hb
  refine ⟨_, pe_or p p2, Sn.bind (t2 := fun x σ H1 Q => ∃ c, x = .bl c ∧ if c = true then Q (V.bl true) H1 else t2 σ H1 Q) (f2 := fun x env => do let k ← asB x; if k = true then pure (.bl true) else fb env) s ?_⟩
  intro g σ H env S a b res Q ok en r e post
  rcases bind_some (x := asB a) e with ⟨k, S1, e1, e2⟩ | ⟨ex, S1, e1, _⟩
  · cases a with
    | bl c =>
      cases e1
      cases r
      refine ⟨k, rfl, ?_⟩
      cases k with
      | false => exact s2 g σ H env S res Q ok en e2 post
      | true =>
        have er := pure_some e2
        subst er
        exact post g _ H (Gh.le_refl g) ok (.bl _)
    | _ => cases e1
  · cases a <;> cases e1
theorem de_not {a : Expr} {fa : Env' → M Dv} {pos : Pos} (ha : DE X W a fa) : DE X W (.UnaryOp .Not a pos) (eNot fa) := by
  obtain ⟨t, p, s⟩ := ha
  refine ⟨_, pe_not p, Sn.bind (t2 := fun x _ H1 Q => ∃ c, x = .bl c ∧ Q (V.bl (!c)) H1) (f2 := fun x _ => do let k ← asB x; pure (Dv.bl (!k))) s ?_⟩
  intro g σ H env S a b res Q ok en r e post
  rcases bind_some (x := asB a) e with ⟨k, S1, e1, e2⟩ | ⟨ex, S1, e1, _⟩
  · cases a with
    | bl c =>
      cases e1
      cases r
      have er := pure_some e2
      subst er
      exact ⟨k, rfl, post g _ H (Gh.le_refl g) ok (.bl _)⟩
    | _ => cases e1
  · cases a <;> cases e1
theorem de_ifExp {c a b : Expr} {fc : Env' → M Bool} {fa fb : Env' → M Dv} {pos : Pos} (hc : DT X W c fc) (ha : DE X W a fa) (hb : DE X W b fb) :
    DE X W (.IfExp c a b pos) (eIfE fc fa fb) := by
  obtain ⟨tc, pc, sc⟩ := hc
  obtain ⟨ta, pa, sa⟩ := ha
  obtain ⟨tb, pb, sb⟩ := hb
  refine ⟨_, pe_ifExp pc pa pb, Sn.bind (t2 := fun c σ H1 Q => if c = true then ta σ H1 Q else tb σ H1 Q) (f2 := fun k env => if k = true then fa env else fb env) sc ?_⟩
  intro g σ H env S a b res Q ok en r e post
  cases r
  cases a with
  | true => exact sa g σ H env S res Q ok en e post
  | false => exact sb g σ H env S res Q ok en e post
def unI (p : Int → Dv) : Dv → M Dv
  | .int i => pure (p i)
  | _ => stuck
theorem de_neg {a : Expr} {fa : Env' → M Dv} {pos : Pos} (ha : DE X W a fa) : DE X W (.UnaryOp .USub a pos) (eBnd fa (unI fun i => .int (-i))) := by
  obtain ⟨t, p, s⟩ := ha
  refine ⟨_, pe_un un_neg p, Sn.bind (t2 := fun x _ H1 Q => rU (fun i => .int (-i)) x H1 Q) (f2 := fun x _ => unI (fun i => .int (-i)) x) s ?_⟩
  intro g σ H env S a b res Q ok en r e post
  cases a with
  | int i =>
    cases r
    have er := pure_some e
    subst er
    exact ⟨i, rfl, post g _ H (Gh.le_refl g) ok (.int _)⟩
  | _ => cases e

/-! ### arguments, displays -/
theorem da_nil : DA X W [] aNil := by
  refine ⟨_, pa_nil, fun g σ H env S r Q ok en e post => ?_, fun env S ds S' e => by cases e; rfl⟩
  have er := pure_some e
  subst er
  exact post g [] H (Gh.le_refl g) ok .nil
theorem da_cons {e : Expr} {es : List Expr} {f : Env' → M Dv} {fs : Env' → M (List Dv)} (h : DE X W e f) (hs : DA X W es fs) (hst : starEach (e :: es) X.env = (false, eval e X.env) :: starEach es X.env := by rfl) :
    DA X W (e :: es) (aCons f fs) := by
  obtain ⟨t, p, s⟩ := h
  obtain ⟨t2, p2, s2, hl⟩ := hs
  refine ⟨_, pa_cons p p2 hst, ?_, fun env S ds S' e => ?_⟩
  rotate_left
  · rcases bind_some (x := f env) e with ⟨d, S1, e1, e2⟩ | ⟨_, _, _, q⟩
    · rcases bind_some (x := fs env) e2 with ⟨dr, S2, e3, e4⟩ | ⟨_, _, _, q⟩
      · have q := pure_some e4
        cases q
        simp [hl env S1 dr _ e3]
      · cases q
    · cases q
  refine Sn.bind (t2 := fun x σ H1 Q => t2 σ H1 fun xs H2 => Q (x :: xs) H2) (f2 := fun d env => do let ds ← fs env; pure (d :: ds)) s (Sn1.bind (t3 := fun x xs _ H2 Q => Q (x :: xs) H2) (f3 := fun d ds _ => pure (d :: ds)) (fun _ _ _ _ l r => Rp.mono l r) s2 ?_)
  intro g σ H env S a b res Q ok en ⟨r1, r2⟩ e post
  have er := pure_some e
  subst er
  exact post g _ H (Gh.le_refl g) ok (.cons r1 r2)
def mkT (ds : List Dv) : M Dv := fun S => if ds.length ≤ sizeLine then some (.ok (.tup ds) S) else none
def mkL (ds : List Dv) : M Dv := fun S => if ds.length ≤ sizeLine then some (.ok (.lst ds) S) else none
/-- a list that will be changed -/
def mkC (ds : List Dv) : M Dv := fun S => if ds.length ≤ sizeLine then some (.ok (.ref S.length) (S ++ [.lst ds])) else none
theorem post_T {B : Bs} {g : Gh} {H : Hp} {S : Sto} {ds : List Dv} {vs : List V} {r : Rs Dv} {Q : VK} {Wx : XK} (ok : Ok B g H S) (rr : Rps B.K g ds vs) (e : mkT ds S = some r) (post : Post B g (fun g => Rp B.K g) Q Wx r) :
    vs.length ≤ sizeLine ∧ ∀ p, H p = none → Q (.ref p) (upd H p (.tup vs)) := by
  unfold mkT at e
  split at e
  · rename_i hc
    cases e
    refine ⟨by rw [← rr.length]; exact hc, fun p hp => ?_⟩
    obtain ⟨hle, ok'⟩ := ok.newF (o := .tup vs) hp
    exact post _ _ _ hle ok' (.tup (SqT.of upd_same) (rr.mono hle))
  · cases e
theorem post_L {B : Bs} {g : Gh} {H : Hp} {S : Sto} {ds : List Dv} {vs : List V} {r : Rs Dv} {Q : VK} {Wx : XK} (ok : Ok B g H S) (rr : Rps B.K g ds vs) (e : mkL ds S = some r) (post : Post B g (fun g => Rp B.K g) Q Wx r) :
    vs.length ≤ sizeLine ∧ ∀ p, H p = none → Q (.ref p) (upd H p (.lst vs)) := by
  unfold mkL at e
  split at e
  · rename_i hc
    cases e
    refine ⟨by rw [← rr.length]; exact hc, fun p hp => ?_⟩
    obtain ⟨hle, ok'⟩ := ok.newF (o := .lst vs) hp
    exact post _ _ _ hle ok' (.lst upd_same (rr.mono hle))
  · cases e
theorem post_C {B : Bs} {g : Gh} {H : Hp} {S : Sto} {ds : List Dv} {vs : List V} {r : Rs Dv} {Q : VK} {Wx : XK} (ok : Ok B g H S) (rr : Rps B.K g ds vs) (e : mkC ds S = some r) (post : Post B g (fun g => Rp B.K g) Q Wx r) :
    vs.length ≤ sizeLine ∧ ∀ p, H p = none → Q (.ref p) (upd H p (.lst vs)) := by
  unfold mkC at e
  split at e
  · rename_i hc
    cases e
    refine ⟨by rw [← rr.length]; exact hc, fun p hp => ?_⟩
    obtain ⟨hle, ok'⟩ := ok.newC (o := .lst vs) (c := .lst ds) hp ⟨vs, upd_same, rr.mono Gh.cell_le⟩
    refine post _ _ _ hle ok' (.ref ?_)
    rw [← ok.len]
    exact Gh.cell_at
  · cases e
theorem de_tup {es : List Expr} {fs : Env' → M (List Dv)} {x1} {pos : Pos} (h : DA X W es fs) : DE X W (.Tuple es x1 pos) (eArg fs mkT) := by
  obtain ⟨t, p, s, _⟩ := h
  refine ⟨_, pe_tup p, Sn.bind (t2 := fun xs _ H1 Q => xs.length ≤ sizeLine ∧ ∀ p, H1 p = none → Q (V.ref p) (upd H1 p (.tup xs))) (f2 := fun ds _ => mkT ds) s ?_⟩
  intro g σ H env S a b res Q ok en r e post
  exact post_T ok r e post
theorem de_lst {es : List Expr} {fs : Env' → M (List Dv)} {pos : Pos} (h : DA X W es fs) : DE X W (.List es pos) (eArg fs mkL) := by
  obtain ⟨t, p, s, _⟩ := h
  refine ⟨_, pe_lst p, Sn.bind (t2 := fun xs _ H1 Q => xs.length ≤ sizeLine ∧ ∀ p, H1 p = none → Q (V.ref p) (upd H1 p (.lst xs))) (f2 := fun ds _ => mkL ds) s ?_⟩
  intro g σ H env S a b res Q ok en r e post
  exact post_L ok r e post
theorem de_lstC {es : List Expr} {fs : Env' → M (List Dv)} {pos : Pos} (h : DA X W es fs) : DE X W (.List es pos) (eArg fs mkC) := by
  obtain ⟨t, p, s, _⟩ := h
  refine ⟨_, pe_lst p, Sn.bind (t2 := fun xs _ H1 Q => xs.length ≤ sizeLine ∧ ∀ p, H1 p = none → Q (V.ref p) (upd H1 p (.lst xs))) (f2 := fun ds _ => mkC ds) s ?_⟩
  intro g σ H env S a b res Q ok en r e post
  exact post_C ok r e post

/-! ### built-ins -/
def CallD (X : Cx) (f : Value) (o : List Dv → M Dv) : Prop :=
  ∃ r : List V → Hp → VK → Prop, CallR X f r ∧ ∀ (g : Gh) (H : Hp) (S : Sto) (ds : List Dv) (vs : List V) (res : Rs Dv) (Q : VK) (Wx : XK), Ok X.bs g H S → Rps X.K g ds vs → o ds S = some res → Post X.bs g (Rv X) Q Wx res → r vs H Q
def orM (o o' : List Dv → M Dv) : List Dv → M Dv := fun ds S => match o ds S with
  | some r => some r
  | none => o' ds S
theorem CallD.or {f : Value} {o o' : List Dv → M Dv} (h : CallD X f o) (h' : CallD X f o') : CallD X f (orM o o') := by
  obtain ⟨r, h1, h2⟩ := h
  obtain ⟨r', h1', h2'⟩ := h'
  refine ⟨fun vs H Q => r vs H Q ∨ r' vs H Q, fun pins s σ H vs us Q I rr q => ?_, fun g H S ds vs res Q Wx ok rr e post => ?_⟩
  · rcases q with q | q
    · exact h1 pins s σ H vs us Q I rr q
    · exact h1' pins s σ H vs us Q I rr q
  · unfold orM at e
    cases eo : o ds S with
    | some z => rw [eo] at e; cases e; exact .inl (h2 g H S ds vs _ Q Wx ok rr eo post)
    | none => rw [eo] at e; exact .inr (h2' g H S ds vs _ Q Wx ok rr e post)
theorem de_callB {id : String} {o : List Dv → M Dv} {x : Str} {p pos : Pos} {e : Expr} {es : List Expr} {fs : Env' → M (List Dv)} (hc : CallD X (.builtin id) o) (hm : X.mg x = none) (hv : bootBuiltins x = some (.builtin id)) (ha : DA X W (e :: es) fs) (hg : Gl X x := by rfl)
    (hn : x ≠ "__name__" := by decide) (hdb : (x == ("__debug__" : Str)) = false := by decide)
    (he : starEach (e :: es) X.env = (false, eval e X.env) :: starEach es X.env := by rfl) (hpl : (backTo pos (starEach es X.env)).any (·.1) = false := by rfl) : DE X W (.Call (.Name x p) (e :: es) [] pos) (eArg fs o) := by
  obtain ⟨r, h1, h2⟩ := hc
  obtain ⟨t, pa, s, _⟩ := ha
  refine ⟨_, pe_callB h1 hg hm hv pa hn hdb he hpl, Sn.bind (t2 := fun vs _ H1 Q => r vs H1 Q) (f2 := fun ds _ => o ds) s ?_⟩
  intro g σ H env S a b res Q ok en rr e post
  exact h2 g H S a b res Q _ ok rr e post
theorem de_callTy {T : String} {o : List Dv → M Dv} {x : Str} {p pos : Pos} {e : Expr} {es : List Expr} {fs : Env' → M (List Dv)} (hc : CallD X (.type T) o) (hm : X.mg x = none) (hv : bootBuiltins x = some (.type T)) (ha : DA X W (e :: es) fs) (hg : Gl X x := by rfl)
    (hn : x ≠ "__name__" := by decide) (hdb : (x == ("__debug__" : Str)) = false := by decide)
    (he : starEach (e :: es) X.env = (false, eval e X.env) :: starEach es X.env := by rfl) (hpl : (backTo pos (starEach es X.env)).any (·.1) = false := by rfl) : DE X W (.Call (.Name x p) (e :: es) [] pos) (eArg fs o) := by
  obtain ⟨r, h1, h2⟩ := hc
  obtain ⟨t, pa, s, _⟩ := ha
  refine ⟨_, pe_callTy h1 hg hm hv pa hn hdb he hpl, Sn.bind (t2 := fun vs _ H1 Q => r vs H1 Q) (f2 := fun ds _ => o ds) s ?_⟩
  intro g σ H env S a b res Q ok en rr e post
  exact h2 g H S a b res Q _ ok rr e post
/-- a built-in that only reads -/
def opA (o : Sto → List Dv → Option Dv) (ds : List Dv) : M Dv := lift0 fun S => o S ds
theorem callD0 {f : Value} {o : Sto → List Dv → Option Dv} {r : List V → Hp → VK → Prop} (h : CallR X f r)
    (h2 : ∀ (g : Gh) (H : Hp) (S : Sto) (ds : List Dv) (vs : List V) (d : Dv) (Q : VK), Ok X.bs g H S → Rps X.K g ds vs → o S ds = some d → (∀ v, Rp X.K g d v → Q v H) → r vs H Q) : CallD X f (opA o) := by
  refine ⟨r, h, fun g H S ds vs res Q Wx ok rr e post => ?_⟩
  obtain ⟨d, e', er⟩ := lift0_some e
  subst er
  exact h2 g H S ds vs d Q ok rr e' fun v rv => post g v H (Gh.le_refl g) ok rv
def lenO (S : Sto) : Dv → Option Int
  | .str z => if z.length ≤ sizeLine then some z.length else none
  | .tup l => some l.length
  | d => (listOf S d).map fun l => (l.length : Int)
def lenD : Sto → List Dv → Option Dv := fun S ds => match ds with
  | [d] => (lenO S d).map .int
  | _ => none
theorem cd_len : CallD X (.builtin "len") (opA lenD) := by
  refine callD0 call_len fun g H S ds vs d Q ok rr e q => ?_
  unfold lenD at e
  split at e
  · rename_i d0
    obtain ⟨n, e1, rfl⟩ := Option.map_eq_some_iff.mp e
    cases rr with
    | cons r1 r2 =>
      cases r2
      rename_i v
      cases d0 with
      | str z =>
        cases r1
        simp only [lenO] at e1
        split at e1
        · rename_i hc
          cases e1
          exact ⟨_, z.length, rfl, ⟨hc, rfl⟩, q _ (.int _)⟩
        · cases e1
      | tup l =>
        obtain ⟨a, ws, rfl, s, r⟩ := tup_at ok r1
        simp only [lenO] at e1
        cases e1
        refine ⟨_, ws.length, rfl, .inr ⟨ws, s, rfl⟩, ?_⟩
        rw [← r.length]
        exact q _ (.int _)
      | _ =>
        simp only [lenO] at e1
        obtain ⟨l, hl, rfl⟩ := Option.map_eq_some_iff.mp e1
        obtain ⟨a, ws, rfl, s, r⟩ := list_at ok r1 hl
        refine ⟨_, ws.length, rfl, .inl ⟨ws, s, rfl⟩, ?_⟩
        rw [← r.length]
        exact q _ (.int _)
  · cases e
def absD : Sto → List Dv → Option Dv := fun _ ds => match ds with
  | [.int i] => some (.int (if i < 0 then -i else i))
  | _ => none
theorem cd_abs : CallD X (.builtin "abs") (opA absD) := by
  refine callD0 call_abs fun g H S ds vs d Q ok rr e q => ?_
  unfold absD at e
  split at e
  · cases e
    cases rr with
    | cons r1 r2 => cases r2; cases r1; exact ⟨_, rfl, q _ (.int _)⟩
  · cases e
def max2D : Sto → List Dv → Option Dv := fun _ ds => match ds with
  | [.int i, .int j] => some (.int (if j > i then j else i))
  | _ => none
theorem cd_max2 (c : Ct X W) : CallD X (.builtin "max") (opA max2D) := by
  refine callD0 (call_max2 c.calm) fun g H S ds vs d Q ok rr e q => ?_
  unfold max2D at e
  split at e
  · cases e
    cases rr with
    | cons r1 r2 => cases r2 with
      | cons r2 r3 => cases r3; cases r1; cases r2; exact ⟨_, _, rfl, q _ (.int _)⟩
  · cases e
def min2D : Sto → List Dv → Option Dv := fun _ ds => match ds with
  | [.int i, .int j] => some (.int (if j < i then j else i))
  | _ => none
theorem cd_min2 (c : Ct X W) : CallD X (.builtin "min") (opA min2D) := by
  refine callD0 (call_min2 c.calm) fun g H S ds vs d Q ok rr e q => ?_
  unfold min2D at e
  split at e
  · cases e
    cases rr with
    | cons r1 r2 => cases r2 with
      | cons r2 r3 => cases r3; cases r1; cases r2; exact ⟨_, _, rfl, q _ (.int _)⟩
  · cases e
def intD : Sto → List Dv → Option Dv := fun _ ds => match ds with
  | [.int i] => some (.int i)
  | [.bl k] => some (.int (if k then 1 else 0))
  | [.str a] => if a.length ≤ 640 then (PySem.intText? a).map .int else none
  | _ => none
theorem cd_int : CallD X (.type "int") (opA intD) := by
  have h := CallD.or (callD0 (o := fun S ds => match ds with | [.int i] => some (.int i) | [.bl k] => some (.int (if k then 1 else 0)) | _ => none) (X := X) call_int1 fun g H S ds vs d Q ok rr e q => by
    split at e
    · cases e
      cases rr with
      | cons r1 r2 => cases r2; cases r1; exact .inl ⟨_, rfl, q _ (.int _)⟩
    · cases e
      cases rr with
      | cons r1 r2 => cases r2; cases r1; exact .inr ⟨_, rfl, q _ (.int _)⟩
    · cases e) (callD0 (o := fun S ds => match ds with | [.str a] => if a.length ≤ 640 then (PySem.intText? a).map .int else none | _ => none) (X := X) call_int_str fun g H S ds vs d Q ok rr e q => by
    split at e
    · split at e
      · rename_i hc
        obtain ⟨n, e1, rfl⟩ := Option.map_eq_some_iff.mp e
        cases rr with
        | cons r1 r2 => cases r2; cases r1; exact ⟨_, n, rfl, e1, hc, q _ (.int _)⟩
      · cases e
    · cases e)
  obtain ⟨r, h1, h2⟩ := h
  refine ⟨r, h1, fun g H S ds vs res Q Wx ok rr e post => h2 g H S ds vs res Q Wx ok rr ?_ post⟩
  unfold opA lift0 intD at e
  unfold orM opA lift0
  split at e
  · rename_i d hd
    split at hd
    · cases hd; exact e
    · cases hd; exact e
    · rename_i a
      simp only [hd]
      exact e
    · cases hd
  · cases e
def strD : Sto → List Dv → Option Dv := fun _ ds => match ds with
  | [.int i] => if i.natAbs.log2 < 1920 then some (.str (toString i)) else none
  | _ => none
theorem cd_str : CallD X (.type "str") (opA strD) := by
  refine callD0 call_str_int fun g H S ds vs d Q ok rr e q => ?_
  unfold strD at e
  split at e
  · split at e
    · rename_i hc
      cases e
      cases rr with
      | cons r1 r2 => cases r2; cases r1; exact ⟨_, rfl, hc, q _ (.str _)⟩
    · cases e
  · cases e
/-- list(x) -/
def listC (ds : List Dv) : M Dv := match ds with
  | [d] => fun S => match seqOf S d with
    | some l => mkC l S
    | none => none
  | _ => stuck
def listL (ds : List Dv) : M Dv := match ds with
  | [d] => fun S => match seqOf S d with
    | some l => mkL l S
    | none => none
  | _ => stuck
theorem cd_listC : CallD X (.type "list") listC := by
  refine ⟨_, call_list_of, fun g H S ds vs res Q Wx ok rr e post => ?_⟩
  unfold listC at e
  split at e
  · split at e
    · rename_i l hl
      cases rr with
      | cons r1 r2 =>
        cases r2
        obtain ⟨a, ws, rfl, s, r⟩ := seq_at ok r1 hl
        exact ⟨a, ws, rfl, s, (post_C ok r e post).2⟩
    · cases e
  · cases e
theorem cd_listL : CallD X (.type "list") listL := by
  refine ⟨_, call_list_of, fun g H S ds vs res Q Wx ok rr e post => ?_⟩
  unfold listL at e
  split at e
  · split at e
    · rename_i l hl
      cases rr with
      | cons r1 r2 =>
        cases r2
        obtain ⟨a, ws, rfl, s, r⟩ := seq_at ok r1 hl
        exact ⟨a, ws, rfl, s, (post_L ok r e post).2⟩
    · cases e
  · cases e
/-- tuple(x) -/
def tupleM (ds : List Dv) : M Dv := match ds with
  | [.tup l] => pure (.tup l)
  | [d] => fun S => match listOf S d with
    | some l => mkT l S
    | none => none
  | _ => stuck
theorem cd_tuple : CallD X (.type "tuple") tupleM := by
  refine ⟨_, call_tuple_of, fun g H S ds vs res Q Wx ok rr e post => ?_⟩
  unfold tupleM at e
  split at e
  · have er := pure_some e
    subst er
    cases rr with
    | cons r1 r2 =>
      cases r2
      obtain ⟨a, ws, rfl, s, r⟩ := tup_at ok r1
      exact ⟨a, ws, rfl, .inr ⟨s, post g _ H (Gh.le_refl g) ok r1⟩⟩
  · dsimp only at e
    split at e
    · rename_i l hl
      cases rr with
      | cons r1 r2 =>
        cases r2
        obtain ⟨a, ws, rfl, s, r⟩ := list_at ok r1 hl
        exact ⟨a, ws, rfl, .inl ⟨s, (post_T ok r e post).2⟩⟩
    · cases e
  · cases e
/-- all, any, sum of a list -/
def boolsOf : List Dv → Option (List Bool)
  | [] => some []
  | .bl b :: r => (boolsOf r).map (b :: ·)
  | _ :: _ => none
def intsOf : List Dv → Option (List Int)
  | [] => some []
  | .int b :: r => (intsOf r).map (b :: ·)
  | _ :: _ => none
theorem boolsOf_eq : ∀ {l : List Dv} {bs : List Bool}, boolsOf l = some bs → l = bs.map .bl
  | [], _, h => by cases h; rfl
  | .bl b :: r, bs, h => by
    simp only [boolsOf] at h
    obtain ⟨cs, h1, rfl⟩ := Option.map_eq_some_iff.mp h
    rw [boolsOf_eq h1]
    rfl
  | .non :: _, _, h => by cases h
  | .int _ :: _, _, h => by cases h
  | .str _ :: _, _, h => by cases h
  | .tup _ :: _, _, h => by cases h
  | .lst _ :: _, _, h => by cases h
  | .scr _ :: _, _, h => by cases h
  | .ref _ :: _, _, h => by cases h
  | .ty _ :: _, _, h => by cases h
  | .exc _ :: _, _, h => by cases h
theorem intsOf_eq : ∀ {l : List Dv} {bs : List Int}, intsOf l = some bs → l = bs.map .int
  | [], _, h => by cases h; rfl
  | .int b :: r, bs, h => by
    simp only [intsOf] at h
    obtain ⟨cs, h1, rfl⟩ := Option.map_eq_some_iff.mp h
    rw [intsOf_eq h1]
    rfl
  | .non :: _, _, h => by cases h
  | .bl _ :: _, _, h => by cases h
  | .str _ :: _, _, h => by cases h
  | .tup _ :: _, _, h => by cases h
  | .lst _ :: _, _, h => by cases h
  | .scr _ :: _, _, h => by cases h
  | .ref _ :: _, _, h => by cases h
  | .ty _ :: _, _, h => by cases h
  | .exc _ :: _, _, h => by cases h
theorem rps_bl {K : PySem.W.Frag} {g : Gh} : ∀ {bs : List Bool} {vs : List V}, Rps K g (bs.map .bl) vs → vs = bs.map .bl
  | [], _, h => by cases h; rfl
  | b :: bs, _, h => by
    cases h with
    | cons r t => cases r; rw [rps_bl t]; rfl
theorem rps_int {K : PySem.W.Frag} {g : Gh} : ∀ {bs : List Int} {vs : List V}, Rps K g (bs.map .int) vs → vs = bs.map .int
  | [], _, h => by cases h; rfl
  | b :: bs, _, h => by
    cases h with
    | cons r t => cases r; rw [rps_int t]; rfl
theorem rps_str {K : PySem.W.Frag} {g : Gh} : ∀ {bs : List Str} {vs : List V}, Rps K g (bs.map .str) vs → vs = bs.map .str
  | [], _, h => by cases h; rfl
  | b :: bs, _, h => by
    cases h with
    | cons r t => cases r; rw [rps_str t]; rfl
def allD : Sto → List Dv → Option Dv := fun S ds => match ds with
  | [d] => ((listOf S d).bind boolsOf).map fun bs => .bl (bs.all id)
  | _ => none
theorem cd_all (c : Ct X W) : CallD X (.builtin "all") (opA allD) := by
  refine callD0 (cr_all c.calm) fun g H S ds vs d Q ok rr e q => ?_
  unfold allD at e
  split at e
  · obtain ⟨bs, e1, rfl⟩ := Option.map_eq_some_iff.mp e
    obtain ⟨l, hl, hb⟩ := Option.bind_eq_some_iff.mp e1
    cases rr with
    | cons r1 r2 =>
      cases r2
      obtain ⟨a, ws, rfl, s, r⟩ := list_at ok r1 hl
      rw [boolsOf_eq hb] at r
      rw [rps_bl r] at s
      exact ⟨a, bs, rfl, s, q _ (.bl _)⟩
  · cases e
def anyD : Sto → List Dv → Option Dv := fun S ds => match ds with
  | [d] => ((listOf S d).bind boolsOf).map fun bs => .bl (bs.any id)
  | _ => none
theorem cd_any (c : Ct X W) : CallD X (.builtin "any") (opA anyD) := by
  refine callD0 (cr_any c.calm) fun g H S ds vs d Q ok rr e q => ?_
  unfold anyD at e
  split at e
  · obtain ⟨bs, e1, rfl⟩ := Option.map_eq_some_iff.mp e
    obtain ⟨l, hl, hb⟩ := Option.bind_eq_some_iff.mp e1
    cases rr with
    | cons r1 r2 =>
      cases r2
      obtain ⟨a, ws, rfl, s, r⟩ := list_at ok r1 hl
      rw [boolsOf_eq hb] at r
      rw [rps_bl r] at s
      exact ⟨a, bs, rfl, s, q _ (.bl _)⟩
  · cases e
/-- isinstance(x, T) -/
def tyOfD (S : Sto) : Dv → Option String
  | .non => some "NoneType"
  | .bl _ => some "bool"
  | .int _ => some "int"
  | .str _ => some "str"
  | .tup _ => some "tuple"
  | d => (listOf S d).map fun _ => "list"
def isiB (t c : String) : Bool := t == c || (t == "bool" && c == "int")
def isiD : Sto → List Dv → Option Dv := fun S ds => match ds with
  | [d, .ty c] => if c = "int" ∨ c = "bool" ∨ c = "str" ∨ c = "list" ∨ c = "tuple" then (tyOfD S d).map fun t => .bl (isiB t c) else none
  | _ => none
theorem isiB_ok : ∀ t ∈ (["NoneType", "bool", "int", "str", "tuple", "list"] : List String), ∀ c ∈ (["int", "bool", "str", "list", "tuple"] : List String), kitB t c = some (isiB t c) := by decide +kernel
theorem tyx_list {K : PySem.W.Frag} {H : Hp} {a : Addr} {vs : List V} (s : SqL K H a vs) : TyX K H (.ref a) (.type "list") := by
  rcases s with (s | ⟨o, s⟩) | ⟨o, its, n, h1, h2, h3⟩
  · exact .base (.lst s)
  · exact .base (.frz s)
  · exact .kList h1 h2
theorem tyx_tup {K : PySem.W.Frag} {H : Hp} {a : Addr} {vs : List V} (s : SqT K H a vs) : TyX K H (.ref a) (.type "tuple") := by
  rcases s with (s | ⟨o, s⟩) | ⟨o, its, n, h1, h2, h3⟩
  · exact .base (.tup s)
  · exact .fTuple s
  · exact .kTuple h1 h2
theorem cd_isi : CallD X (.builtin "isinstance") (opA isiD) := by
  refine callD0 call_isi fun g H S ds vs d Q ok rr e q => ?_
  unfold isiD at e
  split at e
  · rename_i d0 c
    split at e
    · rename_i hc
      obtain ⟨t, e1, rfl⟩ := Option.map_eq_some_iff.mp e
      cases rr with
      | cons r1 r2 =>
        cases r2 with
        | cons r2 r3 =>
          cases r3
          cases r2
          rename_i v
          have hc' : c ∈ (["int", "bool", "str", "list", "tuple"] : List String) := by
            rcases hc with h | h | h | h | h <;> subst h <;> decide
          have fin : ∀ t', t = t' → t' ∈ (["NoneType", "bool", "int", "str", "tuple", "list"] : List String) → TyX X.K H v (.type t') → rIsi X.K [v, .ty c] H Q := fun t' et mt ty => by
            subst et
            exact ⟨v, .ty c, .type t, .type c, isiB t c, rfl, .ty c, ty, kit_ty (isiB_ok t mt c hc'), q _ (.bl _)⟩
          have lst : ∀ l, listOf S d0 = some l → (listOf S d0).map (fun _ => "list") = some t → rIsi X.K [v, .ty c] H Q := fun l hl he => by
            rw [hl] at he
            cases he
            obtain ⟨a, ws, rfl, s, r⟩ := list_at ok r1 hl
            exact fin "list" rfl (by decide) (tyx_list s)
          cases d0 with
          | non => cases e1; cases r1; exact fin _ rfl (by decide) (.base .non)
          | bl b => cases e1; cases r1; exact fin _ rfl (by decide) (.base (.bl b))
          | int b => cases e1; cases r1; exact fin _ rfl (by decide) (.base (.int b))
          | str b => cases e1; cases r1; exact fin _ rfl (by decide) (.base (.str b))
          | tup l =>
            cases e1
            obtain ⟨a, ws, rfl, s, r⟩ := tup_at ok r1
            exact fin _ rfl (by decide) (tyx_tup s)
          | _ =>
            simp only [tyOfD] at e1
            obtain ⟨l, hl, _⟩ := Option.map_eq_some_iff.mp e1
            exact lst l hl e1
    · cases e
  · cases e
end
end ML

/-! ML 4: subscripts, slices, methods, walks, comprehensions. -/
namespace ML
open PySem PySem.Spec PyProof.Rows L2
section
variable {X : Cx} {W : WX}
/-! ### subscripts -/
theorem atI_rps {K : PySem.W.Frag} {g : Gh} {ds : List Dv} {vs : List V} {i : Int} {d : Dv} (r : Rps K g ds vs) (e : atI ds i = some d) : ∃ v, atI vs i = some v ∧ Rp K g d v := by
  unfold atI at e ⊢
  rw [← r.length]
  cases h : ixN ds.length i with
  | none => rw [h] at e; cases e
  | some j =>
    rw [h] at e
    exact r.get e
def IxD (X : Cx) (o : Sto → Dv → Dv → Option Dv) : Prop :=
  ∃ r : R2, IxR X r ∧ ∀ (g : Gh) (H : Hp) (S : Sto) (a b : Dv) (x y : V) (d : Dv) (Q : VK), Ok X.bs g H S → Rp X.K g a x → Rp X.K g b y → o S a b = some d →
    (∀ g' v H', g.le g' → Ok X.bs g' H' S → Rp X.K g' d v → Q v H') → r x y H Q
theorem de_ix {a b : Expr} {fa fb : Env' → M Dv} {o : Sto → Dv → Dv → Option Dv} {pos : Pos} (ho : IxD X o) (ha : DE X W a fa) (hb : DE X W b fb) (hs : PlainIx b := by exact fun _ _ => rfl) :
    DE X W (.Subscript a b pos) (eOp o fa fb) := by
  obtain ⟨r, h1, h2⟩ := ho
  obtain ⟨ta, pa, sa⟩ := ha
  obtain ⟨tb, pb, sb⟩ := hb
  exact ⟨_, pe_ix h1 pa pb hs, sn_op (f := fun v u => getItem v u) h2 sa sb⟩
def ixD : Sto → Dv → Dv → Option Dv := fun S a b => match b with
  | .int i => match a with
    | .str z => if z.length ≤ sizeLine then (atI z.cps.toList i).map fun c => .str ⟨#[c]⟩ else none
    | .tup l => atI l i
    | d => (listOf S d).bind fun l => atI l i
  | _ => none
theorem id_seq : IxD X ixD := by
  refine ⟨_, ix_seq, fun g H S a b x y d Q ok ra rb e q => ?_⟩
  unfold ixD at e
  split at e
  · rename_i i
    cases rb
    have lst : ∀ l, listOf S a = some l → atI l i = some d → rIx X.K x (.int i) H Q := fun l hl he => by
      obtain ⟨p, vs, rfl, s, r⟩ := list_at ok ra hl
      obtain ⟨v, hv, rv⟩ := atI_rps r he
      exact .inl ⟨p, vs, i, v, rfl, rfl, s, hv, q g v H (Gh.le_refl g) ok rv⟩
    cases a with
    | str z =>
      cases ra
      dsimp only at e
      split at e
      · rename_i hc
        obtain ⟨c, e1, rfl⟩ := Option.map_eq_some_iff.mp e
        exact .inr (.inr ⟨z, i, c, rfl, rfl, hc, e1, q g _ H (Gh.le_refl g) ok (.str _)⟩)
      · cases e
    | tup l =>
      obtain ⟨p, vs, rfl, s, r⟩ := tup_at ok ra
      obtain ⟨v, hv, rv⟩ := atI_rps r e
      exact .inr (.inl ⟨p, vs, i, v, rfl, rfl, s, hv, q g v H (Gh.le_refl g) ok rv⟩)
    | _ =>
      obtain ⟨l, hl, he⟩ := Option.bind_eq_some_iff.mp e
      exact lst l hl he
  · cases e

/-! ### slices -/
def DO (X : Cx) (W : WX) (e : Option Expr) (f : Env' → M (Option Int)) : Prop := ∃ t : TO, PO X e t ∧ Sn X.bs W Re t f
def oNone (_ : Env') : M (Option Int) := pure none
def asI : Dv → M Int
  | .int i => pure i
  | _ => stuck
def oSome (f : Env' → M Dv) (env : Env') : M (Option Int) := do let d ← f env; let i ← asI d; pure (some i)
theorem do_none : DO X W none oNone := by
  refine ⟨_, po_none, fun g σ H env S r Q ok en e post => ?_⟩
  have er := pure_some e
  subst er
  exact post g _ H (Gh.le_refl g) ok rfl
theorem do_some {e : Expr} {f : Env' → M Dv} (h : DE X W e f) : DO X W (some e) (oSome f) := by
  obtain ⟨t, p, s⟩ := h
  refine ⟨_, po_some p, Sn.bind (t2 := fun x _ H1 Q => ∃ i, x = .int i ∧ Q (some i) H1) (f2 := fun d _ => do let i ← asI d; pure (some i)) s ?_⟩
  intro g σ H env S a b res Q ok en r e post
  cases a with
  | int i =>
    cases r
    have er := pure_some e
    subst er
    exact ⟨i, rfl, post g _ H (Gh.le_refl g) ok rfl⟩
  | _ => cases e
def cutG {α : Type} (xs : List α) (lo hi : Option Int) : List α := (xs.drop (HT.sIx xs.length 0 lo)).take (HT.sIx xs.length xs.length hi - HT.sIx xs.length 0 lo)
theorem cut_rps {K : PySem.W.Frag} {g : Gh} {ds : List Dv} {vs : List V} {lo hi : Option Int} (r : Rps K g ds vs) : Rps K g (cutG ds lo hi) (cutV vs lo hi) := by
  unfold cutG cutV
  rw [r.length]
  exact (r.drop _).take _
def SlD (X : Cx) (o : Dv → Option Int → Option Int → M Dv) : Prop :=
  ∃ r : V → Option Int → Option Int → Hp → VK → Prop, SlR X r ∧ ∀ (g : Gh) (H : Hp) (S : Sto) (a : Dv) (x : V) (lo hi : Option Int) (res : Rs Dv) (Q : VK) (Wx : XK), Ok X.bs g H S → Rp X.K g a x → o a lo hi S = some res → Post X.bs g (Rv X) Q Wx res → r x lo hi H Q
def eSl (o : Dv → Option Int → Option Int → M Dv) (f : Env' → M Dv) (fl fh : Env' → M (Option Int)) (env : Env') : M Dv := do let d ← f env; let l ← fl env; let u ← fh env; o d l u
theorem de_slice {e : Expr} {lo hi : Option Expr} {f : Env' → M Dv} {fl fh : Env' → M (Option Int)} {o : Dv → Option Int → Option Int → M Dv} {p2 pos : Pos} (ho : SlD X o) (he : DE X W e f) (hl : DO X W lo fl) (hh : DO X W hi fh) :
    DE X W (.Subscript e (.Slice lo hi none p2) pos) (eSl o f fl fh) := by
  obtain ⟨r, h1, h2⟩ := ho
  obtain ⟨t, p, s⟩ := he
  obtain ⟨tl, pl, sl⟩ := hl
  obtain ⟨th, ph, sh⟩ := hh
  refine ⟨_, pe_slice h1 p pl ph, fun g σ H env S res Q ok en e post => ?_⟩
  rcases bind_some (x := f env) e with ⟨d, S1, e1, e2⟩ | ⟨ex, S1, e1, rfl⟩
  · refine s g σ H env S _ _ ok en e1 fun g1 v1 H1 l1 ok1 r1 => ?_
    rcases bind_some (x := fl env) e2 with ⟨l, S2, e3, e4⟩ | ⟨ex, S2, e3, rfl⟩
    · refine sl g1 σ H1 env S1 _ _ ok1 (en.mono l1) e3 fun g2 v2 H2 l2 ok2 r2 => ?_
      cases r2
      rcases bind_some (x := fh env) e4 with ⟨u, S3, e5, e6⟩ | ⟨ex, S3, e5, rfl⟩
      · refine sh g2 σ H2 env S2 _ _ ok2 (en.mono (Gh.le_trans l1 l2)) e5 fun g3 v3 H3 l3 ok3 r3 => ?_
        cases r3
        exact h2 g3 H3 S3 d v1 l u res Q _ ok3 (r1.mono (Gh.le_trans l2 l3)) e6 (post.mono (Gh.le_trans l1 (Gh.le_trans l2 l3)))
      · exact sh g2 σ H2 env S2 _ _ ok2 (en.mono (Gh.le_trans l1 l2)) e5 (post.mono (Gh.le_trans l1 l2))
    · exact sl g1 σ H1 env S1 _ _ ok1 (en.mono l1) e3 (post.mono l1)
  · exact s g σ H env S _ _ ok en e1 post
/-- x[lo:hi]: a text, a tuple, a list (frozen) -/
def slD (d : Dv) (lo hi : Option Int) : M Dv := match d with
  | .str z => if z.length ≤ sizeLine then pure (.str (cutS z lo hi)) else stuck
  | .tup l => pure (.tup (cutG l lo hi))
  | d => fun S => match listOf S d with
    | some l => some (.ok (.lst (cutG l lo hi)) S)
    | none => none
/-- the same, the list to be changed -/
def slC (d : Dv) (lo hi : Option Int) : M Dv := fun S => match listOf S d with
    | some l => some (.ok (.ref S.length) (S ++ [.lst (cutG l lo hi)]))
    | none => none
theorem sl_whole {vs : List V} {lo hi : Option Int} (h : HT.sIx vs.length 0 lo = 0 ∧ HT.sIx vs.length vs.length hi = vs.length) : cutV vs lo hi = vs := by
  unfold cutV
  rw [h.1, h.2, List.drop_zero, Nat.sub_zero, List.take_length]
theorem sd_sl : SlD X slD := by
  refine ⟨_, sl_str.or (sl_tupA.or sl_list), fun g H S a x lo hi res Q Wx ok ra e post => ?_⟩
  have lst : ∀ l, listOf S a = some l → res = .ok (.lst (cutG l lo hi)) S → rSlL X.K x lo hi H Q := fun l hl he => by
    subst he
    obtain ⟨p, vs, rfl, s, r⟩ := list_at ok ra hl
    refine ⟨p, vs, rfl, s, fun np hp => ?_⟩
    obtain ⟨hle, ok'⟩ := ok.newF (o := .lst (cutV vs lo hi)) hp
    exact post _ _ _ hle ok' (.lst upd_same ((cut_rps r).mono hle))
  cases a with
  | str z =>
    cases ra
    unfold slD at e
    dsimp only at e
    by_cases hc : z.length ≤ sizeLine
    · rw [if_pos hc] at e
      have er := pure_some e
      subst er
      exact .inl ⟨z, rfl, hc, post g _ H (Gh.le_refl g) ok (.str _)⟩
    · rw [if_neg hc] at e
      cases e
  | tup l =>
    have er := pure_some e
    subst er
    obtain ⟨p, vs, rfl, s, r⟩ := tup_at ok ra
    refine .inr (.inl ⟨p, vs, rfl, s, fun hw => ?_, fun _ np hp => ?_⟩)
    · have c := cut_rps (lo := lo) (hi := hi) r
      rw [sl_whole hw] at c
      refine post g _ H (Gh.le_refl g) ok ?_
      cases ra with
      | tup s2 r2 =>
        have e2 : HT.sIx l.length 0 lo = 0 ∧ HT.sIx l.length l.length hi = l.length := by rw [r.length]; exact hw
        unfold cutG
        rw [e2.1, e2.2, List.drop_zero, Nat.sub_zero, List.take_length]
        exact .tup s2 r2
    · obtain ⟨hle, ok'⟩ := ok.newF (o := .tup (cutV vs lo hi)) hp
      exact post _ _ _ hle ok' (.tup (SqT.of upd_same) ((cut_rps r).mono hle))
  | _ =>
    unfold slD at e
    dsimp only at e
    split at e
    · rename_i l hl
      exact .inr (.inr (lst l hl (Option.some.inj e).symm))
    · cases e
theorem sd_slC : SlD X slC := by
  refine ⟨_, sl_list, fun g H S a x lo hi res Q Wx ok ra e post => ?_⟩
  unfold slC at e
  split at e
  · rename_i l hl
    cases e
    obtain ⟨p, vs, rfl, s, r⟩ := list_at ok ra hl
    refine ⟨p, vs, rfl, s, fun np hp => ?_⟩
    obtain ⟨hle, ok'⟩ := ok.newC (o := .lst (cutV vs lo hi)) (c := .lst (cutG l lo hi)) hp ⟨_, upd_same, (cut_rps r).mono Gh.cell_le⟩
    refine post _ _ _ hle ok' (.ref ?_)
    rw [← ok.len]
    exact Gh.cell_at
  · cases e

/-! ### methods of built-in types -/
def tyD (S : Sto) : Dv → String → Bool
  | .str _, T => T == "str"
  | .ref n, T => match S[n]? with
    | some (.lst _) => T == "list"
    | some (.dct _) => T == "dict"
    | _ => false
  | d, T => T == "list" && (listOf S d).isSome
theorem tyD_at {B : Bs} {g : Gh} {H : Hp} {S : Sto} {d : Dv} {v : V} {T : String} (ok : Ok B g H S) (r : Rp B.K g d v) (e : tyD S d T = true) : tyV B.K T v H := by
  have lst : ∀ l, listOf S d = some l → T = "list" → tyV B.K T v H := fun l hl he => by
    obtain ⟨a, vs, rfl, s, _⟩ := list_at ok r hl
    exact .inl ⟨he, vs, s⟩
  have gen : (T == "list" && (listOf S d).isSome) = true → tyV B.K T v H := fun h => by
    rw [Bool.and_eq_true] at h
    obtain ⟨l, hl⟩ := Option.isSome_iff_exists.mp h.2
    exact lst l hl (beq_iff_eq.mp h.1)
  cases d with
  | str z =>
    cases r
    exact beq_iff_eq.mp e
  | ref n =>
    simp only [tyD] at e
    cases hc : S[n]? with
    | none => rw [hc] at e; cases e
    | some c =>
      rw [hc] at e
      cases c with
      | lst l => exact lst l (by simp [listOf, ownOf, hc]) (beq_iff_eq.mp e)
      | dct l =>
        cases r with
        | ref hm =>
          obtain ⟨ws, h1, _⟩ := ok.cel _ _ _ hc hm
          exact .inr (.inr (.inl ⟨beq_iff_eq.mp e, .inl ⟨ws, h1⟩⟩))
      | ins _ _ => cases e
      | dead => cases e
      | lck _ => cases e
  | _ => exact gen e
def chkT (T : String) (d : Dv) : M Unit := fun S => if tyD S d T = true then some (.ok () S) else none
def MtD (X : Cx) (id : String) (o : Dv → List Dv → M Dv) : Prop :=
  ∃ r : V → List V → Hp → VK → Prop, MtR X id r ∧ ∀ (g : Gh) (H : Hp) (S : Sto) (a : Dv) (ds : List Dv) (v : V) (vs : List V) (res : Rs Dv) (Q : VK) (Wx : XK), Ok X.bs g H S → Rp X.K g a v → Rps X.K g ds vs → o a ds S = some res → Post X.bs g (Rv X) Q Wx res → r v vs H Q
def eMt0 (T : String) (fo : Env' → M Dv) (op : Dv → List Dv → M Dv) (env : Env') : M Dv := do let a ← fo env; chkT T a; op a []
def eMt (T : String) (fo : Env' → M Dv) (fs : Env' → M (List Dv)) (op : Dv → List Dv → M Dv) (env : Env') : M Dv := do let a ← fo env; chkT T a; let ds ← fs env; op a ds
theorem de_bm0 {T id : String} {name : Str} {apos cpos : Pos} {o : Expr} {fo : Env' → M Dv} {op : Dv → List Dv → M Dv} (pa : PlainAttrs T) (slot : Slot T name id) (hty : typeOf (.builtin id) = pure (.type "method_descriptor")) (hm : MtD X id op) (ho : DE X W o fo)
    (hbase : attributeBase o name X.env (eval o X.env) = eval o X.env := by rfl) (hline : (apos.endLine == cpos.line) = true := by rfl) : DE X W (.Call (.Attribute o name apos) [] [] cpos) (eMt0 T fo op) := by
  obtain ⟨r, h1, h2⟩ := hm
  obtain ⟨t, p, s⟩ := ho
  refine ⟨_, pe_bm0 pa slot hty h1 p hbase hline, Sn.bind (t2 := fun x _ H1 Q => tyV X.K T x H1 ∧ r x [] H1 Q) (f2 := fun a _ => do chkT T a; op a []) s ?_⟩
  intro g σ H env S a b res Q ok en rr e post
  rcases bind_some (x := chkT T a) e with ⟨_, S1, e1, e2⟩ | ⟨ex, S1, e1, _⟩
  · unfold chkT at e1
    split at e1
    · rename_i hc
      cases e1
      exact ⟨tyD_at ok rr hc, h2 g H S a [] b [] res Q _ ok rr .nil e2 post⟩
    · cases e1
  · unfold chkT at e1
    split at e1 <;> cases e1
theorem de_bm {T id : String} {name : Str} {apos cpos : Pos} {o e : Expr} {es : List Expr} {fo : Env' → M Dv} {fs : Env' → M (List Dv)} {op : Dv → List Dv → M Dv} (pa : PlainAttrs T) (slot : Slot T name id) (hty : typeOf (.builtin id) = pure (.type "method_descriptor")) (hm : MtD X id op) (ho : DE X W o fo) (ha : DA X W (e :: es) fs)
    (hbase : attributeBase o name X.env (eval o X.env) = eval o X.env := by rfl)
    (hfew : ((backTo cpos (starEach (e :: es) X.env)).all (fun x => !x.1) && (backToKw cpos (keywordEach [] X.env)).all (fun x => x.1.isSome)
      && decide ((e :: es).length + ([] : List Keyword).length + (if ([] : List Keyword).isEmpty then 0 else 1) < 30)) = true := by rfl)
    (hline : (apos.endLine == cpos.line) = true := by rfl) (hs : starEach (e :: es) X.env = (false, eval e X.env) :: starEach es X.env := by rfl) (hplain : (backTo cpos (starEach es X.env)).any (·.1) = false := by rfl) :
    DE X W (.Call (.Attribute o name apos) (e :: es) [] cpos) (eMt T fo fs op) := by
  obtain ⟨r, h1, h2⟩ := hm
  obtain ⟨t, p, s⟩ := ho
  obtain ⟨t2, p2, s2, _⟩ := ha
  refine ⟨_, pe_bm pa slot hty h1 p p2 hbase hfew hline hs hplain, Sn.bind (t2 := fun x σ H1 Q => tyV X.K T x H1 ∧ t2 σ H1 fun xs H2 => r x xs H2 Q) (f2 := fun a env => do chkT T a; let ds ← fs env; op a ds) s ?_⟩
  intro g σ H env S a b res Q ok en rr e post
  rcases bind_some (x := chkT T a) e with ⟨_, S1, e1, e2⟩ | ⟨ex, S1, e1, _⟩
  · unfold chkT at e1
    split at e1
    · rename_i hc
      cases e1
      refine ⟨tyD_at ok rr hc, ?_⟩
      rcases bind_some (x := fs env) e2 with ⟨ds, S2, e3, e4⟩ | ⟨ex, S2, e3, rfl⟩
      · refine s2 g σ H env S _ _ ok en e3 fun g1 vs H1 l1 ok1 r1 => ?_
        exact h2 g1 H1 S2 a ds b vs res Q _ ok1 (rr.mono l1) r1 e4 (post.mono l1)
      · exact s2 g σ H env S _ _ ok en e3 post
    · cases e1
  · unfold chkT at e1
    split at e1 <;> cases e1
def opM (o : Sto → Dv → List Dv → Option Dv) (a : Dv) (ds : List Dv) : M Dv := lift0 fun S => o S a ds
theorem mtD0 {id : String} {o : Sto → Dv → List Dv → Option Dv} {r : V → List V → Hp → VK → Prop} (h : MtR X id r)
    (h2 : ∀ (g : Gh) (H : Hp) (S : Sto) (a : Dv) (ds : List Dv) (v : V) (vs : List V) (d : Dv) (Q : VK), Ok X.bs g H S → Rp X.K g a v → Rps X.K g ds vs → o S a ds = some d → (∀ g' v H', g.le g' → Ok X.bs g' H' S → Rp X.K g' d v → Q v H') → r v vs H Q) : MtD X id (opM o) := by
  refine ⟨r, h, fun g H S a ds v vs res Q Wx ok ra rr e post => ?_⟩
  obtain ⟨d, e', er⟩ := lift0_some e
  subst er
  exact h2 g H S a ds v vs d Q ok ra rr e' fun g' v H' l ok' rv => post g' v H' l ok' rv
def strsOf : List Dv → Option (List Str)
  | [] => some []
  | .str b :: r => (strsOf r).map (b :: ·)
  | _ :: _ => none
theorem strsOf_eq : ∀ {l : List Dv} {bs : List Str}, strsOf l = some bs → l = bs.map .str
  | [], _, h => by cases h; rfl
  | .str b :: r, bs, h => by
    simp only [strsOf] at h
    obtain ⟨cs, h1, rfl⟩ := Option.map_eq_some_iff.mp h
    rw [strsOf_eq h1]
    rfl
  | .non :: _, _, h => by cases h
  | .bl _ :: _, _, h => by cases h
  | .int _ :: _, _, h => by cases h
  | .tup _ :: _, _, h => by cases h
  | .lst _ :: _, _, h => by cases h
  | .scr _ :: _, _, h => by cases h
  | .ref _ :: _, _, h => by cases h
  | .ty _ :: _, _, h => by cases h
  | .exc _ :: _, _, h => by cases h
def joinD : Sto → Dv → List Dv → Option Dv := fun S a ds => match a, ds with
  | .str z, [d] => match (seqOf S d).bind strsOf with
    | some ys => if (ys.map (·.length)).sum + ys.length * z.length ≤ 16777216 then some (.str (Txt.join z ys)) else none
    | none => none
  | _, _ => none
theorem md_join : MtD X "str.join" (opM joinD) := by
  refine mtD0 mt_join fun g H S a ds v vs d Q ok ra rr e q => ?_
  unfold joinD at e
  split at e
  · split at e
    · rename_i ys hy
      split at e
      · rename_i hc
        cases e
        obtain ⟨l, hl, hs⟩ := Option.bind_eq_some_iff.mp hy
        cases ra
        cases rr with
        | cons r1 r2 =>
          cases r2
          obtain ⟨p, ws, rfl, s, r⟩ := seq_at ok r1 hl
          rw [strsOf_eq hs] at r
          rw [rps_str r] at s
          exact ⟨_, p, ys, rfl, rfl, s, hc, q g _ H (Gh.le_refl g) ok (.str _)⟩
      · cases e
    · cases e
  · cases e
def splitD : Sto → Dv → List Dv → Option Dv := fun S a ds => match a, ds with
  | .str z, [.str y] => if (y.length == 0) = false ∧ z.length + 2 ≤ sizeLine then some (.lst ((Txt.split z y).map .str)) else none
  | _, _ => none
theorem md_split : MtD X "str.split" (opM splitD) := by
  refine mtD0 mt_split fun g H S a ds v vs d Q ok ra rr e q => ?_
  unfold splitD at e
  split at e
  · split at e
    · rename_i hc
      cases e
      cases ra
      cases rr with
      | cons r1 r2 =>
        cases r2
        cases r1
        refine ⟨_, _, rfl, rfl, hc.1, hc.2, fun p hp => ?_⟩
        obtain ⟨hle, ok'⟩ := ok.newF (o := .lst ((Txt.split _ _).map V.str)) hp
        exact q _ _ _ hle ok' (.lst upd_same (Rps.strs _))
    · cases e
  · cases e
/-- a cell's list -/
def cellL (S : Sto) : Dv → Option (Nat × List Dv)
  | .ref n => match S[n]? with
    | some (.lst l) => some (n, l)
    | _ => none
  | _ => none
theorem cellL_at {B : Bs} {g : Gh} {H : Hp} {S : Sto} {d : Dv} {v : V} {n : Nat} {l : List Dv} (ok : Ok B g H S) (r : Rp B.K g d v) (e : cellL S d = some (n, l)) :
    ∃ a vs, v = .ref a ∧ S[n]? = some (.lst l) ∧ g.m[n]? = some a ∧ H a = some (.lst vs) ∧ Rps B.K g l vs := by
  cases d with
  | ref k =>
    simp only [cellL] at e
    cases hc : S[k]? with
    | none => rw [hc] at e; cases e
    | some c =>
      rw [hc] at e
      cases c with
      | lst l' =>
        cases e
        cases r with
        | ref hm =>
          obtain ⟨vs, h1, h2⟩ := ok.cel _ _ _ hc hm
          exact ⟨_, vs, rfl, hc, hm, h1, h2⟩
      | dct _ => cases e
      | ins _ _ => cases e
      | dead => cases e
      | lck _ => cases e
  | _ => cases e
theorem Ok.setL {B : Bs} {g : Gh} {H : Hp} {S : Sto} {n : Nat} {l l' : List Dv} {a : Addr} {vs' : List V} (ok : Ok B g H S) (hs : S[n]? = some (.lst l)) (hm : g.m[n]? = some a) (r : Rps B.K g l' vs') : Ok B g (upd H a (.lst vs')) (S.set n (.lst l')) :=
  ok.write hs (by intro z; cases z) hm ⟨vs', upd_same, r⟩
def appendM (a : Dv) (ds : List Dv) : M Dv := fun S => match ds, cellL S a with
  | [d], some (n, l) => if l.length < sizeLine then some (.ok .non (S.set n (.lst (l ++ [d])))) else none
  | _, _ => none
theorem md_append : MtD X "list.append" appendM := by
  refine ⟨_, mt_append, fun g H S a ds v vs res Q Wx ok ra rr e post => ?_⟩
  unfold appendM at e
  split at e
  · rename_i d n l hl
    split at e
    · rename_i hc
      cases e
      obtain ⟨p, ws, rfl, h1, h2, h3, h4⟩ := cellL_at ok ra hl
      cases rr with
      | cons r1 r2 =>
        cases r2
        refine ⟨p, ws, _, rfl, rfl, h3, by rw [← h4.length]; exact hc, ?_⟩
        exact post g _ _ (Gh.le_refl g) (ok.setL h1 h2 (h4.append (.cons r1 .nil))) .non
    · cases e
  · cases e
def popAtM (a : Dv) (ds : List Dv) : M Dv := fun S => match ds, cellL S a with
  | [.int i], some (n, l) => if -(2 ^ 63) ≤ i ∧ i < 2 ^ 63 then (match seqIndex? i l.length with
    | some k => match l[k]? with
      | some d => some (.ok d (S.set n (.lst (l.eraseIdx k))))
      | none => none
    | none => none) else none
  | _, _ => none
theorem md_popAt : MtD X "list.pop" popAtM := by
  refine ⟨_, mt_popAt, fun g H S a ds v vs res Q Wx ok ra rr e post => ?_⟩
  unfold popAtM at e
  split at e
  · rename_i i n l hl
    split at e
    · rename_i hc
      split at e
      · rename_i k hk
        split at e
        · rename_i d hd
          cases e
          obtain ⟨p, ws, rfl, h1, h2, h3, h4⟩ := cellL_at ok ra hl
          cases rr with
          | cons r1 r2 =>
            cases r2
            cases r1
            obtain ⟨w, hw, rw'⟩ := h4.get hd
            refine ⟨p, ws, i, k, w, rfl, rfl, h3, hc.1, hc.2, by rw [← h4.length]; exact hk, hw, ?_⟩
            exact post g _ _ (Gh.le_refl g) (ok.setL h1 h2 (h4.eraseIdx k)) rw'
        · cases e
      · cases e
    · cases e
  · cases e
def popM (a : Dv) (ds : List Dv) : M Dv := fun S => match ds, cellL S a with
  | [], some (n, l) => match l[l.length - 1]? with
    | some d => some (.ok d (S.set n (.lst l.dropLast)))
    | none => none
  | _, _ => none
theorem rps_dropLast {K : PySem.W.Frag} {g : Gh} {l : List Dv} {vs : List V} (r : Rps K g l vs) : Rps K g l.dropLast vs.dropLast := by
  rw [List.dropLast_eq_take, List.dropLast_eq_take, r.length]
  exact r.take _
theorem md_pop : MtD X "list.pop" popM := by
  refine ⟨_, mt_pop, fun g H S a ds v vs res Q Wx ok ra rr e post => ?_⟩
  unfold popM at e
  split at e
  · rename_i n l hl
    split at e
    · rename_i d hd
      cases e
      obtain ⟨p, ws, rfl, h1, h2, h3, h4⟩ := cellL_at ok ra hl
      cases rr
      obtain ⟨w, hw, rw'⟩ := h4.get hd
      refine ⟨p, ws, w, rfl, rfl, h3, by rw [← h4.length]; exact hw, ?_⟩
      exact post g _ _ (Gh.le_refl g) (ok.setL h1 h2 (rps_dropLast h4)) rw'
    · cases e
  · cases e
end
end ML

/-! ML 5: walks, comprehensions, targets, statements. -/
namespace ML
open PySem PySem.Spec PyProof.Rows L2
section
variable {X : Cx} {W : WX}
/-! ### what is walked -/
abbrev Sr := Sto → Option (List Dv)
/-- the ghost grows; the private objects may be others -/
def Gh.sub (g g' : Gh) : Prop := (∀ a o, g.F a = some o → g'.F a = some o) ∧ ∀ (n : Nat) (a : Addr), g.m[n]? = some a → g'.m[n]? = some a
theorem Gh.le.sub {g g' : Gh} (h : g.le g') : g.sub g' := ⟨h.1, h.2.1⟩
theorem Gh.sub_trans {a b c : Gh} (h : a.sub b) (k : b.sub c) : a.sub c := ⟨fun x o e => k.1 x o (h.1 x o e), fun n x e => k.2 n x (h.2 n x e)⟩
theorem Rp.sub {K : PySem.W.Frag} {g g' : Gh} (h : g.sub g') {d : Dv} {v : V} (r : Rp K g d v) : Rp K g' d v := r.mono' h.1 h.2
theorem Rps.sub {K : PySem.W.Frag} {g g' : Gh} (h : g.sub g') {d : List Dv} {v : List V} (r : Rps K g d v) : Rps K g' d v := r.mono' h.1 h.2
theorem Rkv.sub {κ : Type} {K : PySem.W.Frag} {g g' : Gh} (h : g.sub g') {d : List (κ × Dv)} {v : List (κ × V)} (r : Rkv K g d v) : Rkv K g' d v := r.mono' h.1 h.2
theorem En.sub {B : Bs} {g g' : Gh} (h : g.sub g') {σ : L2.St} {env : Env'} (e : En B g σ env) : En B g' σ env :=
  ⟨e.len, fun i d q => let ⟨v, a, b⟩ := e.at_ i d q; ⟨v, a, b.sub h⟩⟩
def JOk (B : Bs) (g : Gh) (J : It) (src : Sr) : Prop :=
  ∀ (g' : Gh) (H : Hp) (S : Sto) (l : List Dv), g.sub g' → Ok B g' H S → src S = some l → ∀ i : Nat, (l.length ≤ i → J.stop i H) ∧
    ∀ d, l[i]? = some d → J.go i H ∧ ∀ x H', J.yld i H x H' → ∃ g'', g'.le g'' ∧ Ok B g'' H' S ∧ Rp B.K g'' d x
abbrev Rj (X : Cx) : Gh → Sr → It → Prop := fun g src J => JOk X.bs g J src
def DI (X : Cx) (W : WX) (tg iter : Expr) (f : Env' → M Sr) : Prop := ∃ wi : TI, PI X tg iter wi ∧ Sn X.bs W (Rj X) wi f
/-- the source of a walk over a value -/
def srcOf (d : Dv) : M Sr := match d with
  | .lst l => pure fun _ => some l
  | .scr l => pure fun _ => some l
  | .tup l => pure fun _ => some l
  | .str z => pure fun _ => some (z.cps.toList.map fun c => .str ⟨#[c]⟩)
  | .ref n => fun S => match S[n]? with
    | some (.lst _) => some (.ok (fun S => listOf S (.ref n)) S)
    | _ => none
  | _ => stuck
theorem jok_list {B : Bs} {g : Gh} {a : Addr} {d : Dv} (r : Rp B.K g d (.ref a)) {src : Sr} (h : ∀ S, src S = listOf S d) : JOk B g (Itl B.K a) src := by
  intro g' H S l hl ok hs i
  rw [h] at hs
  obtain ⟨a', vs, e, s, rr⟩ := list_at ok (r.sub hl) hs
  cases e
  refine ⟨fun hi => ⟨vs, s, by rw [← rr.length]; exact hi⟩, fun d' hd => ?_⟩
  obtain ⟨v, hv, rv⟩ := rr.get hd
  refine ⟨⟨vs, v, s, hv⟩, fun x H' hy => ?_⟩
  obtain ⟨rfl, hy⟩ := hy
  have e := hy vs s
  rw [hv] at e
  cases e
  exact ⟨g', Gh.le_refl g', ok, rv⟩
theorem jok_tup {B : Bs} {g : Gh} {a : Addr} {l : List Dv} (r : Rp B.K g (.tup l) (.ref a)) : JOk B g (Itt B.K a) (fun _ => some l) := by
  intro g' H S l' hl ok hs i
  cases hs
  obtain ⟨a', vs, e, s, rr⟩ := tup_at ok (r.sub hl)
  cases e
  refine ⟨fun hi => ⟨vs, s, by rw [← rr.length]; exact hi⟩, fun d' hd => ?_⟩
  obtain ⟨v, hv, rv⟩ := rr.get hd
  refine ⟨⟨vs, v, s, hv⟩, fun x H' hy => ?_⟩
  obtain ⟨rfl, hy⟩ := hy
  have e := hy vs s
  rw [hv] at e
  cases e
  exact ⟨g', Gh.le_refl g', ok, rv⟩
theorem jok_str {B : Bs} {g : Gh} (z : Str) : JOk B g (Its z) (fun _ => some (z.cps.toList.map fun c => .str ⟨#[c]⟩)) := by
  intro g' H S l' hl ok hs i
  cases hs
  refine ⟨fun hi => ?_, fun d' hd => ?_⟩
  · show z.cps.size ≤ i
    simpa using hi
  · rw [List.getElem?_map] at hd
    obtain ⟨c, hc, rfl⟩ := Option.map_eq_some_iff.mp hd
    have hc' : z.cps[i]? = some c := by simpa using hc
    refine ⟨(Array.getElem?_eq_some_iff.mp hc').1, fun x H' hy => ?_⟩
    obtain ⟨rfl, c', h1, rfl⟩ := hy
    rw [hc'] at h1
    cases h1
    exact ⟨g', Gh.le_refl g', ok, .str _⟩
def iVal (f : Env' → M Dv) (env : Env') : M Sr := do let d ← f env; srcOf d
def iArg (fs : Env' → M (List Dv)) (o : List Dv → M Sr) (env : Env') : M Sr := do let ds ← fs env; o ds
theorem pi_or {tg iter : Expr} {w1 w2 : TI} (h1 : PI X tg iter w1) (h2 : PI X tg iter w2) : PI X tg iter (fun σ H R => w1 σ H R ∨ w2 σ H R) :=
  ⟨fun pins s σ H R I h => h.elim (h1.run pins s σ H R I) (h2.run pins s σ H R I)⟩
/-- over a list, a tuple, a text -/
theorem di_val {tg e : Expr} {f : Env' → M Dv} (h : DE X W e f) : DI X W tg e (iVal f) := by
  obtain ⟨t, p, s⟩ := h
  refine ⟨_, pi_or (pi_list p) (pi_or (pi_tup p) (pi_str p)), fun g σ H env S r Q ok en e post => ?_⟩
  rcases bind_some (x := f env) e with ⟨d, S1, e1, e2⟩ | ⟨ex, S1, e1, rfl⟩
  · have lst : ∀ l src, listOf S1 d = some l → (∀ S, src S = listOf S d) → r = .ok src S1 → iList X.K t σ H Q := fun l src hl hsrc er => by
      subst er
      refine s g σ H env S _ _ ok en e1 fun g' v H' l1 ok' rv => ?_
      obtain ⟨a, vs, rfl, s', rr⟩ := list_at ok' rv hl
      exact ⟨a, rfl, ⟨vs, s'⟩, post g' _ H' l1 ok' (jok_list rv hsrc)⟩
    cases d with
    | lst l =>
      have er := pure_some e2
      exact .inl (lst l _ rfl (fun _ => rfl) er)
    | scr l =>
      have er := pure_some e2
      exact .inl (lst l _ rfl (fun _ => rfl) er)
    | ref n =>
      simp only [srcOf] at e2
      cases hc : S1[n]? with
      | none => rw [hc] at e2; cases e2
      | some c =>
        rw [hc] at e2
        cases c with
        | lst l => exact .inl (lst l _ (by simp [listOf, ownOf, hc]) (fun _ => rfl) (Option.some.inj e2).symm)
        | dct _ => cases e2
        | ins _ _ => cases e2
        | dead => cases e2
        | lck _ => cases e2
    | tup l =>
      have er := pure_some e2
      subst er
      refine .inr (.inl (s g σ H env S _ _ ok en e1 fun g' v H' l1 ok' rv => ?_))
      obtain ⟨a, vs, rfl, s', rr⟩ := tup_at ok' rv
      exact ⟨a, rfl, ⟨vs, s'⟩, post g' _ H' l1 ok' (jok_tup rv)⟩
    | str z =>
      have er := pure_some e2
      subst er
      refine .inr (.inr (s g σ H env S _ _ ok en e1 fun g' v H' l1 ok' rv => ?_))
      cases rv
      exact ⟨z, rfl, post g' _ H' l1 ok' (jok_str z)⟩
    | _ => cases e2
  · exact .inl (s g σ H env S _ _ ok en e1 post)
theorem jok_range {B : Bs} {g : Gh} (lo : Int) (n : Nat) : JOk B g (Itr lo n) (fun _ => some ((List.range n).map fun i : Nat => .int (lo + i))) := by
  intro g' H S l' hl ok hs i
  cases hs
  refine ⟨fun hi => ?_, fun d' hd => ?_⟩
  · show n ≤ i
    simpa using hi
  · rw [List.getElem?_map] at hd
    obtain ⟨c, hc, rfl⟩ := Option.map_eq_some_iff.mp hd
    obtain ⟨h1, h2⟩ := List.getElem?_eq_some_iff.mp hc
    rw [List.getElem_range] at h2
    subst h2
    have h1' : i < n := by simpa using h1
    refine ⟨h1', fun x H' hy => ?_⟩
    obtain ⟨rfl, rfl⟩ := hy
    exact ⟨g', Gh.le_refl g', ok, .int _⟩
def rng1M (ds : List Dv) : M Sr := match ds with
  | [.int j] => if -(2 ^ 62) ≤ j ∧ j < 2 ^ 62 then pure fun _ => some ((List.range j.toNat).map fun i : Nat => .int (0 + i)) else stuck
  | _ => stuck
def rng2M (ds : List Dv) : M Sr := match ds with
  | [.int i, .int j] => if -(2 ^ 62) ≤ i ∧ i < 2 ^ 62 ∧ -(2 ^ 62) ≤ j ∧ j < 2 ^ 62 then pure fun _ => some ((List.range (j - i).toNat).map fun k : Nat => .int (i + k)) else stuck
  | _ => stuck
theorem di_range1 {tg a : Expr} {fa : Env' → M (List Dv)} {p pos : Pos} (hm : X.mg "range" = none) (ha : DA X W [a] fa) (hg : Gl X "range" := by rfl) (hs : starEach [a] X.env = [(false, eval a X.env)] := by rfl) :
    DI X W tg (.Call (.Name "range" p) [a] [] pos) (iArg fa rng1M) := by
  obtain ⟨t, p, s, _⟩ := ha
  refine ⟨_, pi_range1 hg hm p hs, Sn.bind (t2 := fun vs _ H1 R => ∃ j : Int, vs = [.int j] ∧ -(2 ^ 62) ≤ j ∧ j < 2 ^ 62 ∧ R (Itr 0 j.toNat) H1) (f2 := fun ds _ => rng1M ds) s ?_⟩
  intro g σ H env S ds vs res Q ok en rr e post
  dsimp only at e
  unfold rng1M at e
  split at e
  · rename_i j
    by_cases hc : -(2 ^ 62) ≤ j ∧ j < 2 ^ 62
    · rw [if_pos hc] at e
      have er := pure_some e
      subst er
      cases rr with
      | cons r1 r2 =>
        cases r2
        cases r1
        exact ⟨j, rfl, hc.1, hc.2, post g _ H (Gh.le_refl g) ok (jok_range 0 j.toNat)⟩
    · rw [if_neg hc] at e
      cases e
  · cases e
theorem di_range2 {tg a b : Expr} {fa : Env' → M (List Dv)} {p pos : Pos} (hm : X.mg "range" = none) (ha : DA X W [a, b] fa) (hg : Gl X "range" := by rfl) (hs : starEach [a, b] X.env = [(false, eval a X.env), (false, eval b X.env)] := by rfl) (hs2 : starEach [b] X.env = [(false, eval b X.env)] := by rfl) :
    DI X W tg (.Call (.Name "range" p) [a, b] [] pos) (iArg fa rng2M) := by
  obtain ⟨t, p, s, _⟩ := ha
  refine ⟨_, pi_range2 hg hm p hs hs2, Sn.bind (t2 := fun vs _ H1 R => ∃ i j : Int, vs = [.int i, .int j] ∧ (-(2 ^ 62) ≤ i ∧ i < 2 ^ 62 ∧ -(2 ^ 62) ≤ j ∧ j < 2 ^ 62) ∧ R (Itr i (j - i).toNat) H1) (f2 := fun ds _ => rng2M ds) s ?_⟩
  intro g σ H env S ds vs res Q ok en rr e post
  dsimp only at e
  unfold rng2M at e
  split at e
  · rename_i i j
    by_cases hc : -(2 ^ 62) ≤ i ∧ i < 2 ^ 62 ∧ -(2 ^ 62) ≤ j ∧ j < 2 ^ 62
    · rw [if_pos hc] at e
      have er := pure_some e
      subst er
      cases rr with
      | cons r1 r2 =>
        cases r2 with
        | cons r2 r3 =>
          cases r3
          cases r1
          cases r2
          exact ⟨i, j, rfl, hc, post g _ H (Gh.le_refl g) ok (jok_range i (j - i).toNat)⟩
    · rw [if_neg hc] at e
      cases e
  · cases e

/-! ### targets -/
def DG (X : Cx) (tg : Expr) (is : List Nat) (gf : Dv → Env' → M Env') : Prop :=
  ∃ t : TG, PG X tg t ∧ ∀ (g : Gh) (σ : L2.St) (H : Hp) (env : Env') (S : Sto) (d : Dv) (v : V) (env' : Env') (S' : Sto) (Q : L2.St → Hp → Prop), Ok X.bs g H S → En X.bs g σ env → Rp X.K g d v → gf d env S = some (.ok env' S') →
    (∀ g' σ' H', g.le g' → Ok X.bs g' H' S' → En X.bs g' σ' env' → σ'.length = σ.length → (∀ j : Nat, j ∉ is → σ'[j]? = σ[j]?) → Q σ' H') → t v σ H Q
def DGs (X : Cx) (tgs : List Expr) (is : List Nat) (gf : List Dv → Env' → M Env') : Prop :=
  ∃ t : TGs, PGs X tgs t ∧ ∀ (g : Gh) (σ : L2.St) (H : Hp) (env : Env') (S : Sto) (d : List Dv) (v : List V) (env' : Env') (S' : Sto) (Q : L2.St → Hp → Prop), Ok X.bs g H S → En X.bs g σ env → Rps X.K g d v → gf d env S = some (.ok env' S') →
    (∀ g' σ' H', g.le g' → Ok X.bs g' H' S' → En X.bs g' σ' env' → σ'.length = σ.length → (∀ j : Nat, j ∉ is → σ'[j]? = σ[j]?) → Q σ' H') → t v σ H Q
def gSet (i : Nat) (d : Dv) (env : Env') : M Env' := pure (env.set i (some d))
theorem dg_name {i : Nat} {x : Str} {pos : Pos} (hN : X.N.Nodup) (hi : X.N[i]? = some x) (hx : Loc X.env.scope x) (hf : X.fn x = true ∨ X.env.scope.names.lookup x = some .local := by first | exact .inl rfl | exact .inr rfl | assumption) : DG X (.Name x pos) [i] (gSet i) := by
  refine ⟨_, pg_name hN hi hx hf, fun g σ H env S d v env' S' Q ok en r e post => ?_⟩
  cases e
  exact post g _ H (Gh.le_refl g) ok (en.set i r) (List.length_set ..) fun j hj => List.getElem?_set_ne (fun z => hj (by simp [z]))
def gsNil (ds : List Dv) (env : Env') : M Env' := match ds with
  | [] => pure env
  | _ => stuck
def gsCons (f : Dv → Env' → M Env') (fs : List Dv → Env' → M Env') (ds : List Dv) (env : Env') : M Env' := match ds with
  | d :: r => do let e ← f d env; fs r e
  | [] => stuck
theorem dgs_nil : DGs X [] [] gsNil := by
  refine ⟨_, pgs_nil, fun g σ H env S d v env' S' Q ok en r e post => ?_⟩
  cases r with
  | nil =>
    cases e
    exact ⟨rfl, post g σ H (Gh.le_refl g) ok en rfl fun _ _ => rfl⟩
  | cons _ _ => cases e
theorem dgs_cons {e : Expr} {es : List Expr} {is js : List Nat} {f : Dv → Env' → M Env'} {fs : List Dv → Env' → M Env'} (h1 : DG X e is f) (h2 : DGs X es js fs)
    (hs : (assignEach (e :: es) X.env).map (·.2) = assign e X.env :: (assignEach es X.env).map (·.2) := by rfl) : DGs X (e :: es) (is ++ js) (gsCons f fs) := by
  obtain ⟨t, p, s⟩ := h1
  obtain ⟨t2, p2, s2⟩ := h2
  refine ⟨_, pgs_cons p p2 hs, fun g σ H env S d v env' S' Q ok en r e post => ?_⟩
  cases r with
  | nil => cases e
  | cons r1 r2 =>
    refine ⟨_, _, rfl, ?_⟩
    rcases bind_some (x := f _ env) e with ⟨e1, S1, q1, q2⟩ | ⟨_, _, _, q⟩
    · refine s g σ H env S _ _ e1 S1 _ ok en r1 q1 fun g1 σ1 H1 l1 ok1 en1 len1 k1 => ?_
      refine s2 g1 σ1 H1 e1 S1 _ _ env' S' _ ok1 en1 (r2.mono l1) q2 fun g2 σ2 H2 l2 ok2 en2 len2 k2 => ?_
      refine post g2 σ2 H2 (Gh.le_trans l1 l2) ok2 en2 (len2.trans len1) fun j hj => ?_
      simp only [List.mem_append, not_or] at hj
      rw [k2 j hj.2, k1 j hj.1]
    · cases q
def gTupM (n : Nat) (fs : List Dv → Env' → M Env') (d : Dv) (env : Env') : M Env' := match d with
  | .tup l => if l.length = n then fs l env else stuck
  | _ => stuck
theorem dg_tup {es : List Expr} {is : List Nat} {k n : Nat} {pos : Pos} {fs : List Dv → Env' → M Env'} (hc : X.calm = true) (h : DGs X es is fs)
    (hn : (assignEach es X.env).length = n := by rfl) (hst : (assignEach es X.env).findIdx? (·.1) = none := by rfl) : DG X (.Tuple es k pos) is (gTupM n fs) := by
  obtain ⟨t, p, s⟩ := h
  refine ⟨_, pg_tup hc p hn hst, fun g σ H env S d v env' S' Q ok en r e post => ?_⟩
  cases d with
  | tup l =>
    simp only [gTupM] at e
    split at e
    · rename_i hl
      obtain ⟨a, vs, rfl, sq, rr⟩ := tup_at ok r
      exact ⟨a, vs, rfl, sq, by rw [← rr.length]; exact hl, s g σ H env S l vs env' S' Q ok en rr e post⟩
    · cases e
  | _ => cases e

/-! ### comprehensions -/
theorem wipe_at : ∀ (vs : List Nat) (σ : L2.St) (j : Nat), (wipe σ vs)[j]? = if j ∈ vs then (σ[j]?).map fun _ => none else σ[j]?
  | [], σ, j => by simp [wipe]
  | v :: vs, σ, j => by
    unfold wipe
    have ih := wipe_at vs σ j
    by_cases hj : v = j
    · subst hj
      rw [if_pos List.mem_cons_self]
      by_cases hl : v < (wipe σ vs).length
      · rw [List.getElem?_set_self hl]
        rw [wipe_length] at hl
        rw [List.getElem?_eq_getElem hl]
        rfl
      · rw [List.getElem?_eq_none (by rw [List.length_set]; omega)]
        rw [wipe_length] at hl
        rw [List.getElem?_eq_none (by omega)]
        rfl
    · rw [List.getElem?_set_ne hj, ih]
      by_cases hm : j ∈ vs
      · rw [if_pos hm, if_pos (List.mem_cons_of_mem _ hm)]
      · rw [if_neg hm, if_neg (by simp [hm, Ne.symm hj])]
theorem wipe_same {vs : List Nat} {σ σ' : L2.St} (hl : σ'.length = σ.length) (h : ∀ j : Nat, j ∉ vs → σ'[j]? = (wipe σ vs)[j]?) : wipe σ' vs = wipe σ vs := by
  apply List.ext_getElem?
  intro j
  rw [wipe_at, wipe_at]
  by_cases hj : j ∈ vs
  · rw [if_pos hj, if_pos hj]
    by_cases hb : j < σ.length
    · rw [List.getElem?_eq_getElem hb, List.getElem?_eq_getElem (by omega)]
      rfl
    · rw [List.getElem?_eq_none (by omega), List.getElem?_eq_none (by omega)]
  · rw [if_neg hj, if_neg hj, h j hj, wipe_at, if_neg hj]
def wipeE (env : Env') : List Nat → Env'
  | [] => env
  | v :: vs => (wipeE env vs).set v none
theorem En.wipe {B : Bs} {g : Gh} {σ : L2.St} {env : Env'} (h : En B g σ env) : ∀ vs : List Nat, En B g (L2.wipe σ vs) (wipeE env vs)
  | [] => h
  | v :: vs => by
    have ih := En.wipe h vs
    unfold L2.wipe wipeE
    refine ⟨by rw [List.length_set, List.length_set]; exact ih.len, fun j d e => ?_⟩
    by_cases hj : v = j
    · subst hj
      by_cases hl : v < (wipeE env vs).length
      · rw [List.getElem?_set_self hl] at e; cases e
      · rw [List.getElem?_eq_none (by rw [List.length_set]; omega)] at e; cases e
    · rw [List.getElem?_set_ne hj] at e ⊢
      exact ih.at_ j d e
def DTs (X : Cx) (W : WX) (ifs : List Expr) (f : Env' → M Bool) : Prop := ∃ t : TT, PTs X ifs t ∧ Sn X.bs W Re t f
def tYes' (_ : Env') : M Bool := pure true
theorem dts_nil : DTs X W [] tYes' := by
  refine ⟨_, pts_nil, fun g σ H env S r Q ok en e post => ?_⟩
  have er := pure_some e
  subst er
  exact post g true H (Gh.le_refl g) ok rfl
theorem dts_one {c : Expr} {f : Env' → M Bool} (h : DT X W c f) : DTs X W [c] f := by
  obtain ⟨t, p, s⟩ := h
  exact ⟨t, pts_one p, s⟩
open Classical in
noncomputable def compL (src : Sr) (l0 : List Dv) (el : Dv → M (Option Dv)) : List Dv → List Dv → M (List Dv)
  | [], acc => fun S => if src S = some l0 then some (.ok acc S) else none
  | d :: r, acc => fun S => if src S = some l0 then (match el d S with
    | some (.ok (some y) S') => if acc.length < sizeLine then compL src l0 el r (acc ++ [y]) S' else none
    | some (.ok none S') => compL src l0 el r acc S'
    | _ => none) else none
noncomputable def compM (src : Sr) (el : Dv → M (Option Dv)) : M (List Dv) := fun S => match src S with
  | some l => compL src l el l [] S
  | none => none
def elM (vs : List Nat) (gf : Dv → Env' → M Env') (ft : Env' → M Bool) (fe : Env' → M Dv) (env : Env') (d : Dv) : M (Option Dv) := do
  let env' ← gf d (wipeE env vs)
  let b ← ft env'
  if b = true then (do let y ← fe env'; pure (some y)) else pure none
abbrev W0 : WX := fun _ _ _ _ => False
/-- the parts of a comprehension's block, over every entry -/
structure Blk (X : Cx) (tg : Expr) (ifs : List Expr) (elt : Expr) (scope : Scope) (vs : List Nat) (gf : Dv → Env' → M Env') (ft : Env' → M Bool) (fe : Env' → M Dv) : Prop where
  ex : ∃ (g : TG) (tt : TT) (te : TE), (∀ (s : Shared) (H : Hp) (C : Addr) (cl : List (Str × Addr)) (fp : List Addr), PG (X.blk s H scope (compEnvC scope cl C X.env) fp) tg g ∧ PTs (X.blk s H scope (compEnvC scope cl C X.env) fp) ifs tt ∧ PE (X.blk s H scope (compEnvC scope cl C X.env) fp) elt te) ∧
    (∀ (g1 : Gh) (σ : L2.St) (H : Hp) (env : Env') (S : Sto) (d : Dv) (v : V) (env' : Env') (S' : Sto) (Q : L2.St → Hp → Prop), Ok X.bs g1 H S → En X.bs g1 σ env → Rp X.K g1 d v → gf d env S = some (.ok env' S') →
      (∀ g' σ' H', g1.le g' → Ok X.bs g' H' S' → En X.bs g' σ' env' → σ'.length = σ.length → (∀ j : Nat, j ∉ vs → σ'[j]? = σ[j]?) → Q σ' H') → g v σ H Q) ∧
    Sn X.bs W0 Re tt ft ∧ Sn X.bs W0 (Rv X) te fe
theorem Ok.privSet {B : Bs} {g g0 : Gh} {H : Hp} {S : Sto} {p : Addr} {o o' : HO} (ok : Ok B g H S) (hg : g.pv = (p, o) :: g0.pv) (hn : ∀ q ∈ g0.pv, q.1 ≠ p) (no : ∀ {x}, o ≠ .own x) : Ok B ⟨g.F, g.m, (p, o') :: g0.pv⟩ (upd H p o') S := by
  obtain ⟨p1, p2, p3⟩ := ok.pvt (p, o) (by rw [hg]; exact List.mem_cons_self)
  have p1 : H p = some o := p1
  have p2 : g.F p = none := p2
  have p3 : ∀ n : Nat, g.m[n]? ≠ some p := p3
  refine ⟨fun a u e => by rw [upd_ne (fun z => by rw [z, p2] at e; cases e)]; exact ok.fz a u e, ok.len, fun n c a hs hm => ?_, ok.nf, ok.inj, fun q hq => ?_⟩
  · have ne : a ≠ p := fun z => p3 n (by rw [← z]; exact hm)
    have q := ok.cel n c a hs hm
    cases c with
    | lst l => obtain ⟨vs, e, r⟩ := q; exact ⟨vs, by rw [upd_ne ne]; exact e, r.sub (g := g) (g' := ⟨g.F, g.m, (p, o') :: g0.pv⟩) ⟨fun _ _ e => e, fun _ _ e => e⟩⟩
    | dct l => obtain ⟨vs, e, r⟩ := q; exact ⟨vs, by rw [upd_ne ne]; exact e, r.sub (g := g) (g' := ⟨g.F, g.m, (p, o') :: g0.pv⟩) ⟨fun _ _ e => e, fun _ _ e => e⟩⟩
    | ins c fs =>
      obtain ⟨C, dx, ws, hmg, e, ed, ef, r⟩ := q
      have nd : dx ≠ p := fun z => by
        rw [z, p1] at ed
        exact no (Option.some.inj ed)
      exact ⟨C, dx, ws, hmg, by rw [upd_ne ne]; exact e, by rw [upd_ne nd]; exact ed, ef, r.sub (g := g) (g' := ⟨g.F, g.m, (p, o') :: g0.pv⟩) ⟨fun _ _ e => e, fun _ _ e => e⟩⟩
    | dead => exact q
    | lck l => obtain ⟨od, ws, e, r⟩ := q; exact ⟨od, ws, e, r.sub (g := g) (g' := ⟨g.F, g.m, (p, o') :: g0.pv⟩) ⟨fun _ _ e => e, fun _ _ e => e⟩⟩
  · rcases List.mem_cons.mp hq with rfl | hq
    · exact ⟨upd_same, p2, p3⟩
    · obtain ⟨e1, e2, e3⟩ := ok.pvt q (by rw [hg]; exact List.mem_cons_of_mem _ hq)
      exact ⟨by rw [upd_ne (hn q hq)]; exact e1, e2, e3⟩
/-- the reading of a comprehension; Q at the end gets the list at D, private still -/
theorem comp_read {tg : Expr} {ifs : List Expr} {elt : Expr} {scope : Scope} {vs : List Nat} {gf : Dv → Env' → M Env'} {ft : Env' → M Bool} {fe : Env' → M Dv} {g : TG} {tt : TT} {te : TE}
    (hg : ∀ (g1 : Gh) (σ : L2.St) (H : Hp) (env : Env') (S : Sto) (d : Dv) (v : V) (env' : Env') (S' : Sto) (Q : L2.St → Hp → Prop), Ok X.bs g1 H S → En X.bs g1 σ env → Rp X.K g1 d v → gf d env S = some (.ok env' S') →
      (∀ g' σ' H', g1.le g' → Ok X.bs g' H' S' → En X.bs g' σ' env' → σ'.length = σ.length → (∀ j : Nat, j ∉ vs → σ'[j]? = σ[j]?) → Q σ' H') → g v σ H Q)
    (ht : Sn X.bs W0 Re tt ft) (he : Sn X.bs W0 (Rv X) te fe) {J : It} {src : Sr} {g0 : Gh} {σ : L2.St} {H1 : Hp} {env : Env'} {S S' : Sto} {res : List Dv} {Q : VK} (ok : Ok X.bs g0 H1 S) (en : En X.bs g0 σ env) (hj : JOk X.bs g0 J src)
    (e : compM src (elM vs gf ft fe env) S = some (.ok res S'))
    (post : ∀ g' D acc H', g0.F D = none → g'.pv = (D, .lst acc) :: g0.pv → (∀ q ∈ g0.pv, q.1 ≠ D) → (∀ a o, g0.F a = some o → g'.F a = some o) → (∀ (n : Nat) (a : Addr), g0.m[n]? = some a → g'.m[n]? = some a) → Ok X.bs g' H' S' → Rps X.K g' res acc → res.length ≤ sizeLine → Q (.ref D) H') :
    ∀ D, H1 D = none → ∃ W : Nat → Nat → Hp → Prop, (∃ m, W 0 m (upd H1 D (.lst []))) ∧ ∀ i m H, W i m H →
      (J.stop i H ∧ Q (.ref D) H) ∨ (J.go i H ∧ ∃ Nx : Hp → Prop, (∀ H', Nx H' → ∃ m', m' < m ∧ W (i + 1) m' H') ∧ ∀ x H', J.yld i H x H' → g x (wipe σ vs) H' fun σ2 H2 => wipe σ2 vs = wipe σ vs ∧ tt σ2 H2 fun b H3 =>
        if b = true then te σ2 H3 fun y H4 => ∃ acc, H4 D = some (.lst acc) ∧ acc.length < sizeLine ∧ Nx (upd H4 D (.lst (acc ++ [y]))) else Nx H3) := by
  intro D hD
  unfold compM at e
  split at e
  · rename_i l0 hl0
    have hfD := ok.free hD
    have hnp : ∀ q ∈ g0.pv, q.1 ≠ D := fun q hq => ne_of_none (ok.pvt q hq).1 hD
    -- the invariant: the rest of the walk
    let Wv : Nat → Nat → Hp → Prop := fun i m H => ∃ (gg : Gh) (SS : Sto) (acc : List Dv) (va : List V), m = l0.length - i ∧ i ≤ l0.length ∧ gg.pv = (D, .lst va) :: g0.pv ∧ g0.sub gg ∧
      Ok X.bs gg H SS ∧ Rps X.K gg acc va ∧ acc.length ≤ sizeLine ∧ compL src l0 (elM vs gf ft fe env) (l0.drop i) acc SS = some (.ok res S')
    refine ⟨Wv, ⟨l0.length, g0.priv D (.lst []), S, [], [], by simp, Nat.zero_le _, rfl, ⟨fun _ _ e => e, fun _ _ e => e⟩, ok.priv hD, .nil, Nat.zero_le _, by rw [List.drop_zero]; exact e⟩, ?_⟩
    rintro i m H ⟨gg, SS, acc, va, rfl, hi, hpv, hsub, okk, racc, hz, ec⟩
    by_cases hlt : i < l0.length
    · have hdrop : l0.drop i = l0[i] :: l0.drop (i + 1) := List.drop_eq_getElem_cons hlt
      rw [hdrop] at ec
      unfold compL at ec
      split at ec
      · rename_i hsrc
        obtain ⟨_, hj2⟩ := hj gg H SS l0 hsub okk hsrc i
        obtain ⟨hgo, hyld⟩ := hj2 l0[i] (List.getElem?_eq_getElem hlt)
        refine .inr ⟨hgo, fun H' => Wv (i + 1) (l0.length - (i + 1)) H', fun H' w => ⟨_, by omega, w⟩, fun x H' hy => ?_⟩
        obtain ⟨g2, hl2, ok2, r2⟩ := hyld x H' hy
        have en2 : En X.bs g2 (L2.wipe σ vs) (wipeE env vs) := (en.wipe vs).sub (Gh.sub_trans hsub hl2.sub)
        -- the element
        have el : ∀ (o : Option Dv) (S1 : Sto), elM vs gf ft fe env l0[i] SS = some (.ok o S1) → (match o with
            | some y => if acc.length < sizeLine then compL src l0 (elM vs gf ft fe env) (l0.drop (i + 1)) (acc ++ [y]) S1 else none
            | none => compL src l0 (elM vs gf ft fe env) (l0.drop (i + 1)) acc S1) = some (.ok res S') →
            g x (L2.wipe σ vs) H' fun σ2 H2 => L2.wipe σ2 vs = L2.wipe σ vs ∧ tt σ2 H2 fun b H3 =>
              if b = true then te σ2 H3 fun y H4 => ∃ acc, H4 D = some (.lst acc) ∧ acc.length < sizeLine ∧ Wv (i + 1) (l0.length - (i + 1)) (upd H4 D (.lst (acc ++ [y]))) else Wv (i + 1) (l0.length - (i + 1)) H3 := fun o S1 eo ho => by
          unfold elM at eo
          rcases bind_some (x := gf l0[i] (wipeE env vs)) eo with ⟨env', S2, e1, e2⟩ | ⟨_, _, _, q⟩
          · refine hg g2 (L2.wipe σ vs) H' (wipeE env vs) SS l0[i] x env' S2 _ ok2 en2 r2 e1 fun g3 σ3 H3 l3 ok3 en3 len3 k3 => ⟨wipe_same (by rw [len3, L2.wipe_length]) fun j hj => k3 j hj, ?_⟩
            rcases bind_some (x := ft env') e2 with ⟨b, S3, e3, e4⟩ | ⟨_, _, _, q⟩
            · refine ht g3 σ3 H3 env' S2 _ _ ok3 en3 e3 fun g4 b' H4 l4 ok4 rb => ?_
              cases rb
              have pv4 : g4.pv = (D, .lst va) :: g0.pv := by rw [l4.2.2, l3.2.2, hl2.2.2]; exact hpv
              have sub4 : gg.sub g4 := (Gh.le_trans hl2 (Gh.le_trans l3 l4)).sub
              cases b with
              | true =>
                rw [if_pos rfl] at e4 ⊢
                rcases bind_some (x := fe env') e4 with ⟨y, S4, e5, e6⟩ | ⟨_, _, _, q⟩
                · have q := pure_some e6
                  cases q
                  dsimp only at ho
                  split at ho
                  · rename_i hlen
                    refine he g4 σ3 H4 env' S3 _ _ ok4 (en3.mono l4) e5 fun g5 yv H5 l5 ok5 ry => ?_
                    have pv5 : g5.pv = (D, .lst va) :: g0.pv := by rw [l5.2.2]; exact pv4
                    obtain ⟨p1, _, _⟩ := ok5.pvt (D, .lst va) (by rw [pv5]; exact List.mem_cons_self)
                    have sub5 : gg.sub g5 := Gh.sub_trans sub4 l5.sub
                    refine ⟨va, p1, by rw [← racc.length]; exact hlen, ?_⟩
                    have ok6 := ok5.privSet (o' := .lst (va ++ [yv])) pv5 hnp (by intro z h; cases h)
                    have s56 : g5.sub ⟨g5.F, g5.m, (D, .lst (va ++ [yv])) :: g0.pv⟩ := ⟨fun _ _ e => e, fun _ _ e => e⟩
                    exact ⟨_, S1, acc ++ [y], va ++ [yv], rfl, hlt, rfl, Gh.sub_trans hsub (Gh.sub_trans sub5 s56), ok6, (racc.sub (Gh.sub_trans sub5 s56)).append (.cons (ry.sub s56) .nil), by rw [List.length_append]; exact hlen, ho⟩
                  · cases ho
                · cases q
              | false =>
                rw [if_neg Bool.false_ne_true] at e4 ⊢
                have q := pure_some e4
                cases q
                exact ⟨g4, S1, acc, va, rfl, hlt, pv4, Gh.sub_trans hsub sub4, ok4, racc.sub sub4, hz, ho⟩
            · cases q
          · cases q
        cases eel : elM vs gf ft fe env l0[i] SS with
        | none => rw [eel] at ec; cases ec
        | some oo =>
          rw [eel] at ec
          cases oo with
          | er _ _ => cases ec
          | ok o S1 =>
            cases o with
            | some y => exact el (some y) S1 eel ec
            | none => exact el none S1 eel ec
      · cases ec
    · have hdrop : l0.drop i = [] := List.drop_eq_nil_of_le (by omega)
      rw [hdrop] at ec
      unfold compL at ec
      split at ec
      · rename_i hsrc
        obtain ⟨hj1, _⟩ := hj gg H SS l0 hsub okk hsrc i
        cases ec
        exact .inl ⟨hj1 (by omega), post gg D va H hfD hpv hnp hsub.1 hsub.2 okk racc hz⟩
      · cases ec
  · cases e
/-- frozen at the end -/
theorem comp_frz {B : Bs} {g0 g' : Gh} {D : Addr} {acc : List V} {H' : Hp} {S : Sto} {res : List Dv} {Q : VK} {Wx : XK} (hf : g0.F D = none) (pv : g'.pv = (D, .lst acc) :: g0.pv) (hn : ∀ q ∈ g0.pv, q.1 ≠ D)
    (h1 : ∀ a o, g0.F a = some o → g'.F a = some o) (h2 : ∀ (n : Nat) (a : Addr), g0.m[n]? = some a → g'.m[n]? = some a) (ok : Ok B g' H' S) (r : Rps B.K g' res acc) (post : Post B g0 (fun g => Rp B.K g) Q Wx (.ok (.lst res) S)) : Q (.ref D) H' := by
  obtain ⟨p1, p2, p3⟩ := ok.pvt (D, .lst acc) (by rw [pv]; exact List.mem_cons_self)
  have p1 : H' D = some (.lst acc) := p1
  have p2 : g'.F D = none := p2
  have ok' := ok.unpriv (o' := .lst acc) pv hn (by intro z h; cases h)
  have eH : upd H' D (.lst acc) = H' := by
    funext b
    by_cases hb : b = D
    · subst hb; rw [upd_same, p1]
    · rw [upd_ne hb]
  rw [eH] at ok'
  have sb : g'.sub ⟨upd g'.F D (.lst acc), g'.m, g0.pv⟩ := ⟨fun a o e => by show upd g'.F D _ a = some o; rw [upd_ne (fun z => by rw [z, p2] at e; cases e)]; exact e, fun _ _ e => e⟩
  exact post ⟨upd g'.F D (.lst acc), g'.m, g0.pv⟩ (.ref D) H' ⟨fun a o e => sb.1 a o (h1 a o e), h2, rfl⟩ ok' (.lst upd_same (r.sub sb))
/-- made a cell at the end -/
theorem comp_cell {B : Bs} {g0 g' : Gh} {D : Addr} {acc : List V} {H' : Hp} {S : Sto} {res : List Dv} {Q : VK} {Wx : XK} (pv : g'.pv = (D, .lst acc) :: g0.pv) (hn : ∀ q ∈ g0.pv, q.1 ≠ D)
    (h1 : ∀ a o, g0.F a = some o → g'.F a = some o) (h2 : ∀ (n : Nat) (a : Addr), g0.m[n]? = some a → g'.m[n]? = some a) (ok : Ok B g' H' S) (r : Rps B.K g' res acc) (post : Post B g0 (fun g => Rp B.K g) Q Wx (.ok (.ref S.length) (S ++ [.lst res]))) : Q (.ref D) H' := by
  obtain ⟨p1, p2, p3⟩ := ok.pvt (D, .lst acc) (by rw [pv]; exact List.mem_cons_self)
  have p1 : H' D = some (.lst acc) := p1
  have p2 : g'.F D = none := p2
  have p3 : ∀ n : Nat, g'.m[n]? ≠ some D := p3
  have hlen := ok.len
  have sb : g'.sub ⟨g'.F, g'.m ++ [D], g0.pv⟩ := ⟨fun _ _ e => e, fun n a e => by
    show (g'.m ++ [D])[n]? = some a
    rw [List.getElem?_append_left (List.getElem?_eq_some_iff.mp e).1]
    exact e⟩
  have pos : ∀ (i : Nat) a, (g'.m ++ [D])[i]? = some a → (i < g'.m.length ∧ g'.m[i]? = some a) ∨ (i = g'.m.length ∧ a = D) := fun i a e' => by
    by_cases hi : i < g'.m.length
    · rw [List.getElem?_append_left hi] at e'
      exact .inl ⟨hi, e'⟩
    · rw [List.getElem?_append_right (by omega)] at e'
      cases hk : i - g'.m.length with
      | zero => rw [hk] at e'; simp at e'; exact .inr ⟨by omega, e'.symm⟩
      | succ k => rw [hk] at e'; simp at e'
  have ok' : Ok B ⟨g'.F, g'.m ++ [D], g0.pv⟩ H' (S ++ [.lst res]) := by
    refine ⟨ok.fz, by simp [hlen], fun n c a hs hm => ?_, fun n c a hs hm => ?_, fun i j a e1 e2 => ?_, fun q hq => ?_⟩
    · rcases pos n a hm with ⟨hl, e⟩ | ⟨rfl, rfl⟩
      · rw [List.getElem?_append_left (by omega)] at hs
        have q := ok.cel n c a hs e
        cases c with
        | lst l => obtain ⟨ws, e, r⟩ := q; exact ⟨ws, e, r.sub sb⟩
        | dct l => obtain ⟨ws, e, r⟩ := q; exact ⟨ws, e, r.sub sb⟩
        | ins c fs => obtain ⟨C, dx, ws, hmg, e, ed, ef, r⟩ := q; exact ⟨C, dx, ws, hmg, e, ed, ef, r.sub sb⟩
        | dead => exact q
        | lck l => obtain ⟨od, ws, e, r⟩ := q; exact ⟨od, ws, e, r.sub sb⟩
      · rw [hlen, List.getElem?_append_right (Nat.le_refl _), Nat.sub_self] at hs
        cases hs
        exact ⟨acc, p1, r.sub sb⟩
    · rcases pos n a hm with ⟨hl, e⟩ | ⟨rfl, rfl⟩
      · rw [List.getElem?_append_left (by omega)] at hs
        exact ok.nf n c a hs e
      · exact .inl p2
    · rcases pos i a e1 with ⟨l1, q1⟩ | ⟨q1, rfl⟩
      · rcases pos j a e2 with ⟨_, q2⟩ | ⟨q2, rfl⟩
        · exact ok.inj i j a q1 q2
        · exact (p3 i q1).elim
      · rcases pos j a e2 with ⟨_, q2⟩ | ⟨q2, _⟩
        · exact (p3 j q2).elim
        · rw [q1, q2]
    · obtain ⟨e1, e2, e3⟩ := ok.pvt q (by rw [pv]; exact List.mem_cons_of_mem _ hq)
      refine ⟨e1, e2, fun n e => ?_⟩
      rcases pos n _ e with ⟨_, q1⟩ | ⟨_, q1⟩
      · exact e3 n q1
      · exact hn q hq q1
  refine post ⟨g'.F, g'.m ++ [D], g0.pv⟩ (.ref D) H' ⟨h1, fun n a e => sb.2 n a (h2 n a e), rfl⟩ ok' (.ref ?_)
  show (g'.m ++ [D])[S.length]? = some D
  rw [← hlen]
  simp
def frzR : Rs (List Dv) → Rs Dv
  | .ok l S => .ok (.lst l) S
  | .er x S => .er x S
def celR : Rs (List Dv) → Rs Dv
  | .ok l S => .ok (.ref S.length) (S ++ [.lst l])
  | .er x S => .er x S
noncomputable def lcF (fi : Env' → M Sr) (vs : List Nat) (gf : Dv → Env' → M Env') (ft : Env' → M Bool) (fe : Env' → M Dv) (env : Env') : M Dv := do
  let src ← fi env
  fun S => (compM src (elM vs gf ft fe env) S).map frzR
noncomputable def lcC (fi : Env' → M Sr) (vs : List Nat) (gf : Dv → Env' → M Env') (ft : Env' → M Bool) (fe : Env' → M Dv) (env : Env') : M Dv := do
  let src ← fi env
  fun S => (compM src (elM vs gf ft fe env) S).map celR
theorem compL_ok {src : Sr} {l0 : List Dv} {el : Dv → M (Option Dv)} : ∀ {l acc : List Dv} {S : Sto} {r : Rs (List Dv)}, compL src l0 el l acc S = some r → ∃ res S', r = .ok res S'
  | [], acc, S, r, h => by
    unfold compL at h
    split at h
    · exact ⟨_, _, (Option.some.inj h).symm⟩
    · cases h
  | d :: l, acc, S, r, h => by
    unfold compL at h
    split at h
    · split at h
      · split at h
        · exact compL_ok h
        · cases h
      · exact compL_ok h
      · cases h
    · cases h
theorem compM_ok {src : Sr} {el : Dv → M (Option Dv)} {S : Sto} {r : Rs (List Dv)} (h : compM src el S = some r) : ∃ res S', r = .ok res S' := by
  unfold compM at h
  split at h
  · exact compL_ok h
  · cases h
theorem sn_lc {tg iter : Expr} {gf : Dv → Env' → M Env'} {ft : Env' → M Bool} {fe : Env' → M Dv} {fi : Env' → M Sr} {vs : List Nat} {g : TG} {tt : TT} {te : TE} {wi : TI}
    (hi : Sn X.bs W (Rj X) wi fi)
    (hg : ∀ (g1 : Gh) (σ : L2.St) (H : Hp) (env : Env') (S : Sto) (d : Dv) (v : V) (env' : Env') (S' : Sto) (Q : L2.St → Hp → Prop), Ok X.bs g1 H S → En X.bs g1 σ env → Rp X.K g1 d v → gf d env S = some (.ok env' S') →
      (∀ g' σ' H', g1.le g' → Ok X.bs g' H' S' → En X.bs g' σ' env' → σ'.length = σ.length → (∀ j : Nat, j ∉ vs → σ'[j]? = σ[j]?) → Q σ' H') → g v σ H Q)
    (ht : Sn X.bs W0 Re tt ft) (he : Sn X.bs W0 (Rv X) te fe) : Sn X.bs W (Rv X) (tLc wi g tt te vs) (lcF fi vs gf ft fe) := by
  intro g0 σ H env S r Q ok en e post
  unfold lcF at e
  rcases bind_some (x := fi env) e with ⟨src, S1, e1, e2⟩ | ⟨ex, S1, e1, rfl⟩
  · refine hi g0 σ H env S _ _ ok en e1 fun g1 J H1 l1 ok1 hj => ?_
    obtain ⟨rr, e3, rfl⟩ := Option.map_eq_some_iff.mp e2
    obtain ⟨res, S', rfl⟩ := compM_ok e3
    exact comp_read (vs := vs) (env := env) (tg := .Name "x" ⟨0, 0, 0, 0⟩) (ifs := []) (elt := .Name "x" ⟨0, 0, 0, 0⟩) (scope := { kind := .function, names := [], isGenerator := false, isCoroutine := false, more := [] }) hg ht he ok1 (en.mono l1) hj e3 fun g' D acc H' hf pv hn h1 h2 ok' r' hz => comp_frz hf pv hn h1 h2 ok' r' (post.mono l1)
  · exact hi g0 σ H env S _ _ ok en e1 post
theorem sn_lcC {tg iter : Expr} {gf : Dv → Env' → M Env'} {ft : Env' → M Bool} {fe : Env' → M Dv} {fi : Env' → M Sr} {vs : List Nat} {g : TG} {tt : TT} {te : TE} {wi : TI}
    (hi : Sn X.bs W (Rj X) wi fi)
    (hg : ∀ (g1 : Gh) (σ : L2.St) (H : Hp) (env : Env') (S : Sto) (d : Dv) (v : V) (env' : Env') (S' : Sto) (Q : L2.St → Hp → Prop), Ok X.bs g1 H S → En X.bs g1 σ env → Rp X.K g1 d v → gf d env S = some (.ok env' S') →
      (∀ g' σ' H', g1.le g' → Ok X.bs g' H' S' → En X.bs g' σ' env' → σ'.length = σ.length → (∀ j : Nat, j ∉ vs → σ'[j]? = σ[j]?) → Q σ' H') → g v σ H Q)
    (ht : Sn X.bs W0 Re tt ft) (he : Sn X.bs W0 (Rv X) te fe) : Sn X.bs W (Rv X) (tLc wi g tt te vs) (lcC fi vs gf ft fe) := by
  intro g0 σ H env S r Q ok en e post
  unfold lcC at e
  rcases bind_some (x := fi env) e with ⟨src, S1, e1, e2⟩ | ⟨ex, S1, e1, rfl⟩
  · refine hi g0 σ H env S _ _ ok en e1 fun g1 J H1 l1 ok1 hj => ?_
    obtain ⟨rr, e3, rfl⟩ := Option.map_eq_some_iff.mp e2
    obtain ⟨res, S', rfl⟩ := compM_ok e3
    exact comp_read (vs := vs) (env := env) (tg := .Name "x" ⟨0, 0, 0, 0⟩) (ifs := []) (elt := .Name "x" ⟨0, 0, 0, 0⟩) (scope := { kind := .function, names := [], isGenerator := false, isCoroutine := false, more := [] }) hg ht he ok1 (en.mono l1) hj e3 fun g' D acc H' hf pv hn h1 h2 ok' r' hz => comp_cell pv hn h1 h2 ok' r' (post.mono l1)
  · exact hi g0 σ H env S _ _ ok en e1 post
/-- the block by its parts -/
theorem blk {tg : Expr} {ifs : List Expr} {elt : Expr} {scope : Scope} {vs : List Nat} {gf : Dv → Env' → M Env'} {ft : Env' → M Bool} {fe : Env' → M Dv}
    (h : ∃ (g : TG) (tt : TT) (te : TE), (∀ (s : Shared) (H : Hp) (C : Addr) (cl : List (Str × Addr)) (fp : List Addr), PG (X.blk s H scope (compEnvC scope cl C X.env) fp) tg g ∧ PTs (X.blk s H scope (compEnvC scope cl C X.env) fp) ifs tt ∧ PE (X.blk s H scope (compEnvC scope cl C X.env) fp) elt te) ∧
    (∀ (g1 : Gh) (σ : L2.St) (H : Hp) (env : Env') (S : Sto) (d : Dv) (v : V) (env' : Env') (S' : Sto) (Q : L2.St → Hp → Prop), Ok X.bs g1 H S → En X.bs g1 σ env → Rp X.K g1 d v → gf d env S = some (.ok env' S') →
      (∀ g' σ' H', g1.le g' → Ok X.bs g' H' S' → En X.bs g' σ' env' → σ'.length = σ.length → (∀ j : Nat, j ∉ vs → σ'[j]? = σ[j]?) → Q σ' H') → g v σ H Q) ∧
    Sn X.bs W0 Re tt ft ∧ Sn X.bs W0 (Rv X) te fe) : Blk X tg ifs elt scope vs gf ft fe := ⟨h⟩
theorem de_lc {elt tg iter : Expr} {ifs : List Expr} {scope : Scope} {own : List (Str × Nat)} {pos : Pos} {gf : Dv → Env' → M Env'} {ft : Env' → M Bool} {fe : Env' → M Dv} {fi : Env' → M Sr} (c : Ct X W) (hi : DI X W tg iter fi) (hb : Blk X tg ifs elt scope (own.map (·.2)) gf ft fe)
    (hk : blkC X.N X.env.scope scope own = true) (hs : ∀ x, foldedSetIterable iter X.env x = pure x := by intro _; rfl) : DE X W (.ListComp elt [⟨tg, iter, ifs, 0⟩] scope pos) (lcF fi (own.map (·.2)) gf ft fe) := by
  obtain ⟨wi, pi, si⟩ := hi
  obtain ⟨g, tt, te, hp, hg, ht, he⟩ := hb.ex
  exact ⟨_, pe_lc c.calm c.nd pi (blkOk_by hk) (fun s H C cl fp => (hp s H C cl fp).1) (fun s H C cl fp => (hp s H C cl fp).2.1) (fun s H C cl fp => (hp s H C cl fp).2.2) hs, sn_lc (tg := tg) (iter := iter) si hg ht he⟩
theorem de_lcC {elt tg iter : Expr} {ifs : List Expr} {scope : Scope} {own : List (Str × Nat)} {pos : Pos} {gf : Dv → Env' → M Env'} {ft : Env' → M Bool} {fe : Env' → M Dv} {fi : Env' → M Sr} (c : Ct X W) (hi : DI X W tg iter fi) (hb : Blk X tg ifs elt scope (own.map (·.2)) gf ft fe)
    (hk : blkC X.N X.env.scope scope own = true) (hs : ∀ x, foldedSetIterable iter X.env x = pure x := by intro _; rfl) : DE X W (.ListComp elt [⟨tg, iter, ifs, 0⟩] scope pos) (lcC fi (own.map (·.2)) gf ft fe) := by
  obtain ⟨wi, pi, si⟩ := hi
  obtain ⟨g, tt, te, hp, hg, ht, he⟩ := hb.ex
  exact ⟨_, pe_lc c.calm c.nd pi (blkOk_by hk) (fun s H C cl fp => (hp s H C cl fp).1) (fun s H C cl fp => (hp s H C cl fp).2.1) (fun s H C cl fp => (hp s H C cl fp).2.2) hs, sn_lcC (tg := tg) (iter := iter) si hg ht he⟩
end
end ML

/-! ML 6: blocks of comprehensions, statements, defs. -/
namespace ML
open PySem PySem.Spec PyProof.Rows L2
/-- the reading that the mirror gives -/
def tSn {α β : Type} (B : Bs) (W : WX) (R : Gh → α → β → Prop) (f : Env' → M α) : TX β := fun σ H Q =>
  ∃ (g : Gh) (env : Env') (S : Sto) (r : Rs α), Ok B g H S ∧ En B g σ env ∧ f env S = some r ∧ Post B g R Q (fun c dd H => W c dd σ H) r
theorem sn_self {α β : Type} {B : Bs} {W : WX} {R : Gh → α → β → Prop} {f : Env' → M α} : Sn B W R (tSn B W R f) f := fun g σ H env S r Q ok en e post => ⟨g, env, S, r, ok, en, e, post⟩
theorem sn_tSn {α β : Type} {B : Bs} {W : WX} {R : Gh → α → β → Prop} {t : TX β} {f : Env' → M α} (h : Sn B W R t f) {σ : L2.St} {H : Hp} {Q : β → Hp → Prop} (q : tSn B W R f σ H Q) : t σ H Q := by
  obtain ⟨g, env, S, r, ok, en, e, post⟩ := q
  exact h g σ H env S r Q ok en e post
section
variable {X : Cx} {W : WX}
theorem DE.pe {e : Expr} {f : Env' → M Dv} (h : DE X W e f) : PE X e (tSn X.bs W (Rv X) f) := by
  obtain ⟨t, p, s⟩ := h
  exact ⟨fun pins s' σ H Q I q => p.run pins s' σ H Q I (sn_tSn s q)⟩
theorem DTs.pts {ifs : List Expr} {f : Env' → M Bool} (h : DTs X W ifs f) : PTs X ifs (tSn X.bs W Re f) := by
  obtain ⟨t, p, s⟩ := h
  exact ⟨fun pins s' σ H Q I q => p.run pins s' σ H Q I (sn_tSn s q)⟩
def tG (B : Bs) (is : List Nat) (gf : Dv → Env' → M Env') : TG := fun v σ H Q => ∃ (g : Gh) (env : Env') (S : Sto) (d : Dv) (env' : Env') (S' : Sto), Ok B g H S ∧ En B g σ env ∧ Rp B.K g d v ∧ gf d env S = some (.ok env' S') ∧
    ∀ g' σ' H', g.le g' → Ok B g' H' S' → En B g' σ' env' → σ'.length = σ.length → (∀ j : Nat, j ∉ is → σ'[j]? = σ[j]?) → Q σ' H'
theorem DG.pg {tg : Expr} {is : List Nat} {gf : Dv → Env' → M Env'} (h : DG X tg is gf) : PG X tg (tG X.bs is gf) := by
  obtain ⟨t, p, s⟩ := h
  refine ⟨fun pins s' σ H v u Q I r q => p.run pins s' σ H v u Q I r ?_⟩
  obtain ⟨g, env, S, d, env', S', ok, en, rr, e, post⟩ := q
  exact s g σ H env S d v env' S' Q ok en rr e post
theorem blk_of {tg : Expr} {ifs : List Expr} {elt : Expr} {scope : Scope} {vs is : List Nat} {gf : Dv → Env' → M Env'} {ft : Env' → M Bool} {fe : Env' → M Dv}
    (hg : ∀ (s : Shared) (H : Hp) (C : Addr) (cl : List (Str × Addr)) (fp : List Addr), DG (X.blk s H scope (compEnvC scope cl C X.env) fp) tg is gf)
    (ht : ∀ (s : Shared) (H : Hp) (C : Addr) (cl : List (Str × Addr)) (fp : List Addr), DTs (X.blk s H scope (compEnvC scope cl C X.env) fp) W0 ifs ft)
    (he : ∀ (s : Shared) (H : Hp) (C : Addr) (cl : List (Str × Addr)) (fp : List Addr), DE (X.blk s H scope (compEnvC scope cl C X.env) fp) W0 elt fe) (hsub : ∀ j ∈ is, j ∈ vs := by decide) : Blk X tg ifs elt scope vs gf ft fe := by
  refine ⟨tG X.bs is gf, tSn X.bs W0 Re ft, tSn X.bs W0 (Rv X) fe, fun s H C cl fp => ⟨(hg s H C cl fp).pg, (ht s H C cl fp).pts, (he s H C cl fp).pe⟩, fun g1 σ H env S d v env' S' Q ok en r e post => ?_, sn_self, sn_self⟩
  exact ⟨g1, env, S, d, env', S', ok, en, r, e, fun g' σ' H' l ok' en' hl k => post g' σ' H' l ok' en' hl fun j hj => k j fun hm => hj (hsub j hm)⟩
theorem Ct.blk (c : Ct X W) (s : Shared) (H : Hp) (scope : Scope) (cenv : Env) (fp : List Addr) : Ct (X.blk s H scope cenv fp) W0 := ⟨c.calm, c.nd, c.un, takes0⟩

/-! ### statements -/
inductive So where
  | nx (env : Env') (S : Sto) | rt (d : Dv) (S : Sto) | bk (env : Env') (S : Sto) | ct (env : Env') (S : Sto) | er (x : Exn) (env : Env') (S : Sto)
abbrev SF := Env' → Sto → Option So
def SPost (B : Bs) (g : Gh) (W : WX) (D : Ends) : So → Prop
  | .nx env S => ∀ g' σ H, g.le g' → Ok B g' H S → En B g' σ env → D.nx σ H
  | .rt d S => ∀ g' v H, g.le g' → Ok B g' H S → Rp B.K g' d v → D.rt v H
  | .bk env S => ∀ g' σ H, g.le g' → Ok B g' H S → En B g' σ env → D.bk σ H
  | .ct env S => ∀ g' σ H, g.le g' → Ok B g' H S → En B g' σ env → D.ct σ H
  | .er x env S => ∀ g' c dd σ H, g.le g' → Ok B g' H S → En B g' σ env → Xr B g' H x c dd → W c dd σ H
theorem SPost.mono {B : Bs} {g g1 : Gh} {W : WX} {D : Ends} {r : So} (h : SPost B g W D r) (l : g.le g1) : SPost B g1 W D r := by
  cases r with
  | nx env S => exact fun g' σ H l' => h g' σ H (Gh.le_trans l l')
  | rt d S => exact fun g' σ H l' => h g' σ H (Gh.le_trans l l')
  | bk env S => exact fun g' σ H l' => h g' σ H (Gh.le_trans l l')
  | ct env S => exact fun g' σ H l' => h g' σ H (Gh.le_trans l l')
  | er x env S => exact fun g' c dd σ H l' => h g' c dd σ H (Gh.le_trans l l')
def SSn (B : Bs) (W : WX) (t : TS) (f : SF) : Prop := ∀ (g : Gh) (σ : L2.St) (H : Hp) (env : Env') (S : Sto) (r : So) (D : Ends), Ok B g H S → En B g σ env → f env S = some r → SPost B g W D r → t D σ H
def DS (X : Cx) (W : WX) (st : Stmt) (f : SF) : Prop := ∃ t : TS, PS X st t ∧ SSn X.bs W t f
def DSs (X : Cx) (W : WX) (st : List Stmt) (f : SF) : Prop := ∃ t : TS, PSs X st t ∧ SSn X.bs W t f
def sNil : SF := fun env S => some (.nx env S)
def sSeq (f h : SF) : SF := fun env S => match f env S with
  | some (.nx env' S') => h env' S'
  | r => r
theorem dss_nil : DSs X W [] sNil := ⟨_, pss_nil, fun g σ H env S r D ok en e post => by cases e; exact post g σ H (Gh.le_refl g) ok en⟩
theorem dss_one {st : Stmt} {f : SF} (h : DS X W st f) : DSs X W [st] f := by
  obtain ⟨t, p, s⟩ := h
  exact ⟨t, pss_one p, s⟩
theorem dss_cons {st : Stmt} {sts : List Stmt} {f h : SF} (h1 : DS X W st f) (h2 : DSs X W sts h) : DSs X W (st :: sts) (sSeq f h) := by
  obtain ⟨t, p, s⟩ := h1
  obtain ⟨t2, p2, s2⟩ := h2
  refine ⟨_, pss_cons p p2, fun g σ H env S r D ok en e post => ?_⟩
  unfold sSeq at e
  show t _ σ H
  cases e1 : f env S with
  | none => rw [e1] at e; cases e
  | some o =>
    rw [e1] at e
    refine s g σ H env S o _ ok en e1 ?_
    cases o with
    | nx env' S' => exact fun g' σ' H' l ok' en' => s2 g' σ' H' env' S' r D ok' en' e (post.mono l)
    | rt d S' => cases e; exact post
    | bk env' S' => cases e; exact post
    | ct env' S' => cases e; exact post
    | er x env' S' => cases e; exact post
/-- an exception of an expression -/
def exS {α : Type} (env : Env') (r : Option (Rs α)) (k : α → Sto → Option So) : Option So := match r with
  | none => none
  | some (.ok a S) => k a S
  | some (.er x S) => some (.er x env S)
theorem exS_cases {α : Type} {env : Env'} {r : Option (Rs α)} {k : α → Sto → Option So} {o : So} (h : exS env r k = some o) : (∃ a S, r = some (.ok a S) ∧ k a S = some o) ∨ ∃ x S, r = some (.er x S) ∧ o = .er x env S := by
  unfold exS at h
  split at h
  · cases h
  · exact .inl ⟨_, _, rfl, h⟩
  · exact .inr ⟨_, _, rfl, (Option.some.inj h).symm⟩
def sSet (i : Nat) (f : Env' → M Dv) : SF := fun env S => exS env (f env S) fun d S' => some (.nx (env.set i (some d)) S')
theorem ds_set {i : Nat} {x : Str} {e : Expr} {f : Env' → M Dv} {pos pos' : Pos} (c : Ct X W) (hi : X.N[i]? = some x) (hx : Loc X.env.scope x) (he : DE X W e f) (hs : swapsWith e (some (.Name x pos')) pos.line X.env = pure false := by rfl)
    (hf : X.fn x = true ∨ X.env.scope.names.lookup x = some .local := by first | exact .inl rfl | exact .inr rfl | assumption) : DS X W (.Assign [.Name x pos'] e pos) (sSet i f) := by
  obtain ⟨t, p, s⟩ := he
  refine ⟨_, ps_set c.nd hi hx p hs hf, fun g σ H env S r D ok en e post => ?_⟩
  rcases exS_cases e with ⟨d, S', e1, e2⟩ | ⟨x', S', e1, rfl⟩
  · cases e2
    exact s g σ H env S _ _ ok en e1 fun g' v H' l ok' rv => post g' _ H' l ok' ((en.mono l).set i rv)
  · exact s g σ H env S _ _ ok en e1 fun g' c' dd H' l ok' xr => post g' c' dd σ H' l ok' (en.mono l) xr
/-- x = [..]: one line, x a plain local -/
theorem ds_setLc {i : Nat} {y : Str} {py spos : Pos} {elt tg iter : Expr} {ifs : List Expr} {scope : Scope} {own : List (Str × Nat)} {pos : Pos} {gf : Dv → Env' → M Env'} {ft : Env' → M Bool} {fe : Env' → M Dv} {fi : Env' → M Sr} (c : Ct X W) (hy : X.N[i]? = some y) (hyl : X.env.scope.names.lookup y = some .local)
    (hsw : swapsWith (.ListComp elt [⟨tg, iter, ifs, 0⟩] scope pos) (some (.Name y py)) spos.line X.env = pure true) (hi : DI X W tg iter fi) (hb : Blk X tg ifs elt scope (own.map (·.2)) gf ft fe)
    (hk : blkC X.N X.env.scope scope own = true) (hs : ∀ x, foldedSetIterable iter X.env x = pure x := by intro _; rfl) : DS X W (.Assign [.Name y py] (.ListComp elt [⟨tg, iter, ifs, 0⟩] scope pos) spos) (sSet i (lcF fi (own.map (·.2)) gf ft fe)) := by
  obtain ⟨wi, pi, si⟩ := hi
  obtain ⟨g, tt, te, hp, hg, ht, he⟩ := hb.ex
  have s := sn_lc (tg := tg) (iter := iter) si hg ht he
  refine ⟨_, ps_setLc c.calm c.nd hy hyl hsw pi (blkOk_by hk) (fun s H C cl fp => (hp s H C cl fp).1) (fun s H C cl fp => (hp s H C cl fp).2.1) (fun s H C cl fp => (hp s H C cl fp).2.2) hs, fun g σ H env S r D ok en e post => ?_⟩
  rcases exS_cases e with ⟨d, S', e1, e2⟩ | ⟨x', S', e1, rfl⟩
  · cases e2
    exact s g σ H env S _ _ ok en e1 fun g' v H' l ok' rv => post g' _ H' l ok' ((en.mono l).set i rv)
  · exact s g σ H env S _ _ ok en e1 fun g' c' dd H' l ok' xr => post g' c' dd σ H' l ok' (en.mono l) xr
theorem ds_setLcC {i : Nat} {y : Str} {py spos : Pos} {elt tg iter : Expr} {ifs : List Expr} {scope : Scope} {own : List (Str × Nat)} {pos : Pos} {gf : Dv → Env' → M Env'} {ft : Env' → M Bool} {fe : Env' → M Dv} {fi : Env' → M Sr} (c : Ct X W) (hy : X.N[i]? = some y) (hyl : X.env.scope.names.lookup y = some .local)
    (hsw : swapsWith (.ListComp elt [⟨tg, iter, ifs, 0⟩] scope pos) (some (.Name y py)) spos.line X.env = pure true) (hi : DI X W tg iter fi) (hb : Blk X tg ifs elt scope (own.map (·.2)) gf ft fe)
    (hk : blkC X.N X.env.scope scope own = true) (hs : ∀ x, foldedSetIterable iter X.env x = pure x := by intro _; rfl) : DS X W (.Assign [.Name y py] (.ListComp elt [⟨tg, iter, ifs, 0⟩] scope pos) spos) (sSet i (lcC fi (own.map (·.2)) gf ft fe)) := by
  obtain ⟨wi, pi, si⟩ := hi
  obtain ⟨g, tt, te, hp, hg, ht, he⟩ := hb.ex
  have s := sn_lcC (tg := tg) (iter := iter) si hg ht he
  refine ⟨_, ps_setLc c.calm c.nd hy hyl hsw pi (blkOk_by hk) (fun s H C cl fp => (hp s H C cl fp).1) (fun s H C cl fp => (hp s H C cl fp).2.1) (fun s H C cl fp => (hp s H C cl fp).2.2) hs, fun g σ H env S r D ok en e post => ?_⟩
  rcases exS_cases e with ⟨d, S', e1, e2⟩ | ⟨x', S', e1, rfl⟩
  · cases e2
    exact s g σ H env S _ _ ok en e1 fun g' v H' l ok' rv => post g' _ H' l ok' ((en.mono l).set i rv)
  · exact s g σ H env S _ _ ok en e1 fun g' c' dd H' l ok' xr => post g' c' dd σ H' l ok' (en.mono l) xr
/-- target = e -/
def sAsg (gf : Dv → Env' → M Env') (f : Env' → M Dv) : SF := fun env S => exS env (f env S) fun d S' => match gf d env S' with
  | some (.ok env' S'') => some (.nx env' S'')
  | _ => none
theorem ds_asg {tg e : Expr} {is : List Nat} {gf : Dv → Env' → M Env'} {f : Env' → M Dv} {pos : Pos} (he : DE X W e f) (hg : DG X tg is gf) (hs : swapsWithSole [tg] e pos.line X.env = pure false := by rfl) (hw : swappedStores [tg] e X.env = pure none := by rfl)
    (h1 : (assignEach [tg] X.env).map (·.2) = [assign tg X.env] := by rfl) : DS X W (.Assign [tg] e pos) (sAsg gf f) := by
  obtain ⟨t, p, s⟩ := he
  obtain ⟨t2, p2, s2⟩ := hg
  refine ⟨_, ps_asg p p2 hs hw h1, fun g σ H env S r D ok en e post => ?_⟩
  rcases exS_cases e with ⟨d, S', e1, e2⟩ | ⟨x', S', e1, rfl⟩
  · refine s g σ H env S _ _ ok en e1 fun g' v H' l ok' rv => ?_
    split at e2
    · rename_i env' S'' eg
      cases e2
      exact s2 g' σ H' env S' d v env' S'' _ ok' (en.mono l) rv eg fun g2 σ2 H2 l2 ok2 en2 _ _ => post g2 σ2 H2 (Gh.le_trans l l2) ok2 en2
    · cases e2
  · exact s g σ H env S _ _ ok en e1 fun g' c' dd H' l ok' xr => post g' c' dd σ H' l ok' (en.mono l) xr
def sExp (f : Env' → M Dv) : SF := fun env S => exS env (f env S) fun _ S' => some (.nx env S')
theorem ds_expr {e : Expr} {f : Env' → M Dv} {pos : Pos} (he : DE X W e f) (hs : swapsWith e none pos.line X.env = pure false := by rfl) : DS X W (.Expr e pos) (sExp f) := by
  obtain ⟨t, p, s⟩ := he
  refine ⟨_, ps_expr p hs, fun g σ H env S r D ok en e post => ?_⟩
  rcases exS_cases e with ⟨d, S', e1, e2⟩ | ⟨x', S', e1, rfl⟩
  · cases e2
    exact s g σ H env S _ _ ok en e1 fun g' v H' l ok' rv => post g' σ H' l ok' (en.mono l)
  · exact s g σ H env S _ _ ok en e1 fun g' c' dd H' l ok' xr => post g' c' dd σ H' l ok' (en.mono l) xr
def sRet (f : Env' → M Dv) : SF := fun env S => exS env (f env S) fun d S' => some (.rt d S')
theorem ds_ret {e : Expr} {f : Env' → M Dv} {pos : Pos} (he : DE X W e f) : DS X W (.Return (some e) pos) (sRet f) := by
  obtain ⟨t, p, s⟩ := he
  refine ⟨_, ps_ret p, fun g σ H env S r D ok en e post => ?_⟩
  rcases exS_cases e with ⟨d, S', e1, e2⟩ | ⟨x', S', e1, rfl⟩
  · cases e2
    exact s g σ H env S _ _ ok en e1 fun g' v H' l ok' rv => post g' v H' l ok' rv
  · exact s g σ H env S _ _ ok en e1 fun g' c' dd H' l ok' xr => post g' c' dd σ H' l ok' (en.mono l) xr
def sRetN : SF := fun _ S => some (.rt .non S)
theorem ds_retN {pos : Pos} : DS X W (.Return none pos) sRetN := ⟨_, ps_retN, fun g σ H env S r D ok en e post => by cases e; exact post g _ H (Gh.le_refl g) ok .non⟩
theorem ds_pass {pos : Pos} : DS X W (.Pass pos) sNil := ⟨_, ps_pass, fun g σ H env S r D ok en e post => by cases e; exact post g _ H (Gh.le_refl g) ok en⟩
def sBrk : SF := fun env S => some (.bk env S)
def sCnt : SF := fun env S => some (.ct env S)
theorem ds_break {pos : Pos} : DS X W (.Break pos) sBrk := ⟨_, ps_break, fun g σ H env S r D ok en e post => by cases e; exact post g _ H (Gh.le_refl g) ok en⟩
theorem ds_continue {pos : Pos} : DS X W (.Continue pos) sCnt := ⟨_, ps_continue, fun g σ H env S r D ok en e post => by cases e; exact post g _ H (Gh.le_refl g) ok en⟩
def sIf (f : Env' → M Bool) (a b : SF) : SF := fun env S => exS env (f env S) fun k S' => if k = true then a env S' else b env S'
theorem ds_if {c : Expr} {f : Env' → M Bool} {a b : List Stmt} {fa fb : SF} {pos : Pos} (hc : DT X W c f) (ha : DSs X W a fa) (hb : DSs X W b fb) : DS X W (.If c a b pos) (sIf f fa fb) := by
  obtain ⟨t, p, s⟩ := hc
  obtain ⟨ta, pa, sa⟩ := ha
  obtain ⟨tb, pb, sb⟩ := hb
  refine ⟨_, ps_if p pa pb, fun g σ H env S r D ok en e post => ?_⟩
  rcases exS_cases e with ⟨k, S', e1, e2⟩ | ⟨x', S', e1, rfl⟩
  · refine s g σ H env S _ _ ok en e1 fun g' k' H' l ok' rk => ?_
    cases rk
    cases k with
    | true => rw [if_pos rfl] at e2 ⊢; exact sa g' σ H' env S' r D ok' (en.mono l) e2 (post.mono l)
    | false => rw [if_neg Bool.false_ne_true] at e2 ⊢; exact sb g' σ H' env S' r D ok' (en.mono l) e2 (post.mono l)
  · exact s g σ H env S _ _ ok en e1 fun g' c' dd H' l ok' xr => post g' c' dd σ H' l ok' (en.mono l) xr
/-! ### for, while -/
open Classical in
noncomputable def forL (src : Sr) (l0 : List Dv) (gf : Dv → Env' → M Env') (body : SF) : List Dv → SF
  | [] => fun env S => if src S = some l0 then some (.nx env S) else none
  | d :: r => fun env S => if src S = some l0 then (match gf d env S with
    | some (.ok env1 S1) => (match body env1 S1 with
      | some (.nx env2 S2) => forL src l0 gf body r env2 S2
      | some (.ct env2 S2) => forL src l0 gf body r env2 S2
      | some (.bk env2 S2) => some (.nx env2 S2)
      | o => o)
    | _ => none) else none
noncomputable def sFor (fi : Env' → M Sr) (gf : Dv → Env' → M Env') (body : SF) : SF := fun env S => exS env (fi env S) fun src S' => match src S' with
  | some l => forL src l gf body l env S'
  | none => none
theorem ds_for {tg iter : Expr} {body : List Stmt} {is : List Nat} {fi : Env' → M Sr} {gf : Dv → Env' → M Env'} {fb : SF} {pos : Pos} (c : Ct X W) (hp : PassesOwn (model X.prog X.w) X.A X.env X.xe) (hi : DI X W tg iter fi) (hg : DG X tg is gf) (hb : DSs X W body fb)
    (hs : ∀ x, foldedSetIterable iter X.env x = pure x := by intro _; rfl) : DS X W (.For tg iter body [] pos) (sFor fi gf fb) := by
  obtain ⟨wi, pi, si⟩ := hi
  obtain ⟨tb, pb, sb⟩ := hb
  refine ⟨_, ps_for hp c.calm pi hg.pg pb hs, fun g σ H env S r D ok en e post => ?_⟩
  rcases exS_cases e with ⟨src, S1, e1, e2⟩ | ⟨x', S', e1, rfl⟩
  · refine si g σ H env S _ _ ok en e1 fun g1 J H1 l1 ok1 hj => ?_
    split at e2
    · rename_i l0 hl0
      let Wv : Nat → Nat → L2.St → Hp → Prop := fun i m σ H => ∃ (gg : Gh) (env : Env') (SS : Sto), m = l0.length - i ∧ i ≤ l0.length ∧ g1.le gg ∧ Ok X.bs gg H SS ∧ En X.bs gg σ env ∧ forL src l0 gf fb (l0.drop i) env SS = some r
      refine ⟨Wv, ⟨l0.length, g1, env, S1, by simp, Nat.zero_le _, Gh.le_refl g1, ok1, en.mono l1, by rw [List.drop_zero]; exact e2⟩, ?_⟩
      rintro i m σ2 H2 ⟨gg, env2, SS, rfl, hi, lgg, okk, enn, ef⟩
      by_cases hlt : i < l0.length
      · have hdrop : l0.drop i = l0[i] :: l0.drop (i + 1) := List.drop_eq_getElem_cons hlt
        rw [hdrop] at ef
        unfold forL at ef
        split at ef
        · rename_i hsrc
          obtain ⟨_, hj2⟩ := hj gg H2 SS l0 lgg.sub okk hsrc i
          obtain ⟨hgo, hyld⟩ := hj2 l0[i] (List.getElem?_eq_getElem hlt)
          refine .inr ⟨hgo, fun σ' H' => Wv (i + 1) (l0.length - (i + 1)) σ' H', fun σ' H' w => ⟨_, by omega, w⟩, fun x H' hy => ?_⟩
          obtain ⟨g2, hl2, ok2, r2⟩ := hyld x H' hy
          split at ef
          · rename_i env3 S3 eg
            refine ⟨g2, env2, SS, l0[i], env3, S3, ok2, enn.mono hl2, r2, eg, fun g4 σ4 H4 l4 ok4 en4 _ _ => ?_⟩
            have lall : g1.le g4 := Gh.le_trans lgg (Gh.le_trans hl2 l4)
            have postA : SPost X.bs g4 W D r := post.mono (Gh.le_trans l1 lall)
            cases eb : fb env3 S3 with
            | none => rw [eb] at ef; cases ef
            | some o =>
              rw [eb] at ef
              refine sb g4 σ4 H4 env3 S3 o _ ok4 en4 eb ?_
              cases o with
              | nx env5 S5 => exact fun g5 σ5 H5 l5 ok5 en5 => ⟨g5, env5, S5, rfl, hlt, Gh.le_trans lall l5, ok5, en5, ef⟩
              | ct env5 S5 => exact fun g5 σ5 H5 l5 ok5 en5 => ⟨g5, env5, S5, rfl, hlt, Gh.le_trans lall l5, ok5, en5, ef⟩
              | bk env5 S5 => cases ef; exact postA
              | rt d S5 => cases ef; exact postA
              | er x5 env5 S5 => cases ef; exact postA
          · cases ef
        · cases ef
      · have hdrop : l0.drop i = [] := List.drop_eq_nil_of_le (by omega)
        rw [hdrop] at ef
        unfold forL at ef
        split at ef
        · rename_i hsrc
          obtain ⟨hj1, _⟩ := hj gg H2 SS l0 lgg.sub okk hsrc i
          cases ef
          exact .inl ⟨hj1 (by omega), post gg σ2 H2 (Gh.le_trans l1 lgg) okk enn⟩
        · cases ef
    · cases e2
  · exact si g σ H env S _ _ ok en e1 fun g' c' dd H' l ok' xr => post g' c' dd σ H' l ok' (en.mono l) xr
def whileL (fc : Env' → M Bool) (body : SF) : Nat → SF
  | 0 => fun _ _ => none
  | n + 1 => fun env S => exS env (fc env S) fun k S1 => if k = true then (match body env S1 with
      | some (.nx env2 S2) => whileL fc body n env2 S2
      | some (.ct env2 S2) => whileL fc body n env2 S2
      | some (.bk env2 S2) => some (.nx env2 S2)
      | o => o) else some (.nx env S1)
theorem ds_while {c : Expr} {body : List Stmt} {fc : Env' → M Bool} {fb : SF} {pos : Pos} (fuel : Nat) (hp : PassesOwn (model X.prog X.w) X.A X.env X.xe) (hc : DT X W c fc) (hb : DSs X W body fb) : DS X W (.While c body [] pos) (whileL fc fb fuel) := by
  obtain ⟨tc, pc, sc⟩ := hc
  obtain ⟨tb, pb, sb⟩ := hb
  refine ⟨_, ps_while hp pc pb, fun g σ H env S r D ok en e post => ?_⟩
  let Wv : Nat → L2.St → Hp → Prop := fun m σ H => ∃ (gg : Gh) (env : Env') (SS : Sto), g.le gg ∧ Ok X.bs gg H SS ∧ En X.bs gg σ env ∧ whileL fc fb m env SS = some r
  refine ⟨Wv, ⟨fuel, g, env, S, Gh.le_refl g, ok, en, e⟩, ?_⟩
  rintro m σ2 H2 ⟨gg, env2, SS, lgg, okk, enn, ew⟩
  cases m with
  | zero => cases ew
  | succ n =>
    unfold whileL at ew
    rcases exS_cases ew with ⟨k, S1, e1, e2⟩ | ⟨x', S', e1, rfl⟩
    · refine sc gg σ2 H2 env2 SS _ _ okk enn e1 fun g3 k' H3 l3 ok3 rk => ?_
      cases rk
      have lall : g.le g3 := Gh.le_trans lgg l3
      cases k with
      | true =>
        rw [if_pos rfl] at e2 ⊢
        refine ⟨fun σ' H' => Wv n σ' H', fun σ' H' w => ⟨n, Nat.lt_succ_self n, w⟩, ?_⟩
        have postA : SPost X.bs g3 W D r := post.mono lall
        cases eb : fb env2 S1 with
        | none => rw [eb] at e2; cases e2
        | some o =>
          rw [eb] at e2
          refine sb g3 σ2 H3 env2 S1 o _ ok3 (enn.mono l3) eb ?_
          cases o with
          | nx env5 S5 => exact fun g5 σ5 H5 l5 ok5 en5 => ⟨g5, env5, S5, Gh.le_trans lall l5, ok5, en5, e2⟩
          | ct env5 S5 => exact fun g5 σ5 H5 l5 ok5 en5 => ⟨g5, env5, S5, Gh.le_trans lall l5, ok5, en5, e2⟩
          | bk env5 S5 => cases e2; exact postA
          | rt d S5 => cases e2; exact postA
          | er x5 env5 S5 => cases e2; exact postA
      | false =>
        rw [if_neg Bool.false_ne_true] at e2 ⊢
        cases e2
        exact post g3 σ2 H3 lall ok3 (enn.mono l3)
    · exact sc gg σ2 H2 env2 SS _ _ okk enn e1 fun g' c' dd H' l ok' xr => post g' c' dd σ2 H' (Gh.le_trans lgg l) ok' (enn.mono l) xr
/-! ### o[i] = e: a list's cell -/
def setIM (a b d : Dv) : M Unit := fun S => match b, cellL S a with
  | .int k, some (n, l) => match ixN l.length k with
    | some j => some (.ok () (S.set n (.lst (l.set j d))))
    | none => none
  | _, _ => none
def gSub (fo fi : Env' → M Dv) (d : Dv) (env : Env') : M Env' := do
  let a ← fo env
  let b ← fi env
  setIM a b d
  pure env
theorem dg_sub {o i : Expr} {fo fi : Env' → M Dv} {pos : Pos} (ho : DE X W0 o fo) (hi : DE X W0 i fi)
    (ha : ∀ v, assign (.Subscript o i pos) X.env v = (do
      let ov ← holding [v] (eval o X.env)
      let iv ← holding [v, ov] (eval i X.env)
      standAt pos
      holding [v, ov, iv] (setItem ov iv v)
      release [v, ov, iv] []) := by intro _; rfl) : DG X (.Subscript o i pos) [] (gSub fo fi) := by
  obtain ⟨t, p, s⟩ := ho
  obtain ⟨t2, p2, s2⟩ := hi
  refine ⟨_, pg_sub p p2 set_list ha, fun g σ H env S d v env' S' Q ok en r e post => ?_⟩
  unfold gSub at e
  rcases bind_some (x := fo env) e with ⟨a, S1, e1, e2⟩ | ⟨_, _, _, q⟩
  · refine s g σ H env S _ _ ok en e1 fun g1 v1 H1 l1 ok1 r1 => ?_
    rcases bind_some (x := fi env) e2 with ⟨b, S2, e3, e4⟩ | ⟨_, _, _, q⟩
    · refine s2 g1 σ H1 env S1 _ _ ok1 (en.mono l1) e3 fun g2 v2 H2 l2 ok2 r2 => ?_
      rcases bind_some (x := setIM a b d) e4 with ⟨_, S3, e5, e6⟩ | ⟨_, _, _, q⟩
      · have q := pure_some e6
        cases q
        unfold setIM at e5
        split at e5
        · rename_i k n l hl
          split at e5
          · rename_i j hj
            cases e5
            obtain ⟨pa, ws, rfl, h1, h2, h3, h4⟩ := cellL_at ok2 (r1.mono l2) hl
            cases r2
            have l12 := Gh.le_trans l1 l2
            refine ⟨pa, ws, k, j, rfl, rfl, h3, by rw [← h4.length]; exact hj, ?_⟩
            exact post g2 σ _ l12 (ok2.setL h1 h2 (h4.set (r.mono l12) j)) (en.mono l12) rfl fun _ _ => rfl
          · cases e5
        · cases e5
      · cases q
    · cases q
  · cases q
end

/-! ### defs -/
/-- a def's mirror: the slots at the entry -/
def start' (n : Nat) (ds : List Dv) : Env' := ds.map some ++ List.replicate (n - ds.length) none
theorem en_start {B : Bs} {g : Gh} {N : List Str} {ds : List Dv} {vs : List V} (r : Rps B.K g ds vs) : En B g (L2.start N vs) (start' N.length ds) := by
  refine ⟨by unfold L2.start start'; rw [List.length_append, List.length_append, List.length_map, List.length_map, List.length_replicate, List.length_replicate, r.length], fun i d e => ?_⟩
  unfold start' at e
  unfold L2.start
  by_cases hi : i < ds.length
  · rw [List.getElem?_append_left (by simpa using hi), List.getElem?_map] at e
    have hv : i < vs.length := by rw [← r.length]; exact hi
    rw [List.getElem?_append_left (by simpa using hv), List.getElem?_map]
    obtain ⟨d', h1, h2⟩ := Option.map_eq_some_iff.mp e
    cases h2
    obtain ⟨v, h3, h4⟩ := r.get h1
    exact ⟨v, by rw [h3]; rfl, h4⟩
  · rw [List.getElem?_append_right (by simpa using hi), List.getElem?_replicate] at e
    split at e <;> cases e
mutual
/-- the refs of a value lie below n -/
def below (n : Nat) : Dv → Bool
  | .tup l => belows n l
  | .lst l => belows n l
  | .scr l => belows n l
  | .ref k => decide (k < n)
  | _ => true
def belows (n : Nat) : List Dv → Bool
  | [] => true
  | d :: ds => below n d && belows n ds
end
def belowC (n : Nat) : Cell → Bool
  | .lst l => belows n l
  | .dct kvs => kvs.all fun p => below n p.2
  | .ins _ fs => fs.all fun p => below n p.2
  | .dead => true
  | .lck kvs => kvs.all fun p => below n p.2
/-- the value that a def hands back: a list's own cell made at or above n is frozen -/
def frz1 (n : Nat) (d : Dv) (S : Sto) : Dv × Sto := match d with
  | .ref k => if n ≤ k then (match S[k]? with
    | some (.lst l) => (.lst l, S.set k .dead)
    | _ => (d, S)) else (d, S)
  | d => (d, S)
def frzL (n : Nat) : List Dv → Sto → List Dv × Sto
  | [], S => ([], S)
  | d :: r, S => ((frz1 n d S).1 :: (frzL n r (frz1 n d S).2).1, (frzL n r (frz1 n d S).2).2)
/-- the same for the parts of a tuple -/
def frzD (n : Nat) (d : Dv) (S : Sto) : Dv × Sto := match d with
  | .tup l => (.tup (frzL n l S).1, (frzL n l S).2)
  | d => frz1 n d S
/-- the cells made at or above n that nothing refers to are forgotten -/
def gcS (n : Nat) (d : Dv) (S : Sto) : Sto := if below n d = true ∧ (S.take n).all (belowC n) = true then S.take n else S
def leaveD (frz : Bool) (n : Nat) (d : Dv) (S : Sto) : Rs Dv :=
  let p := if frz = true then frzD n d S else (d, S)
  .ok p.1 (gcS n p.1 p.2)
def defM (frz : Bool) (n : Nat) (body : SF) (ds : List Dv) : M Dv := fun S => match body (start' n ds) S with
  | some (.nx _ S') => some (.ok .non (gcS S.length .non S'))
  | some (.rt d S') => some (leaveD frz S.length d S')
  | some (.er x _ S') => some (.er x S')
  | _ => none
mutual
theorem below_rp {K : PySem.W.Frag} {g : Gh} {n : Nat} : ∀ {d : Dv} {v : V}, Rp K g d v → below n d = true → Rp K ⟨g.F, g.m.take n, g.pv⟩ d v
  | _, _, .non, _ => .non
  | _, _, .bl b, _ => .bl b
  | _, _, .int b, _ => .int b
  | _, _, .str b, _ => .str b
  | _, _, .ty b, _ => .ty b
  | _, _, .exc b, _ => .exc b
  | _, _, .tup s r, h => .tup s (belows_rp r h)
  | _, _, .lst s r, h => .lst s (belows_rp r h)
  | _, _, .scr s r, h => .scr s (belows_rp r h)
  | _, _, .ref (n := k) e, h => .ref (by
    have hk : k < n := of_decide_eq_true h
    show (g.m.take n)[k]? = _
    rw [List.getElem?_take_of_lt hk]
    exact e)
theorem belows_rp {K : PySem.W.Frag} {g : Gh} {n : Nat} : ∀ {d : List Dv} {v : List V}, Rps K g d v → belows n d = true → Rps K ⟨g.F, g.m.take n, g.pv⟩ d v
  | _, _, .nil, _ => .nil
  | _, _, .cons r t, h => by
    simp only [belows, Bool.and_eq_true] at h
    exact .cons (below_rp r h.1) (belows_rp t h.2)
end
theorem below_kv {κ : Type} {K : PySem.W.Frag} {g : Gh} {n : Nat} : ∀ {d : List (κ × Dv)} {v : List (κ × V)}, Rkv K g d v → (d.all fun p => below n p.2) = true → Rkv K ⟨g.F, g.m.take n, g.pv⟩ d v
  | [], [], _, _ => trivial
  | _ :: _, _ :: _, ⟨a, b, c⟩, h => by
    rw [List.all_cons, Bool.and_eq_true] at h
    exact ⟨a, below_rp b h.1, below_kv c h.2⟩
  | [], _ :: _, x, _ => x.elim
  | _ :: _, [], x, _ => x.elim
theorem gc_ok {B : Bs} {g0 g : Gh} {H : Hp} {S : Sto} {d : Dv} {v : V} (l : g0.le g) (ok : Ok B g H S) (r : Rp B.K g d v) : ∃ g', g0.le g' ∧ Ok B g' H (gcS g0.m.length d S) ∧ Rp B.K g' d v := by
  unfold gcS
  split
  · rename_i hc
    obtain ⟨h1, h2⟩ := hc
    refine ⟨⟨g.F, g.m.take g0.m.length, g.pv⟩, ⟨l.1, fun n a e => ?_, l.2.2⟩, ⟨ok.fz, ?_, fun n c a hs hm => ?_, fun n c a hs hm => ?_, fun i j a e1 e2 => ?_, fun q hq => ?_⟩, below_rp r h1⟩
    · have hn : n < g0.m.length := (List.getElem?_eq_some_iff.mp e).1
      show (g.m.take g0.m.length)[n]? = some a
      rw [List.getElem?_take_of_lt hn]
      exact l.2.1 n a e
    · show (g.m.take g0.m.length).length = _
      rw [List.length_take, List.length_take, ok.len]
    · have hm' : (g.m.take g0.m.length)[n]? = some a := hm
      have hn : n < g0.m.length := by
        have := (List.getElem?_eq_some_iff.mp hm').1
        rw [List.length_take] at this
        omega
      rw [List.getElem?_take_of_lt hn] at hm' hs
      have hb : belowC g0.m.length c = true := List.all_eq_true.mp h2 c (List.mem_of_getElem? (by rw [List.getElem?_take_of_lt hn]; exact hs))
      have q := ok.cel n c a hs hm'
      cases c with
      | lst ll => obtain ⟨ws, e, r⟩ := q; exact ⟨ws, e, belows_rp r hb⟩
      | dct ll => obtain ⟨ws, e, r⟩ := q; exact ⟨ws, e, below_kv r hb⟩
      | ins cc fs => obtain ⟨C, dx, ws, hmg, e, ed, ef, r⟩ := q; exact ⟨C, dx, ws, hmg, e, ed, ef, below_kv r hb⟩
      | lck ll => obtain ⟨od, ws, e, r⟩ := q; exact ⟨od, ws, e, below_kv r hb⟩
      | dead => exact q
    · have hm' : (g.m.take g0.m.length)[n]? = some a := hm
      have hn : n < g0.m.length := by
        have := (List.getElem?_eq_some_iff.mp hm').1
        rw [List.length_take] at this
        omega
      rw [List.getElem?_take_of_lt hn] at hm' hs
      exact ok.nf n c a hs hm'
    · have low : ∀ (k : Nat) b, (g.m.take g0.m.length)[k]? = some b → g.m[k]? = some b := fun k b e => by
        have hn : k < g0.m.length := by
          have := (List.getElem?_eq_some_iff.mp e).1
          rw [List.length_take] at this
          omega
        rw [List.getElem?_take_of_lt hn] at e
        exact e
      exact ok.inj i j a (low i a e1) (low j a e2)
    · obtain ⟨e1, e2, e3⟩ := ok.pvt q hq
      refine ⟨e1, e2, fun n e => ?_⟩
      have e' : (g.m.take g0.m.length)[n]? = some q.1 := e
      have hn : n < g0.m.length := by
        have := (List.getElem?_eq_some_iff.mp e').1
        rw [List.length_take] at this
        omega
      rw [List.getElem?_take_of_lt hn] at e'
      exact e3 n e'
  · exact ⟨g, l, ok, r⟩
theorem frz1_ok {B : Bs} {g0 g : Gh} {H : Hp} {S : Sto} {d : Dv} {v : V} {n : Nat} (l : g0.le g) (ok : Ok B g H S) (r : Rp B.K g d v) : ∃ g', g0.le g' ∧ Ok B g' H (frz1 n d S).2 ∧ Rp B.K g' (frz1 n d S).1 v := by
  cases d with
  | ref k =>
    unfold frz1
    dsimp only
    split
    · split
      · rename_i ll hl
        cases r with
        | ref hm =>
          obtain ⟨vs, h1, h2⟩ := ok.cel _ _ _ hl hm
          obtain ⟨hle, ok'⟩ := ok.freeze hl hm h1
          exact ⟨_, Gh.le_trans l hle, ok', .lst upd_same (h2.mono hle)⟩
      · exact ⟨g, l, ok, r⟩
    · exact ⟨g, l, ok, r⟩
  | _ => exact ⟨g, l, ok, r⟩
theorem frzL_ok {B : Bs} {H : Hp} {n : Nat} : ∀ {l : List Dv} {vs : List V} {g : Gh} {S : Sto}, Ok B g H S → Rps B.K g l vs → ∃ g', g.le g' ∧ Ok B g' H (frzL n l S).2 ∧ Rps B.K g' (frzL n l S).1 vs
  | [], _, g, S, ok, r => by
    cases r
    exact ⟨g, Gh.le_refl g, ok, .nil⟩
  | d :: l, _, g, S, ok, r => by
    cases r with
    | cons r1 r2 =>
      obtain ⟨g1, l1, ok1, q1⟩ := frz1_ok (n := n) (Gh.le_refl g) ok r1
      obtain ⟨g2, l2, ok2, q2⟩ := frzL_ok ok1 (r2.mono l1)
      exact ⟨g2, Gh.le_trans l1 l2, ok2, .cons (q1.mono l2) q2⟩
theorem frz_ok {B : Bs} {g0 g : Gh} {H : Hp} {S : Sto} {d : Dv} {v : V} {n : Nat} (l : g0.le g) (ok : Ok B g H S) (r : Rp B.K g d v) : ∃ g', g0.le g' ∧ Ok B g' H (frzD n d S).2 ∧ Rp B.K g' (frzD n d S).1 v := by
  cases d with
  | tup ll =>
    cases r with
    | tup s r =>
      obtain ⟨g1, l1, ok1, q1⟩ := frzL_ok (n := n) ok r
      exact ⟨g1, Gh.le_trans l l1, ok1, .tup (SqT_mono l1.1 s) q1⟩
  | _ => exact frz1_ok l ok r
/-- what a def with the mirror c promises -/
def spOf (B : Bs) (n : Nat) (c : List Dv → M Dv) : Sp := fun vs H Q E => vs.length = n ∧ ∃ (g : Gh) (ds : List Dv) (S : Sto) (r : Rs Dv), Ok B g H S ∧ Rps B.K g ds vs ∧ c ds S = some r ∧ Post B g (fun g => Rp B.K g) Q E r
section
variable {P : Program} {w : World} {K : PySem.W.Frag} {mg : Str → Option Value} {base : Heap}
/-- a def of the text keeps the promise of its mirror -/
theorem fn_ok {x qual : Str} {st : Stmt} {f : Addr} {fd : FuncData} {N ps : List Str} {k : Nat} {frz : Bool} {body : SF} (F : Fun K x qual st f fd) (Sc : FnScope N ps (defScope st))
    (hb : ∀ (cdv : Value) (A : Around) (outer : List Env) (s : Shared) (H : Hp) (E : XK), Room k (A.deeper (envOfC qual (defScope st) s.heap.objs.size f cdv)) →
      Ct (cxOf (L2.CX P w) P w K mg base N qual (defScope st) f cdv A outer s H E) (fun c dd _ H => E c dd H) → PassesOwn (model P w) (A.deeper (envOfC qual (defScope st) s.heap.objs.size f cdv)) (envOfC qual (defScope st) s.heap.objs.size f cdv) (cxOf (L2.CX P w) P w K mg base N qual (defScope st) f cdv A outer s H E).xe →
      DSs (cxOf (L2.CX P w) P w K mg base N qual (defScope st) f cdv A outer s H E) (fun c dd _ H => E c dd H) (defBody st) body) :
    FnOk P w K mg base (L2.CX P w) (k + 1) f fd ps (spOf ⟨K, mg⟩ ps.length (defM frz N.length body)) := by
  refine F.okX Sc (fun vs H Q E h => h.1) fun cdv A outer s H vs Q E hr hsp => ?_
  obtain ⟨hl, g, ds, S, r, ok, rr, e, post⟩ := hsp
  have tk : Takes (cxOf (L2.CX P w) P w K mg base N qual (defScope st) f cdv A outer s H E) (fun c dd _ H => E c dd H) := takes_of rfl rfl rfl rfl
  have hu := hr.un
  obtain ⟨t, p, sn⟩ := hb cdv A outer s H E hr ⟨rfl, Sc.nd, by show (A.deeper _).units + 65 < cLine; omega, tk⟩ (passes_of rfl)
  refine ⟨t, p, ?_⟩
  have gl : g.m.length = S.length := ok.len
  unfold defM at e
  split at e
  · rename_i env' S' eb
    cases e
    refine sn g _ H _ S _ _ ok (en_start rr) eb fun g' σ' H' l ok' en' => ?_
    obtain ⟨g2, l2, ok2, r2⟩ := gc_ok (d := .non) (v := .non) l ok' .non
    rw [gl] at ok2
    exact post g2 _ H' l2 ok2 r2
  · rename_i d S' eb
    cases e
    refine sn g _ H _ S _ _ ok (en_start rr) eb fun g' v H' l ok' rv => ?_
    unfold leaveD at post
    cases frz with
    | true =>
      obtain ⟨g1, l1, ok1, r1⟩ := frz_ok (n := S.length) l ok' rv
      obtain ⟨g2, l2, ok2, r2⟩ := gc_ok l1 ok1 r1
      rw [gl] at ok2
      exact post g2 _ H' l2 ok2 r2
    | false =>
      obtain ⟨g2, l2, ok2, r2⟩ := gc_ok l ok' rv
      rw [gl] at ok2
      exact post g2 _ H' l2 ok2 r2
  · rename_i x' env' S' eb
    cases e
    exact sn g _ H _ S _ _ ok (en_start rr) eb fun g' c' dd σ' H' l ok' en' xr => post g' c' dd H' l ok' xr
  · cases e
/-- a def of the module, as its callers see it -/
structure FnE (P : Program) (w : World) (K : PySem.W.Frag) (mg : Str → Option Value) (base : Heap) (k : Nat) (x : Str) (n : Nat) (c : List Dv → M Dv) : Prop where
  ex : ∃ (f : Addr) (fd : FuncData) (ps : List Str), mg x = some (.ref f) ∧ PySem.W.keepIn K (.ref f) = true ∧ ps.length = n ∧ Binds K fd ps [] ∧ FnOk P w K mg base (L2.CX P w) k f fd ps (spOf ⟨K, mg⟩ n c)
end
section
variable {X : Cx} {W : WX}
/-- f(e, ..) -/
theorem de_call {k n : Nat} {x : Str} {c : List Dv → M Dv} {p pos : Pos} {e : Expr} {es : List Expr} {fs : Env' → M (List Dv)} (ct : Ct X W) (F : FnE X.prog X.w X.K X.mg X.base k x n c) (hr : Room k X.A) (ha : DA X W (e :: es) fs) (hn : (e :: es).length = n := by rfl) (hg : Gl X x := by rfl)
    (hdb : (x == ("__debug__" : Str)) = false := by decide) (he : starEach (e :: es) X.env = (false, eval e X.env) :: starEach es X.env := by rfl) (hpl : (backTo pos (starEach es X.env)).any (·.1) = false := by rfl) :
    DE X W (.Call (.Name x p) (e :: es) [] pos) (eArg fs c) := by
  obtain ⟨f, fd, ps, hm, hk, hps, hb, FO⟩ := F.ex
  obtain ⟨t, pa, s, hlen⟩ := ha
  refine ⟨_, pe_callS FO hr hg hm hk hb (fun σ => passAt ct.tk σ) pa hdb he hpl, fun g σ H env S r Q ok en e post => ?_⟩
  rcases bind_some (x := fs env) e with ⟨ds, S1, e1, e2⟩ | ⟨x', S', e1, rfl⟩
  · refine s g σ H env S _ _ ok en e1 fun g' vs H' l ok' rr => ?_
    exact ⟨by rw [← rr.length, hlen _ _ _ _ e1]; exact hn, g', ds, S1, r, ok', rr, e2, post.mono l⟩
  · exact s g σ H env S _ _ ok en e1 post
end
end ML

/-! ML 7: short words for printed derivations; written dicts; the module's names. -/
namespace ML
open PySem PySem.Spec PyProof.Rows L2
section
variable {X : Cx} {W : WX}
theorem dv (i : Nat) {x : Str} {pos : Pos} (hN : X.N[i]? = some x := by rfl) (hv : Vis X.env.scope x := by first | exact Or.inl rfl | exact Or.inr (Or.inl rfl) | exact Or.inr (Or.inr rfl)) (hd : (x == ("__debug__" : Str)) = false := by decide)
    (hcd : (x == ("__classdict__" : Str)) = false := by decide) : DE X W (.Name x pos) (getv i) := de_var hN hv hd hcd
/-- a constant of the module -/
def KC (K : PySem.W.Frag) (mg : Str → Option Value) (x : Str) (d : Dv) : Prop := ∃ v u, mg x = some u ∧ RelV v u ∧ ∀ g, Rp K g d v
theorem de_kc {x : Str} {d : Dv} {pos : Pos} (h : KC X.K X.mg x d) (hg : Gl X x := by rfl) (hd : (x == ("__debug__" : Str)) = false := by decide) : DE X W (.Name x pos) (eC d) := by
  obtain ⟨v, u, hm, r, hr⟩ := h
  exact de_const (pe_glob hg hm r hd) hr
theorem kc_int {K : PySem.W.Frag} {mg : Str → Option Value} {x : Str} {i : Int} {t : Tok} (h : mg x = some (.int i t)) : KC K mg x (.int i) := ⟨.int i, _, h, ⟨t, rfl⟩, fun _ => .int i⟩
theorem kc_str {K : PySem.W.Frag} {mg : Str → Option Value} {x z : Str} {t : Tok} (h : mg x = some (.str z t)) : KC K mg x (.str z) := ⟨.str z, _, h, ⟨t, rfl⟩, fun _ => .str z⟩
/-- a written tuple of flat things -/
def flatK : Value → Option (Dv × V)
  | .int i _ => some (.int i, .int i)
  | .str z _ => some (.str z, .str z)
  | .bool b => some (.bl b, .bl b)
  | .none => some (.non, .non)
  | _ => none
def flatsK : List Value → Option (List Dv × List V)
  | [] => some ([], [])
  | u :: us => match flatK u, flatsK us with
    | some p, some ps => some (p.1 :: ps.1, p.2 :: ps.2)
    | _, _ => none
theorem flatK_ok {K : PySem.W.Frag} {g : Gh} {u : Value} {d : Dv} {v : V} (h : flatK u = some (d, v)) : Rp K g d v ∧ RelV v u := by
  unfold flatK at h
  split at h <;> first | (cases h; exact ⟨.int _, ⟨_, rfl⟩⟩) | (cases h; exact ⟨.str _, ⟨_, rfl⟩⟩) | (cases h; exact ⟨.bl _, rfl⟩) | (cases h; exact ⟨.non, rfl⟩) | cases h
theorem flatsK_ok {K : PySem.W.Frag} {g : Gh} : ∀ {us : List Value} {ds : List Dv} {vs : List V}, flatsK us = some (ds, vs) → Rps K g ds vs ∧ Vals vs us
  | [], _, _, h => by cases h; exact ⟨.nil, .nil⟩
  | u :: us, ds, vs, h => by
    simp only [flatsK] at h
    cases e1 : flatK u with
    | none => rw [e1] at h; cases h
    | some p =>
      cases e2 : flatsK us with
      | none => rw [e1, e2] at h; cases h
      | some ps =>
        rw [e1, e2] at h
        cases h
        obtain ⟨a, b⟩ := flatK_ok (K := K) (g := g) (d := p.1) (v := p.2) e1
        obtain ⟨c, d⟩ := flatsK_ok (K := K) (g := g) (ds := ps.1) (vs := ps.2) e2
        exact ⟨.cons a c, .cons b d⟩
theorem kc_tup {K : PySem.W.Frag} {mg : Str → Option Value} {x : Str} {a : Addr} {od : Option Addr} {its : Array Value} {n : Nat} {sl : Array (Option Value)} {ds : List Dv} {vs : List V} (h : mg x = some (.ref a)) (l : K.lookup a = some ⟨.type "tuple", od, .seq its n, sl⟩)
    (hf : flatsK its.toList = some (ds, vs)) (hz : its.size ≤ sizeLine) : KC K mg x (.tup ds) :=
  ⟨.ref a, .ref a, h, rfl, fun g => .tup (.inr ⟨_, its, n, l, rfl, rfl, hz, (flatsK_ok (K := K) (g := g) hf).2⟩) (flatsK_ok hf).1⟩
/-- a built-in class as a value -/
theorem de_ty {x : Str} {T : String} {pos : Pos} (hm : X.mg x = none) (hv : bootBuiltins x = some (.type T)) (hg : Gl X x := by rfl) (hn : x ≠ "__name__" := by decide) (hd : (x == ("__debug__" : Str)) = false := by decide) : DE X W (.Name x pos) (eC (.ty T)) :=
  de_const (v := .ty T) (pe_bltn (v := .ty T) hg hm hv rfl hn hd) fun _ => .ty T
/-! ### times: ints, a text times an int -/
def mulOkB (x : Str) (n : Int) : Bool := decide (-(2 ^ 63) ≤ n) && decide (n < 10000) && decide (x.length ≤ 1000)
theorem mulOk_of {x : Str} {n : Int} (h : mulOkB x n = true) : PySem.MulOk x n := by
  unfold mulOkB at h
  simp only [Bool.and_eq_true, decide_eq_true_eq] at h
  obtain ⟨⟨h1, h2⟩, h3⟩ := h
  refine ⟨?_, fun hn _ => ?_, fun hn _ => ?_⟩
  · rw [decide_eq_false (by omega), decide_eq_false (by omega)]
    rfl
  · have h4 : (1000 : Int) ≤ (2 ^ 63 - 1) / n := by
      apply Int.le_ediv_of_mul_le (by omega)
      omega
    omega
  · unfold Builtin.Str.tooLong
    apply decide_eq_false
    have h5 : x.length * n.toNat ≤ 1000 * 10000 := Nat.mul_le_mul h3 (by omega)
    have h6 := sizeLine_eq
    omega
def mulS : Sto → Dv → Dv → Option Dv := fun _ a b => match a, b with
  | .str z, .int n => if mulOkB z n = true then some (.str (Txt.mul z n)) else none
  | _, _ => none
theorem od_mulS : OpD X (binaryOp .Mult) mulS := by
  refine ⟨fun x y H Q => ∃ z n, x = .str z ∧ y = .int n ∧ mulOkB z n = true ∧ Q (.str (Txt.mul z n)) H, ?_, fun g H S a b x y d Q ok ra rb e q => ?_⟩
  · intro pins s σ H x y v u Q I rx ry h
    obtain ⟨z, n, rfl, rfl, hc, q⟩ := h
    obtain ⟨t, rfl⟩ := rx
    obtain ⟨t', rfl⟩ := ry
    exact PySem.SB.mul (mulOk_of hc) fun t2 k => ⟨.str _, H, I.tok k, ⟨t2, rfl⟩, q⟩
  · unfold mulS at e
    split at e
    · split at e
      · rename_i hc
        cases e
        cases ra
        cases rb
        exact ⟨_, _, rfl, rfl, hc, q g _ H (Gh.le_refl g) ok (.str _)⟩
      · cases e
    · cases e
def mulD : Sto → Dv → Dv → Option Dv := fun S a b => match mulI S a b with
  | some d => some d
  | none => mulS S a b
theorem od_mul : OpD X (binaryOp .Mult) mulD := OpD.or od_mulI od_mulS
/-! ### chains -/
theorem de_chain2 {op op' : CmpOp} {a b c : Expr} {fa fb fc : Env' → M Dv} {o o' : Sto → Dv → Dv → Option Dv} {pos : Pos} (ho : OpD X (compareOp op) o) (ho' : OpD X (compareOp op') o')
    (ha : DE X W a fa) (hb : DE X W b fb) (hc : DE X W c fc) (hm : lastMarks [op, op'] [b, c] = false := by with_unfolding_all rfl) : DE X W (.Compare a [op, op'] [b, c] pos) (chainF o o' fa fb fc) :=
  de_chain ho ho' ha hb hc fun h1 h2 h3 h4 h5 => L2.pe_chain h1 h2 h3 h4 h5 hm
theorem dt_chain2 {op op' : CmpOp} {a b c : Expr} {fa fb fc : Env' → M Dv} {o o' : Sto → Dv → Dv → Option Dv} {pos : Pos} (ho : OpD X (compareOp op) o) (ho' : OpD X (compareOp op') o')
    (ha : DE X W a fa) (hb : DE X W b fb) (hc : DE X W c fc) (hm : lastMarks [op, op'] [b, c] = false := by with_unfolding_all rfl) : DT X W (.Compare a [op, op'] [b, c] pos) (tB (chainF o o' fa fb fc)) := by
  have key : ∃ t : TE, PT X (.Compare a [op, op'] [b, c] pos) (tTest t) ∧ Sn X.bs W (Rv X) t (chainF o o' fa fb fc) := by
    obtain ⟨r, h1, h2⟩ := ho
    obtain ⟨r', h1', h2'⟩ := ho'
    obtain ⟨ta, pa, sa⟩ := ha
    obtain ⟨tb, pb, sb⟩ := hb
    obtain ⟨tc, pc, sc⟩ := hc
    refine ⟨tChain r r' ta tb tc, L2.pt_chain h1 h1' pa pb pc hm, ?_⟩
    exact chain_sn (op := op) (op' := op') h2 h2' sa sb sc
  obtain ⟨t, p, s⟩ := key
  exact ⟨_, p, sn_test s⟩
/-! ### a written dict of the module with text keys -/
def KVals : List DictEntry → List (Str × Dv) → Prop
  | [], [] => True
  | e :: r, p :: ps => (∃ t, e.key = .str p.1 t) ∧ (∃ v, flatK e.val = some (p.2, v)) ∧ KVals r ps
  | _, _ => False
def KTab (K : PySem.W.Frag) (mg : Str → Option Value) (w : World) (x : Str) (kvs : List (Str × Dv)) : Prop :=
  ∃ (d : Addr) (es : Array DictEntry) (n : Nat), mg x = some (.ref d) ∧ KDict K w d es n ∧ KVals es.toList kvs
theorem kvals_find {z : Str} : ∀ {es : List DictEntry} {kvs : List (Str × Dv)}, KVals es kvs → (match es.find? (·.key.isStr z) with
      | some e => ∃ d v, kvs.lookup z = some d ∧ flatK e.val = some (d, v)
      | none => kvs.lookup z = none) ∧ es.any (·.refKey) = false
  | [], [], _ => ⟨rfl, rfl⟩
  | e :: r, p :: ps, h => by
    obtain ⟨⟨t, hk⟩, ⟨v, hv⟩, h3⟩ := h
    obtain ⟨ih1, ih2⟩ := kvals_find (z := z) h3
    have ek : e.key.isStr z = (p.1 == z) := by
      rw [hk]
      show (p.1 == z) = _
      rfl
    constructor
    · rw [List.find?_cons, ek]
      by_cases hz : p.1 = z
      · subst hz
        rw [beq_self_eq_true]
        exact ⟨p.2, v, by simp [List.lookup], hv⟩
      · have e2 : (p.1 == z) = false := beq_eq_false_iff_ne.mpr hz
        have e3 : (z == p.1) = false := beq_eq_false_iff_ne.mpr (Ne.symm hz)
        rw [e2]
        have e4 : (p :: ps).lookup z = ps.lookup z := by
          obtain ⟨p1, p2⟩ := p
          simp only [List.lookup]
          simp only at e3
          rw [e3]
        rw [e4]
        exact ih1
    · rw [List.any_cons, ih2]
      have : e.refKey = false := by
        unfold DictEntry.refKey
        rw [hk]
      rw [this]
      rfl
  | [], _ :: _, h => h.elim
  | _ :: _, [], h => h.elim
theorem ktab_in {K : PySem.W.Frag} {w : World} {d : Addr} {es : Array DictEntry} {n : Nat} {kvs : List (Str × Dv)} (D : KDict K w d es n) (h : KVals es.toList kvs) (z : Str) :
    ∃ r, PySem.W.nsIn K d z = some r ∧ r.isSome = (kvs.lookup z).isSome ∧ ∀ dv, kvs.lookup z = some dv → ∃ u v, r = some u ∧ flatK u = some (dv, v) := by
  obtain ⟨h1, h2⟩ := kvals_find (z := z) h
  unfold PySem.W.nsIn
  rw [D.at_]
  dsimp only
  cases hf : es.toList.find? (·.key.isStr z) with
  | some e =>
    rw [hf] at h1
    obtain ⟨dd, v, e1, e2⟩ := h1
    exact ⟨some e.val, rfl, by rw [e1]; rfl, fun dv he => ⟨e.val, v, rfl, by rw [e1] at he; cases he; exact e2⟩⟩
  | none =>
    rw [hf] at h1
    dsimp only at h1 ⊢
    rw [h2]
    exact ⟨none, rfl, by rw [h1]; rfl, fun dv he => by rw [h1] at he; cases he⟩
def inKM (kvs : List (Str × Dv)) (neg : Bool) : Dv → M Dv
  | .str z => pure (.bl (if neg then !(kvs.lookup z).isSome else (kvs.lookup z).isSome))
  | _ => stuck
theorem sn_unop {α β : Type} {R : Gh → α → β → Prop} {t : TE} {f : Env' → M Dv} {o : Dv → M α} {k : V → Hp → (β → Hp → Prop) → Prop} (h : Sn X.bs W (Rv X) t f)
    (h2 : ∀ (g : Gh) (σ : L2.St) (H : Hp) (S : Sto) (a : Dv) (v : V) (r : Rs α) (Q : β → Hp → Prop), Ok X.bs g H S → Rp X.K g a v → o a S = some r → Post X.bs g R Q (fun c dd H => W c dd σ H) r → k v H Q) :
    Sn X.bs W R (fun σ H Q => t σ H fun v H1 => k v H1 Q) (fun env => do let x ← f env; o x) :=
  Sn.bind (t2 := fun v _ H1 Q => k v H1 Q) (f2 := fun x _ => o x) h fun g σ H env S a b r Q ok en rr e post => h2 g σ H S a b r Q ok rr e post
theorem de_inK {x : Str} {a : Expr} {fa : Env' → M Dv} {kvs : List (Str × Dv)} {p pos : Pos} (h : KTab X.K X.mg X.w x kvs) (ha : DE X W a fa) (hg : Gl X x := by rfl) (hd : (x == ("__debug__" : Str)) = false := by decide) (hm : behindInMarks .In (.Name x p) = false := by rfl) :
    DE X W (.Compare a [.In] [.Name x p] pos) (eBnd fa (inKM kvs false)) := by
  obtain ⟨d, es, n, hmg, D, hv⟩ := h
  obtain ⟨t, pa, s⟩ := ha
  refine ⟨_, pe_cmpR (op_in_kd D) pa (pe_glob (v := .ref d) hg hmg rfl hd) hm, sn_unop (k := fun x H1 Q => ∃ (z : Str) (r : Option Value), x = .str z ∧ V.ref d = .ref d ∧ PySem.W.nsIn X.K d z = some r ∧ Q (V.bl r.isSome) H1) s fun g σ H S a v r Q ok ra e post => ?_⟩
  cases a with
  | str z =>
    cases ra
    have er := pure_some e
    subst er
    obtain ⟨rr, e1, e2, _⟩ := ktab_in D hv z
    refine ⟨z, rr, rfl, rfl, e1, ?_⟩
    rw [e2]
    exact post g _ H (Gh.le_refl g) ok (.bl _)
  | _ => cases e
theorem dt_inK {x : Str} {a : Expr} {fa : Env' → M Dv} {kvs : List (Str × Dv)} {p pos : Pos} (h : KTab X.K X.mg X.w x kvs) (ha : DE X W a fa) (hg : Gl X x := by rfl) (hd : (x == ("__debug__" : Str)) = false := by decide) (hm : behindInMarks .In (.Name x p) = false := by rfl) :
    DT X W (.Compare a [.In] [.Name x p] pos) (tB (eBnd fa (inKM kvs false))) := by
  obtain ⟨d, es, n, hmg, D, hv⟩ := h
  obtain ⟨t, pa, s⟩ := ha
  refine ⟨_, pt_cmpR (op_in_kd D) pa (pe_glob (v := .ref d) hg hmg rfl hd) hm, sn_test (sn_unop (k := fun x H1 Q => ∃ (z : Str) (r : Option Value), x = .str z ∧ V.ref d = .ref d ∧ PySem.W.nsIn X.K d z = some r ∧ Q (V.bl r.isSome) H1) s fun g σ H S a v r Q ok ra e post => ?_)⟩
  cases a with
  | str z =>
    cases ra
    have er := pure_some e
    subst er
    obtain ⟨rr, e1, e2, _⟩ := ktab_in D hv z
    refine ⟨z, rr, rfl, rfl, e1, ?_⟩
    rw [e2]
    exact post g _ H (Gh.le_refl g) ok (.bl _)
  | _ => cases e
def getKM (kvs : List (Str × Dv)) : Dv → M Dv
  | .str z => match kvs.lookup z with
    | some d => pure d
    | none => stuck
  | _ => stuck
theorem de_ixK {x : Str} {b : Expr} {fb : Env' → M Dv} {kvs : List (Str × Dv)} {p pos : Pos} (h : KTab X.K X.mg X.w x kvs) (hb : DE X W b fb) (hg : Gl X x := by rfl) (hd : (x == ("__debug__" : Str)) = false := by decide) (hs : PlainIx b := by exact fun _ _ => rfl) :
    DE X W (.Subscript (.Name x p) b pos) (eBnd fb (getKM kvs)) := by
  obtain ⟨d, es, n, hmg, D, hv⟩ := h
  obtain ⟨t, pb, s⟩ := hb
  refine ⟨_, pe_ix ix_kdict (pe_glob (v := .ref d) hg hmg rfl hd) pb hs, sn_unop (k := fun y H1 Q => rIxD X.K X.w (V.ref d) y H1 Q) s fun g σ H S a v r Q ok ra e post => ?_⟩
  cases a with
  | str z =>
    cases ra
    simp only [getKM] at e
    obtain ⟨rr, e1, e2, e3⟩ := ktab_in D hv z
    cases hl : kvs.lookup z with
    | none => rw [hl] at e; cases e
    | some dd =>
      rw [hl] at e
      have er := pure_some e
      subst er
      obtain ⟨u, vv, rfl, hf⟩ := e3 dd hl
      obtain ⟨k1, k2⟩ := flatK_ok (K := X.K) (g := g) hf
      exact ⟨d, z, vv, rfl, rfl, ⟨es, n, u, D.at_, D.lit, e1, k2⟩, post g vv H (Gh.le_refl g) ok k1⟩
  | _ => cases e
end
section
variable {P : Program} {w : World} {K : PySem.W.Frag} {mg : Str → Option Value} {base : Heap}
/-- a def whose mirror is stuck: nothing is promised -/
theorem fn_stuck {f : Addr} {fd : FuncData} {ps : List Str} {k : Nat} : FnOk P w K mg base (L2.CX P w) k f fd ps (spOf ⟨K, mg⟩ ps.length fun _ => stuck) :=
  ⟨fun vs H Q E h => h.1, fun A outer s H args us vs Q E hr he hb hv hs => by
    obtain ⟨_, g, ds, S, r, _, _, e, _⟩ := hs
    cases e⟩
end
/-- what walk_of promises for the law's def, as a mirror's promise -/
theorem law_sp {B : Bs} {c : List Dv → M Dv} (hlaw : ∀ (ns : List Int), ns.length ≤ 63 → ∃ S', c [.scr (ns.map Dv.int)] [] = some (.ok (.bl true) S')) (vs : List V) (H : Hp) (Q : VK) (E : XK)
    (h : vs.length = 1 ∧ ∃ (a : Addr) (ns : List Int), vs = [.ref a] ∧ ns.length ≤ 63 ∧ SqL B.K H a (ns.map V.int) ∧ (∀ H', Q (.bl true) H')) : spOf B 1 c vs H Q E := by
  obtain ⟨h1, a, ns, rfl, hl, hq, hQ⟩ := h
  obtain ⟨S', e⟩ := hlaw ns hl
  have ok : Ok B ⟨H, [], []⟩ H [] := {
    fz := fun _ _ e => e
    len := rfl
    cel := fun n c a e => by simp at e
    nf := fun n c a e => by simp at e
    inj := fun i j a e => by simp at e
    pvt := fun p hp => by simp at hp }
  refine ⟨h1, ⟨H, [], []⟩, [.scr (ns.map Dv.int)], [], _, ok, .cons (.scr hq (Rps.ints ns)) .nil, e, fun g' v H' _ _ rv => ?_⟩
  cases rv
  exact hQ H'
end ML

namespace ML
open PySem PySem.Spec PyProof.Rows L2

/-! ### reading the mirrors -/
def Wm {α : Type} (m : M α) (S : Sto) (P : Rs α → Prop) : Prop := ∃ r, m S = some r ∧ P r
def wopt {α : Type} (o : Option α) (P : α → Prop) : Prop := ∃ a, o = some a ∧ P a
def bk {α β : Type} (f : α → M β) (P : Rs β → Prop) : Rs α → Prop
  | .ok a S => Wm (f a) S P
  | .er x S => P (.er x S)
def xk {α : Type} (env : Env') (P : So → Prop) (k : α → Sto → Prop) : Rs α → Prop
  | .ok a S => k a S
  | .er x S => P (.er x env S)
def Ws (f : SF) (env : Env') (S : Sto) (P : So → Prop) : Prop := ∃ o, f env S = some o ∧ P o
def sk (h : SF) (P : So → Prop) : So → Prop
  | .nx env S => Ws h env S P
  | o => P o
@[simp] theorem bk_ok {α β : Type} {f : α → M β} {P : Rs β → Prop} {a : α} {S : Sto} : bk f P (.ok a S) = Wm (f a) S P := rfl
@[simp] theorem bk_er {α β : Type} {f : α → M β} {P : Rs β → Prop} {a : Exn} {S : Sto} : bk f P (.er a S) = P (.er a S) := rfl
@[simp] theorem xk_ok {α : Type} {env : Env'} {P : So → Prop} {k : α → Sto → Prop} {a : α} {S : Sto} : xk env P k (.ok a S) = k a S := rfl
@[simp] theorem xk_er {α : Type} {env : Env'} {P : So → Prop} {k : α → Sto → Prop} {a : Exn} {S : Sto} : xk env P k (.er a S) = P (.er a env S) := rfl
@[simp] theorem sk_nx {h : SF} {P : So → Prop} {env : Env'} {S : Sto} : sk h P (.nx env S) = Ws h env S P := rfl
@[simp] theorem sk_rt {h : SF} {P : So → Prop} {d : Dv} {S : Sto} : sk h P (.rt d S) = P (.rt d S) := rfl
@[simp] theorem sk_bk {h : SF} {P : So → Prop} {env : Env'} {S : Sto} : sk h P (.bk env S) = P (.bk env S) := rfl
@[simp] theorem sk_ct {h : SF} {P : So → Prop} {env : Env'} {S : Sto} : sk h P (.ct env S) = P (.ct env S) := rfl
@[simp] theorem sk_er {h : SF} {P : So → Prop} {env : Env'} {S : Sto} {x : Exn} : sk h P (.er x env S) = P (.er x env S) := rfl
@[simp] theorem wopt_some {α : Type} {a : α} {P : α → Prop} : wopt (some a) P ↔ P a := ⟨fun ⟨_, e, h⟩ => by cases e; exact h, fun h => ⟨a, rfl, h⟩⟩
@[simp] theorem wopt_none {α : Type} {P : α → Prop} : wopt (none : Option α) P ↔ False := ⟨fun ⟨_, e, _⟩ => (by cases e), False.elim⟩
@[simp] theorem wopt_ite {α : Type} {c : Prop} {_ : Decidable c} {o : Option α} {P : α → Prop} : wopt (if c then o else none) P ↔ c ∧ wopt o P := by
  by_cases h : c
  · simp [h]
  · simp [h]
/-- o, if c holds -/
noncomputable def gd {α : Type} (c : Prop) (o : Option α) : Option α := @ite _ c (Classical.propDecidable c) o none
theorem gd_if {α : Type} {c : Prop} [Decidable c] {o o' : Option α} (h : o' = if c then o else none) : o' = gd c o := by
  rw [h]
  unfold gd
  by_cases hc : c <;> simp [hc]
@[simp] theorem wopt_gd {α : Type} {c : Prop} {o : Option α} {P : α → Prop} : wopt (gd c o) P ↔ c ∧ wopt o P := by
  unfold gd
  by_cases h : c <;> simp [h]
@[simp] theorem wopt_map {α β : Type} {o : Option α} {f : α → β} {P : β → Prop} : wopt (o.map f) P ↔ wopt o fun a => P (f a) := by
  cases o <;> simp
@[simp] theorem wopt_bind {α β : Type} {o : Option α} {f : α → Option β} {P : β → Prop} : wopt (o.bind f) P ↔ wopt o fun a => wopt (f a) P := by
  cases o <;> simp
@[simp] theorem wm_pure {α : Type} {a : α} {S : Sto} {P : Rs α → Prop} : Wm (pure a) S P ↔ P (.ok a S) := ⟨fun ⟨_, e, h⟩ => by cases e; exact h, fun h => ⟨_, rfl, h⟩⟩
@[simp] theorem wm_mpure {α : Type} {a : α} {S : Sto} {P : Rs α → Prop} : Wm (M.pure a) S P ↔ P (.ok a S) := wm_pure
@[simp] theorem wm_bind {α β : Type} {x : M α} {f : α → M β} {S : Sto} {P : Rs β → Prop} : Wm (x >>= f) S P ↔ Wm x S (bk f P) := by
  unfold Wm
  have hb : (x >>= f) S = M.bind x f S := rfl
  rw [hb]
  unfold M.bind
  cases x S with
  | none => simp
  | some r => cases r with
    | ok a S' => simp [Wm]
    | er e S' => simp
@[simp] theorem wm_stuck {α : Type} {S : Sto} {P : Rs α → Prop} : Wm (stuck : M α) S P ↔ False := ⟨fun ⟨_, e, _⟩ => (by cases e), False.elim⟩
@[simp] theorem wm_lift0 {α : Type} {o : Sto → Option α} {S : Sto} {P : Rs α → Prop} : Wm (lift0 o) S P ↔ wopt (o S) fun a => P (.ok a S) := by
  unfold Wm lift0
  cases o S <;> simp
@[simp] theorem wm_op2 {o : Sto → Dv → Dv → Option Dv} {a b : Dv} {S : Sto} {P : Rs Dv → Prop} : Wm (op2 o a b) S P ↔ wopt (o S a b) fun a => P (.ok a S) := wm_lift0
@[simp] theorem wm_opA {o : Sto → List Dv → Option Dv} {ds : List Dv} {S : Sto} {P : Rs Dv → Prop} : Wm (opA o ds) S P ↔ wopt (o S ds) fun a => P (.ok a S) := wm_lift0
@[simp] theorem wm_opM {o : Sto → Dv → List Dv → Option Dv} {a : Dv} {ds : List Dv} {S : Sto} {P : Rs Dv → Prop} : Wm (opM o a ds) S P ↔ wopt (o S a ds) fun a => P (.ok a S) := wm_lift0
@[simp] theorem wm_truM {a : Dv} {S : Sto} {P : Rs Bool → Prop} : Wm (truM a) S P ↔ wopt (truD S a) fun a => P (.ok a S) := wm_lift0
@[simp] theorem wm_ite {α : Type} {c : Prop} {_ : Decidable c} {a b : M α} {S : Sto} {P : Rs α → Prop} : Wm (if c then a else b) S P ↔ if c then Wm a S P else Wm b S P := by
  by_cases h : c <;> simp [h]
@[simp] theorem wm_getv {i : Nat} {env : Env'} {S : Sto} {P : Rs Dv → Prop} : Wm (getv i env) S P ↔ wopt env[i]? fun o => wopt o fun d => P (.ok d S) := by
  unfold getv
  cases env[i]? with
  | none => simp
  | some o => cases o <;> simp
@[simp] theorem wm_eC {d : Dv} {env : Env'} {S : Sto} {P : Rs Dv → Prop} : Wm (eC d env) S P ↔ P (.ok d S) := wm_pure
theorem wm_eq {α : Type} {m : M α} {S : Sto} {r : Rs α} {P : Rs α → Prop} (h : m S = some r) : Wm m S P ↔ P r := by
  unfold Wm
  rw [h]
  simp
theorem wm_run {α : Type} {m : M α} {S : Sto} {r : Rs α} (h : Wm m S fun q => q = r) : m S = some r := by
  obtain ⟨q, e, rfl⟩ := h
  exact e
theorem Wm.imp {α : Type} {m : M α} {S : Sto} {P Q : Rs α → Prop} (h : Wm m S P) (k : ∀ r, P r → Q r) : Wm m S Q := let ⟨r, e, p⟩ := h; ⟨r, e, k r p⟩
theorem Ws.imp {f : SF} {env : Env'} {S : Sto} {P Q : So → Prop} (h : Ws f env S P) (k : ∀ r, P r → Q r) : Ws f env S Q := let ⟨r, e, p⟩ := h; ⟨r, e, k r p⟩
@[simp] theorem wm_chkT {T : String} {d : Dv} {S : Sto} {P : Rs Unit → Prop} : Wm (chkT T d) S P ↔ tyD S d T = true ∧ P (.ok () S) := by
  unfold Wm chkT
  by_cases h : tyD S d T = true <;> simp [h]
@[simp] theorem wm_mkT {ds : List Dv} {S : Sto} {P : Rs Dv → Prop} : Wm (mkT ds) S P ↔ ds.length ≤ sizeLine ∧ P (.ok (.tup ds) S) := by
  unfold Wm mkT
  by_cases h : ds.length ≤ sizeLine <;> simp [h]
@[simp] theorem wm_mkL {ds : List Dv} {S : Sto} {P : Rs Dv → Prop} : Wm (mkL ds) S P ↔ ds.length ≤ sizeLine ∧ P (.ok (.lst ds) S) := by
  unfold Wm mkL
  by_cases h : ds.length ≤ sizeLine <;> simp [h]
@[simp] theorem wm_mkC {ds : List Dv} {S : Sto} {P : Rs Dv → Prop} : Wm (mkC ds) S P ↔ ds.length ≤ sizeLine ∧ P (.ok (.ref S.length) (S ++ [.lst ds])) := by
  unfold Wm mkC
  by_cases h : ds.length ≤ sizeLine <;> simp [h]
@[simp] theorem wm_append {a d : Dv} {S : Sto} {P : Rs Dv → Prop} : Wm (appendM a [d]) S P ↔ wopt (cellL S a) fun p => p.2.length < sizeLine ∧ P (.ok .non (S.set p.1 (.lst (p.2 ++ [d])))) := by
  unfold Wm appendM
  cases cellL S a with
  | none => simp
  | some p => by_cases h : p.2.length < sizeLine <;> simp [h]
@[simp] theorem wm_rng1 {j : Int} {S : Sto} {P : Rs Sr → Prop} : Wm (rng1M [.int j]) S P ↔ (-(2 ^ 62) ≤ j ∧ j < 2 ^ 62) ∧ P (.ok (fun _ => some ((List.range j.toNat).map fun i : Nat => .int (0 + i))) S) := by
  unfold rng1M
  by_cases h : -(2 ^ 62) ≤ j ∧ j < 2 ^ 62 <;> simp [h]
@[simp] theorem wm_rng2 {i j : Int} {S : Sto} {P : Rs Sr → Prop} : Wm (rng2M [.int i, .int j]) S P ↔ (-(2 ^ 62) ≤ i ∧ i < 2 ^ 62 ∧ -(2 ^ 62) ≤ j ∧ j < 2 ^ 62) ∧ P (.ok (fun _ => some ((List.range (j - i).toNat).map fun k : Nat => .int (i + k))) S) := by
  unfold rng2M
  by_cases h : -(2 ^ 62) ≤ i ∧ i < 2 ^ 62 ∧ -(2 ^ 62) ≤ j ∧ j < 2 ^ 62 <;> simp [h]
@[simp] theorem wm_asB {b : Bool} {S : Sto} {P : Rs Bool → Prop} : Wm (asB (.bl b)) S P ↔ P (.ok b S) := by
  unfold asB; exact wm_pure
@[simp] theorem wm_asI {b : Int} {S : Sto} {P : Rs Int → Prop} : Wm (asI (.int b)) S P ↔ P (.ok b S) := by
  unfold asI; exact wm_pure
@[simp] theorem wm_slL {l : List Dv} {lo hi : Option Int} {S : Sto} {P : Rs Dv → Prop} : Wm (slD (.lst l) lo hi) S P ↔ P (.ok (.lst (cutG l lo hi)) S) := by
  unfold slD Wm; simp [listOf, ownOf]
@[simp] theorem wm_slScr {l : List Dv} {lo hi : Option Int} {S : Sto} {P : Rs Dv → Prop} : Wm (slD (.scr l) lo hi) S P ↔ P (.ok (.lst (cutG l lo hi)) S) := by
  unfold slD Wm; simp [listOf, ownOf]
@[simp] theorem wm_slRef {n : Nat} {lo hi : Option Int} {S : Sto} {P : Rs Dv → Prop} : Wm (slD (.ref n) lo hi) S P ↔ wopt (listOf S (.ref n)) fun l => P (.ok (.lst (cutG l lo hi)) S) := by
  unfold slD Wm; dsimp only; cases listOf S (.ref n) <;> simp
@[simp] theorem wm_slT {l : List Dv} {lo hi : Option Int} {S : Sto} {P : Rs Dv → Prop} : Wm (slD (.tup l) lo hi) S P ↔ P (.ok (.tup (cutG l lo hi)) S) := by
  unfold slD; simp
@[simp] theorem wm_slS {z : Str} {lo hi : Option Int} {S : Sto} {P : Rs Dv → Prop} : Wm (slD (.str z) lo hi) S P ↔ z.length ≤ sizeLine ∧ P (.ok (.str (cutS z lo hi)) S) := by
  unfold slD; by_cases h : z.length ≤ sizeLine <;> simp [h]
@[simp] theorem wm_slC {d : Dv} {lo hi : Option Int} {S : Sto} {P : Rs Dv → Prop} : Wm (slC d lo hi) S P ↔ wopt (listOf S d) fun l => P (.ok (.ref S.length) (S ++ [.lst (cutG l lo hi)])) := by
  unfold slC Wm; dsimp only; cases listOf S d <;> simp
@[simp] theorem wm_srcL {l : List Dv} {S : Sto} {P : Rs Sr → Prop} : Wm (srcOf (.lst l)) S P ↔ P (.ok (fun _ => some l) S) := by unfold srcOf; simp
@[simp] theorem wm_srcScr {l : List Dv} {S : Sto} {P : Rs Sr → Prop} : Wm (srcOf (.scr l)) S P ↔ P (.ok (fun _ => some l) S) := by unfold srcOf; simp
@[simp] theorem wm_srcT {l : List Dv} {S : Sto} {P : Rs Sr → Prop} : Wm (srcOf (.tup l)) S P ↔ P (.ok (fun _ => some l) S) := by unfold srcOf; simp
@[simp] theorem wm_srcS {z : Str} {S : Sto} {P : Rs Sr → Prop} : Wm (srcOf (.str z)) S P ↔ P (.ok (fun _ => some (z.cps.toList.map fun c => .str ⟨#[c]⟩)) S) := by unfold srcOf; simp
theorem wm_srcRef {n : Nat} {l : List Dv} {S : Sto} {P : Rs Sr → Prop} (h : S[n]? = some (.lst l)) : Wm (srcOf (.ref n)) S P ↔ P (.ok (fun S => listOf S (.ref n)) S) := by
  unfold srcOf Wm
  simp [h]

/-! statements -/
@[simp] theorem ws_nil {env : Env'} {S : Sto} {P : So → Prop} : Ws sNil env S P ↔ P (.nx env S) := by unfold Ws sNil; simp
@[simp] theorem ws_seq {f h : SF} {env : Env'} {S : Sto} {P : So → Prop} : Ws (sSeq f h) env S P ↔ Ws f env S (sk h P) := by
  unfold Ws sSeq
  cases f env S with
  | none => simp
  | some o => cases o <;> simp [sk, Ws]
theorem exS_iff {α : Type} {env : Env'} {S : Sto} {m : M α} {k : α → Sto → Option So} {P : So → Prop} : (∃ o, exS env (m S) k = some o ∧ P o) ↔ Wm m S (xk env P fun a S' => ∃ o, k a S' = some o ∧ P o) := by
  unfold Wm exS
  cases m S with
  | none => simp
  | some r => cases r <;> simp
@[simp] theorem ws_set {i : Nat} {f : Env' → M Dv} {env : Env'} {S : Sto} {P : So → Prop} : Ws (sSet i f) env S P ↔ Wm (f env) S (xk env P fun d S' => P (.nx (env.set i (some d)) S')) := by
  refine (exS_iff (m := f env)).trans ?_
  simp
@[simp] theorem ws_exp {f : Env' → M Dv} {env : Env'} {S : Sto} {P : So → Prop} : Ws (sExp f) env S P ↔ Wm (f env) S (xk env P fun _ S' => P (.nx env S')) := by
  refine (exS_iff (m := f env)).trans ?_
  simp
@[simp] theorem ws_ret {f : Env' → M Dv} {env : Env'} {S : Sto} {P : So → Prop} : Ws (sRet f) env S P ↔ Wm (f env) S (xk env P fun d S' => P (.rt d S')) := by
  refine (exS_iff (m := f env)).trans ?_
  simp
@[simp] theorem ws_retN {env : Env'} {S : Sto} {P : So → Prop} : Ws sRetN env S P ↔ P (.rt .non S) := by unfold Ws sRetN; simp
@[simp] theorem ws_brk {env : Env'} {S : Sto} {P : So → Prop} : Ws sBrk env S P ↔ P (.bk env S) := by unfold Ws sBrk; simp
@[simp] theorem ws_cnt {env : Env'} {S : Sto} {P : So → Prop} : Ws sCnt env S P ↔ P (.ct env S) := by unfold Ws sCnt; simp
@[simp] theorem ws_if {f : Env' → M Bool} {a b : SF} {env : Env'} {S : Sto} {P : So → Prop} : Ws (sIf f a b) env S P ↔ Wm (f env) S (xk env P fun k S' => if k = true then Ws a env S' P else Ws b env S' P) := by
  refine (exS_iff (m := f env)).trans ?_
  have e : (fun (k : Bool) S' => ∃ o, (if k = true then a env S' else b env S') = some o ∧ P o) = fun k S' => if k = true then Ws a env S' P else Ws b env S' P := by
    funext k S'
    cases k <;> simp [Ws]
  rw [e]
theorem xk_congr {α : Type} {m : M α} {S : Sto} {env : Env'} {P : So → Prop} {k k' : α → Sto → Prop} (h : ∀ a S', k a S' ↔ k' a S') : Wm m S (xk env P k) ↔ Wm m S (xk env P k') := by
  have e : k = k' := by
    funext a S'
    exact propext (h a S')
  rw [e]
def okK {α : Type} (Q : α → Sto → Prop) : Rs α → Prop
  | .ok e s => Q e s
  | .er _ _ => False
@[simp] theorem okK_ok {α : Type} {Q : α → Sto → Prop} {e : α} {s : Sto} : okK Q (.ok e s) = Q e s := rfl
@[simp] theorem ws_asg {gf : Dv → Env' → M Env'} {f : Env' → M Dv} {env : Env'} {S : Sto} {P : So → Prop} : Ws (sAsg gf f) env S P ↔ Wm (f env) S (xk env P fun d S' => Wm (gf d env) S' (okK fun e S2 => P (.nx e S2))) := by
  refine (exS_iff (m := f env)).trans (xk_congr fun d S' => ?_)
  unfold Wm
  cases gf d env S' with
  | none => simp
  | some r => cases r with
    | ok e s => simp
    | er x s => simp [okK]
theorem ws_for {fi : Env' → M Sr} {gf : Dv → Env' → M Env'} {body : SF} {env : Env'} {S : Sto} {P : So → Prop} : Ws (sFor fi gf body) env S P ↔ Wm (fi env) S (xk env P fun src S' => wopt (src S') fun l => Ws (forL src l gf body l) env S' P) := by
  refine (exS_iff (m := fi env)).trans (xk_congr fun src S' => ?_)
  cases src S' with
  | none => simp
  | some l => simp [Ws]
/-- one turn of a loop ends so -/
def turn (I : Env' → Sto → Prop) (R : So → Prop) : So → Prop
  | .nx e s => I e s
  | .ct e s => I e s
  | .bk e s => R (.nx e s)
  | o => R o
@[simp] theorem turn_nx {I : Env' → Sto → Prop} {R : So → Prop} {e : Env'} {s : Sto} : turn I R (.nx e s) = I e s := rfl
@[simp] theorem turn_ct {I : Env' → Sto → Prop} {R : So → Prop} {e : Env'} {s : Sto} : turn I R (.ct e s) = I e s := rfl
@[simp] theorem turn_bk {I : Env' → Sto → Prop} {R : So → Prop} {e : Env'} {s : Sto} : turn I R (.bk e s) = R (.nx e s) := rfl
@[simp] theorem turn_rt {I : Env' → Sto → Prop} {R : So → Prop} {e : Dv} {s : Sto} : turn I R (.rt e s) = R (.rt e s) := rfl
@[simp] theorem turn_er {I : Env' → Sto → Prop} {R : So → Prop} {e : Env'} {s : Sto} {x : Exn} : turn I R (.er x e s) = R (.er x e s) := rfl
theorem forL_inv {src : Sr} {l0 : List Dv} {gf : Dv → Env' → M Env'} {body : SF} {R : So → Prop} (I : Nat → Env' → Sto → Prop) : ∀ (l : List Dv) (k : Nat) (env : Env') (S : Sto), l0.drop k = l →
    (hs : ∀ k env S, I k env S → src S = some l0) → (step : ∀ k d env S, l0[k]? = some d → I k env S → Wm (gf d env) S fun r => match r with
      | .ok e s => Ws body e s (turn (I (k + 1)) R)
      | _ => False) → (fin : ∀ env S, I l0.length env S → R (.nx env S)) → k ≤ l0.length → I k env S → Ws (forL src l0 gf body l) env S R
  | [], k, env, S, hd, hs, step, fin, hk, h => by
    refine ⟨.nx env S, ?_, ?_⟩
    · unfold forL
      rw [if_pos (hs k env S h)]
    · have : k = l0.length := by
        have := List.drop_eq_nil_iff.mp hd
        omega
      subst this
      exact fin env S h
  | d :: r, k, env, S, hd, hs, step, fin, hk, h => by
    have hk' : k < l0.length := by
      rcases Nat.lt_or_ge k l0.length with h | h
      · exact h
      · rw [List.drop_eq_nil_of_le h] at hd
        cases hd
    have hget : l0[k]? = some d := by
      have := List.drop_eq_getElem_cons hk'
      rw [hd] at this
      rw [List.getElem?_eq_getElem hk', (List.cons.inj this).1]
    have hdr : l0.drop (k + 1) = r := by
      have := List.drop_eq_getElem_cons hk'
      rw [hd] at this
      exact (List.cons.inj this).2.symm
    obtain ⟨q, e1, p⟩ := step k d env S hget h
    cases q with
    | er x s => exact p.elim
    | ok env1 S1 =>
      obtain ⟨o, e2, t⟩ := p
      have ih := fun env S => forL_inv I r (k + 1) env S hdr hs step fin hk'
      unfold Ws at ih ⊢
      unfold forL
      rw [if_pos (hs k env S h), e1]
      dsimp only
      rw [e2]
      cases o with
      | nx e s => exact ih e s t
      | ct e s => exact ih e s t
      | bk e s => exact ⟨_, rfl, t⟩
      | rt d s => exact ⟨_, rfl, t⟩
      | er x e s => exact ⟨_, rfl, t⟩
/-- a for over a source that stands still -/
theorem for_inv {l : List Dv} {gf : Dv → Env' → M Env'} {body : SF} {R : So → Prop} {env : Env'} {S : Sto} (I : Nat → Env' → Sto → Prop) (h0 : I 0 env S)
    (step : ∀ k d env S, l[k]? = some d → I k env S → Wm (gf d env) S fun r => match r with
      | .ok e s => Ws body e s (turn (I (k + 1)) R)
      | _ => False) (fin : ∀ env S, I l.length env S → R (.nx env S)) : Ws (forL (fun _ => some l) l gf body l) env S R :=
  forL_inv I l 0 env S rfl (fun _ _ _ _ => rfl) step fin (Nat.zero_le _) h0
def wk (T F : Sto → Prop) (E : Exn → Sto → Prop) : Rs Bool → Prop
  | .ok b s => if b = true then T s else F s
  | .er x s => E x s
@[simp] theorem wk_ok {T F : Sto → Prop} {E : Exn → Sto → Prop} {b : Bool} {s : Sto} : wk T F E (.ok b s) = if b = true then T s else F s := rfl
theorem while_inv {fc : Env' → M Bool} {body : SF} {R : So → Prop} (I : Nat → Env' → Sto → Prop)
    (step : ∀ k env S, I k env S → Wm (fc env) S (wk (fun s => ∃ j, k = j + 1 ∧ Ws body env s (turn (I j) R)) (fun s => R (.nx env s)) fun x s => R (.er x env s))) : ∀ (k fuel : Nat) (env : Env') (S : Sto), k < fuel → I k env S → Ws (whileL fc body fuel) env S R
  | k, 0, _, _, h, _ => by omega
  | k, n + 1, env, S, h, i => by
    obtain ⟨r, e, p⟩ := step k env S i
    unfold Ws whileL
    rw [e]
    cases r with
    | er x s => exact ⟨_, rfl, p⟩
    | ok b s =>
      cases b with
      | false => exact ⟨.nx env s, by simp [exS], p⟩
      | true =>
        obtain ⟨j, rfl, o, e2, t⟩ := p
        have ih := fun env S => while_inv I step j n env S (by omega)
        unfold Ws at ih
        simp only [exS, if_true, e2]
        cases o with
        | nx e s => exact ih e s t
        | ct e s => exact ih e s t
        | bk e s => exact ⟨_, rfl, t⟩
        | rt d s => exact ⟨_, rfl, t⟩
        | er x e s => exact ⟨_, rfl, t⟩
/-- the list of a comprehension whose entries leave the store as it is -/
theorem compL_eq {src : Sr} {l0 : List Dv} {el : Dv → M (Option Dv)} {S : Sto} {f : Dv → Option Dv} (hs : src S = some l0) : ∀ (l acc : List Dv), (∀ d ∈ l, el d S = some (.ok (f d) S)) → acc.length + l.length ≤ sizeLine →
    compL src l0 el l acc S = some (.ok (acc ++ l.filterMap f) S)
  | [], acc, _, _ => by
    unfold compL
    rw [if_pos hs, List.filterMap_nil, List.append_nil]
  | d :: r, acc, he, hl => by
    unfold compL
    rw [if_pos hs, he d List.mem_cons_self]
    rw [List.length_cons] at hl
    cases hf : f d with
    | none =>
      dsimp only
      rw [compL_eq hs r acc (fun d hd => he d (List.mem_cons_of_mem _ hd)) (by omega), List.filterMap_cons_none hf]
    | some y =>
      dsimp only
      rw [if_pos (by omega), compL_eq hs r (acc ++ [y]) (fun d hd => he d (List.mem_cons_of_mem _ hd)) (by rw [List.length_append, List.length_singleton]; omega), List.filterMap_cons_some hf, List.append_assoc]
      rfl
theorem lcF_at {fi : Env' → M Sr} {vs : List Nat} {gf : Dv → Env' → M Env'} {ft : Env' → M Bool} {fe : Env' → M Dv} {env : Env'} {S : Sto} {P : Rs Dv → Prop} {src : Sr} {l : List Dv} (f : Dv → Option Dv)
    (hi : fi env S = some (.ok src S)) (hs : src S = some l) (hl : l.length ≤ sizeLine) (he : ∀ d ∈ l, elM vs gf ft fe env d S = some (.ok (f d) S)) : Wm (lcF fi vs gf ft fe env) S P ↔ P (.ok (.lst (l.filterMap f)) S) := by
  refine wm_eq ?_
  unfold lcF
  show M.bind _ _ S = _
  unfold M.bind
  rw [hi]
  dsimp only
  unfold compM
  rw [hs]
  dsimp only
  rw [compL_eq hs l [] he (by simpa using hl), List.nil_append]
  rfl
theorem lcC_at {fi : Env' → M Sr} {vs : List Nat} {gf : Dv → Env' → M Env'} {ft : Env' → M Bool} {fe : Env' → M Dv} {env : Env'} {S : Sto} {P : Rs Dv → Prop} {src : Sr} {l : List Dv} (f : Dv → Option Dv)
    (hi : fi env S = some (.ok src S)) (hs : src S = some l) (hl : l.length ≤ sizeLine) (he : ∀ d ∈ l, elM vs gf ft fe env d S = some (.ok (f d) S)) : Wm (lcC fi vs gf ft fe env) S P ↔ P (.ok (.ref S.length) (S ++ [.lst (l.filterMap f)])) := by
  refine wm_eq ?_
  unfold lcC
  show M.bind _ _ S = _
  unfold M.bind
  rw [hi]
  dsimp only
  unfold compM
  rw [hs]
  dsimp only
  rw [compL_eq hs l [] he (by simpa using hl), List.nil_append]
  rfl
/-! defs -/
def dk (frz : Bool) (S : Sto) (P : Rs Dv → Prop) : So → Prop
  | .nx _ S' => P (.ok .non (gcS S.length .non S'))
  | .rt d S' => P (leaveD frz S.length d S')
  | .er x _ S' => P (.er x S')
  | _ => False
@[simp] theorem dk_nx {frz : Bool} {S S' : Sto} {P : Rs Dv → Prop} {env : Env'} : dk frz S P (.nx env S') = P (.ok .non (gcS S.length .non S')) := rfl
@[simp] theorem dk_rt {frz : Bool} {S S' : Sto} {P : Rs Dv → Prop} {d : Dv} : dk frz S P (.rt d S') = P (leaveD frz S.length d S') := rfl
@[simp] theorem dk_er {frz : Bool} {S S' : Sto} {P : Rs Dv → Prop} {env : Env'} {x : Exn} : dk frz S P (.er x env S') = P (.er x S') := rfl
@[simp] theorem dk_bk {frz : Bool} {S S' : Sto} {P : Rs Dv → Prop} {env : Env'} : dk frz S P (.bk env S') = False := rfl
@[simp] theorem dk_ct {frz : Bool} {S S' : Sto} {P : Rs Dv → Prop} {env : Env'} : dk frz S P (.ct env S') = False := rfl
theorem wm_def {frz : Bool} {n : Nat} {body : SF} {ds : List Dv} {S : Sto} {P : Rs Dv → Prop} : Wm (defM frz n body ds) S P ↔ Ws body (start' n ds) S (dk frz S P) := by
  unfold Wm Ws defM
  cases body (start' n ds) S with
  | none => simp
  | some o => cases o <;> simp
theorem gcS_self {d : Dv} {S : Sto} : gcS S.length d S = S := by
  unfold gcS
  split
  · rw [List.take_length]
  · rfl
theorem frz1_self {S : Sto} {d : Dv} : frz1 S.length d S = (d, S) := by
  cases d with
  | ref n =>
    unfold frz1
    dsimp only
    split
    · rename_i h
      rw [List.getElem?_eq_none h]
    · rfl
  | _ => rfl
theorem frzL_self {S : Sto} : ∀ {l : List Dv}, frzL S.length l S = (l, S)
  | [] => rfl
  | d :: r => by
    unfold frzL
    rw [frz1_self]
    dsimp only
    rw [frzL_self (l := r)]
theorem frzD_self {S : Sto} {d : Dv} : frzD S.length d S = (d, S) := by
  cases d with
  | tup l =>
    show ((.tup (frzL S.length l S).1, (frzL S.length l S).2) : Dv × Sto) = _
    rw [frzL_self]
  | non => exact frz1_self (d := .non)
  | bl b => exact frz1_self (d := .bl b)
  | int b => exact frz1_self (d := .int b)
  | str b => exact frz1_self (d := .str b)
  | lst b => exact frz1_self (d := .lst b)
  | scr b => exact frz1_self (d := .scr b)
  | ref b => exact frz1_self (d := .ref b)
  | ty b => exact frz1_self (d := .ty b)
  | exc b => exact frz1_self (d := .exc b)
theorem leaveD_self {frz : Bool} {S : Sto} {d : Dv} (h : ∀ n, d ≠ .ref n) : leaveD frz S.length d S = .ok d S := by
  unfold leaveD
  rw [frzD_self]
  cases frz <;> simp [gcS_self]
theorem frz1_below {n : Nat} {S : Sto} {d : Dv} (h : below n d = true) : frz1 n d S = (d, S) := by
  cases d with
  | ref k =>
    have hk : k < n := of_decide_eq_true h
    unfold frz1
    dsimp only
    rw [if_neg (by omega)]
  | _ => rfl
theorem frzL_below {n : Nat} {S : Sto} : ∀ {l : List Dv}, belows n l = true → frzL n l S = (l, S)
  | [], _ => rfl
  | d :: r, h => by
    unfold belows at h
    rw [Bool.and_eq_true] at h
    unfold frzL
    rw [frz1_below h.1]
    dsimp only
    rw [frzL_below h.2]
theorem frzD_below {n : Nat} {S : Sto} {d : Dv} (h : below n d = true) : frzD n d S = (d, S) := by
  cases d with
  | tup l =>
    have h : belows n l = true := h
    show ((.tup (frzL n l S).1, (frzL n l S).2) : Dv × Sto) = _
    rw [frzL_below h]
  | non => rfl
  | bl b => rfl
  | int b => rfl
  | str b => rfl
  | lst b => rfl
  | scr b => rfl
  | ref b => exact frz1_below (d := .ref b) h
  | ty b => rfl
  | exc b => rfl
@[simp] theorem leaveD_bl {frz : Bool} {S : Sto} {b : Bool} : leaveD frz S.length (.bl b) S = .ok (.bl b) S := leaveD_self (by intro n; nofun)
@[simp] theorem leaveD_int {frz : Bool} {S : Sto} {b : Int} : leaveD frz S.length (.int b) S = .ok (.int b) S := leaveD_self (by intro n; nofun)
@[simp] theorem leaveD_str {frz : Bool} {S : Sto} {b : Str} : leaveD frz S.length (.str b) S = .ok (.str b) S := leaveD_self (by intro n; nofun)
@[simp] theorem leaveD_lst {frz : Bool} {S : Sto} {b : List Dv} : leaveD frz S.length (.lst b) S = .ok (.lst b) S := leaveD_self (by intro n; nofun)
@[simp] theorem leaveD_tup {frz : Bool} {S : Sto} {b : List Dv} : leaveD frz S.length (.tup b) S = .ok (.tup b) S := leaveD_self (by intro n; nofun)
@[simp] theorem leaveD_non {frz : Bool} {S : Sto} : leaveD frz S.length .non S = .ok .non S := leaveD_self (by intro n; nofun)
/-- a list's own cell handed back -/
theorem leaveD_new {S T : Sto} {l : List Dv} (hb : belows S.length l = true) (hS : S.all (belowC S.length) = true) : leaveD true S.length (.ref S.length) (S ++ .lst l :: T) = .ok (.lst l) S := by
  unfold leaveD frzD frz1
  simp only [if_true, Nat.le_refl]
  rw [List.getElem?_append_right (Nat.le_refl _), Nat.sub_self]
  simp only [List.getElem?_cons_zero]
  unfold gcS
  have : (List.take S.length ((S ++ Cell.lst l :: T).set S.length .dead)) = S := by
    rw [List.take_set]
    rw [List.take_left, List.set_eq_of_length_le (Nat.le_refl _)]
  rw [this, if_pos]
  exact ⟨by simpa [below] using hb, hS⟩
/-- cells made inside are forgotten -/
theorem leaveD_old {S T : Sto} {frz : Bool} {d : Dv} (hn : ∀ n, d ≠ .ref n) (hb : below S.length d = true) (hS : S.all (belowC S.length) = true) : leaveD frz S.length d (S ++ T) = .ok d S := by
  have e : (if frz = true then frzD S.length d (S ++ T) else (d, S ++ T)) = (d, S ++ T) := by
    cases frz with
    | false => rfl
    | true => exact frzD_below hb
  unfold leaveD
  rw [e]
  dsimp only
  unfold gcS
  rw [List.take_left, if_pos ⟨hb, hS⟩]
theorem belows_all {n : Nat} : ∀ {l : List Dv}, (∀ d ∈ l, below n d = true) → belows n l = true
  | [], _ => rfl
  | d :: r, h => by
    unfold belows
    rw [h d List.mem_cons_self, belows_all fun e he => h e (List.mem_cons_of_mem _ he)]
    rfl
theorem belows_ints {n : Nat} {l : List Int} : belows n (l.map .int) = true := belows_all fun d hd => by
  obtain ⟨i, _, rfl⟩ := List.mem_map.mp hd
  rfl
theorem belows_strs {n : Nat} {l : List Str} : belows n (l.map .str) = true := belows_all fun d hd => by
  obtain ⟨i, _, rfl⟩ := List.mem_map.mp hd
  rfl
/-! data -/
@[simp] theorem op_addI {S : Sto} {a b : Int} : addD S (.int a) (.int b) = some (.int (a + b)) := rfl
theorem op_addS {S : Sto} {a b : Str} : addD S (.str a) (.str b) = if a.length + b.length ≤ sizeLine then some (.str (a ++ b)) else none := rfl
@[simp] theorem op_subI {S : Sto} {a b : Int} : subD S (.int a) (.int b) = some (.int (a - b)) := rfl
@[simp] theorem op_fdivI {S : Sto} {a b : Int} : fdivD S (.int a) (.int b) = gd (CDivN a b) (some (.int (a.fdiv b))) := gd_if rfl
@[simp] theorem op_modI {S : Sto} {a b : Int} : modD S (.int a) (.int b) = gd (b ≠ 0) (some (.int (a.fmod b))) := gd_if rfl
@[simp] theorem op_powI {S : Sto} {a b : Int} : powD S (.int a) (.int b) = gd (CPow a b) (some (.int (a ^ b.toNat))) := gd_if rfl
@[simp] theorem op_ltI {S : Sto} {a b : Int} : ltD S (.int a) (.int b) = some (.bl (decide (a < b))) := rfl
@[simp] theorem op_leI {S : Sto} {a b : Int} : leD S (.int a) (.int b) = some (.bl (decide (a ≤ b))) := rfl
@[simp] theorem op_gtI {S : Sto} {a b : Int} : gtD S (.int a) (.int b) = some (.bl (decide (b < a))) := rfl
@[simp] theorem op_geI {S : Sto} {a b : Int} : geD S (.int a) (.int b) = some (.bl (decide (b ≤ a))) := rfl
@[simp] theorem op_mulI {S : Sto} {a b : Int} : mulD S (.int a) (.int b) = gd (CMul a b) (some (.int (a * b))) := gd_if <| by
  unfold mulD mulI onI
  by_cases h : CMul a b
  · simp [h]
  · simp [h, mulS]
theorem shaped_int {i : Int} : SeqAt.shaped (.int i) = true := by
  simp [SeqAt.shaped, PyData.canLay0, PyData.depth]
theorem shaped_bool {i : Bool} : SeqAt.shaped (.bool i) = true := by
  simp [SeqAt.shaped, PyData.canLay0, PyData.depth]
@[simp] theorem op_eqI {S : Sto} {a b : Int} : eqD S (.int a) (.int b) = some (.bl (a == b)) := by
  simp [eqD, eqPy, pyTop, pyOf, shaped_int, PyData.eqv]
@[simp] theorem op_neI {S : Sto} {a b : Int} : neD S (.int a) (.int b) = some (.bl (!(a == b))) := by
  simp [neD, eqPy, pyTop, pyOf, shaped_int, PyData.eqv]
@[simp] theorem op_eqB {S : Sto} {a b : Bool} : eqD S (.bl a) (.bl b) = some (.bl (a == b)) := by
  simp [eqD, eqPy, pyTop, pyOf, shaped_bool, PyData.eqv]
@[simp] theorem op_neB {S : Sto} {a b : Bool} : neD S (.bl a) (.bl b) = some (.bl (!(a == b))) := by
  simp [neD, eqPy, pyTop, pyOf, shaped_bool, PyData.eqv]
theorem shaped_str {x : Str} (h : PyData.strOk x = true) : SeqAt.shaped (.str x) = true := by
  simp [SeqAt.shaped, PyData.canLay0, PyData.depth, h]
theorem op_eqS {S : Sto} {a b : Str} (h : PyData.strOk a = true) (k : PyData.strOk b = true) : eqD S (.str a) (.str b) = some (.bl (a == b)) := by
  simp [eqD, eqPy, pyTop, pyOf, shaped_str, PyData.eqv, h, k]
theorem op_neS {S : Sto} {a b : Str} (h : PyData.strOk a = true) (k : PyData.strOk b = true) : neD S (.str a) (.str b) = some (.bl (!(a == b))) := by
  simp [neD, eqPy, pyTop, pyOf, shaped_str, PyData.eqv, h, k]
theorem pysOf_strs {S : Sto} : ∀ {l : List Str}, pysOf S (l.map .str) = some (l.map .str)
  | [] => rfl
  | a :: r => by simp [pysOf, pyOf, pysOf_strs (l := r)]
theorem pysOf_ints {S : Sto} : ∀ {l : List Int}, pysOf S (l.map .int) = some (l.map .int)
  | [] => rfl
  | a :: r => by simp [pysOf, pyOf, pysOf_ints (l := r)]
theorem canLayAll_strs : ∀ {l : List Str}, (∀ x ∈ l, PyData.strOk x = true) → PyData.canLayAll0 (l.map .str) = true
  | [], _ => rfl
  | a :: r, h => by simp [PyData.canLayAll0, PyData.canLay0, h a, canLayAll_strs (l := r) fun x hx => h x (List.mem_cons_of_mem _ hx)]
theorem depthAll_strs : ∀ {l : List Str}, PyData.depthAll (l.map .str) ≤ 1
  | [] => by simp [PyData.depthAll]
  | a :: r => by
    have := depthAll_strs (l := r)
    simp [PyData.depthAll, PyData.depth]
    omega
theorem shaped_strs {l : List Str} (h : ∀ x ∈ l, PyData.strOk x = true) : SeqAt.shaped (.list (l.map .str)) = true := by
  have := depthAll_strs (l := l)
  simp [SeqAt.shaped, PyData.canLay0, PyData.depth, canLayAll_strs h]
  omega
theorem eqvAll_strs : ∀ {l r : List Str}, PyData.eqvAll (l.map .str) (r.map .str) = decide (l = r)
  | [], [] => by simp [PyData.eqvAll]
  | a :: l, [] => by simp [PyData.eqvAll]
  | [], a :: l => by simp [PyData.eqvAll]
  | a :: l, b :: r => by
    simp only [List.map_cons, PyData.eqvAll, PyData.eqv, eqvAll_strs (l := l) (r := r), List.cons.injEq, Bool.decide_and]
    rfl
theorem pyTop_list {S : Sto} {d : Dv} {l : List Dv} (h : listOf S d = some l) : pyTop S d = (pysOf S l).map .list := by
  cases d with
  | lst l' => cases h; rfl
  | scr l' => cases h; rfl
  | ref n =>
    unfold pyTop
    unfold listOf ownOf at h
    cases q : S[n]? with
    | none => simp [q] at h
    | some c => cases c <;> simp [q] at h ⊢; simp [h]
  | _ => cases h
theorem op_eqLS {S : Sto} {a b : Dv} {l r : List Str} (ha : listOf S a = some (l.map .str)) (hb : listOf S b = some (r.map .str)) (h : ∀ x ∈ l, PyData.strOk x = true) (k : ∀ x ∈ r, PyData.strOk x = true) : eqD S a b = some (.bl (decide (l = r))) := by
  simp [eqD, eqPy, pyTop_list ha, pyTop_list hb, pysOf_strs, shaped_strs h, shaped_strs k, PyData.eqv, eqvAll_strs]
theorem op_neLS {S : Sto} {a b : Dv} {l r : List Str} (ha : listOf S a = some (l.map .str)) (hb : listOf S b = some (r.map .str)) (h : ∀ x ∈ l, PyData.strOk x = true) (k : ∀ x ∈ r, PyData.strOk x = true) : neD S a b = some (.bl (!decide (l = r))) := by
  simp [neD, eqPy, pyTop_list ha, pyTop_list hb, pysOf_strs, shaped_strs h, shaped_strs k, PyData.eqv, eqvAll_strs]
@[simp] theorem cmul_iff {i j : Int} : CMul i j ↔ (-(2 ^ 64) < i ∧ i < 2 ^ 64) ∨ (-(2 ^ 64) < j ∧ j < 2 ^ 64) := Iff.rfl
@[simp] theorem cdiv_iff {i j : Int} : CDivN i j ↔ j ≠ 0 ∧ j.natAbs < 1073741824 := Iff.rfl
@[simp] theorem cpow_iff {i j : Int} : CPow i j ↔ 0 ≤ j ∧ j ≤ 1000000 ∧ i.natAbs < 2 ^ 64 := Iff.rfl
theorem range_at {m i : Nat} {d : Dv} {f : Nat → Dv} (hd : ((List.range m).map f)[i]? = some d) : i < m ∧ d = f i := by
  have hlt : i < m := by
    rcases Nat.lt_or_ge i m with h | h
    · exact h
    · rw [List.getElem?_eq_none (by simpa using h)] at hd
      cases hd
  rw [List.getElem?_map, List.getElem?_range hlt] at hd
  cases hd
  exact ⟨hlt, rfl⟩
theorem map_at {α : Type} {l : List α} {i : Nat} {d : Dv} {f : α → Dv} (hd : (l.map f)[i]? = some d) : ∃ x, l[i]? = some x ∧ x ∈ l ∧ d = f x := by
  rw [List.getElem?_map] at hd
  obtain ⟨x, h1, h2⟩ := Option.map_eq_some_iff.mp hd
  exact ⟨x, h1, List.mem_of_getElem? h1, h2.symm⟩
theorem szl : sizeLine = 16777216 := by decide
/-! the words, spelt out -/
@[simp] theorem at_eOp (o : Sto → Dv → Dv → Option Dv) (fa fb : Env' → M Dv) (env : Env') : eOp o fa fb env = (do let x ← fa env; let y ← fb env; op2 o x y) := rfl
@[simp] theorem at_tB (f : Env' → M Dv) (env : Env') : tB f env = (do let x ← f env; asB x) := rfl
@[simp] theorem at_tTru (f : Env' → M Dv) (env : Env') : tTru f env = (do let d ← f env; truM d) := rfl
@[simp] theorem at_tAnd2 (fa fb : Env' → M Bool) (env : Env') : tAnd2 fa fb env = (do let k ← fa env; if k = true then fb env else pure false) := rfl
@[simp] theorem at_tOr2 (fa fb : Env' → M Bool) (env : Env') : tOr2 fa fb env = (do let k ← fa env; if k = true then pure true else fb env) := rfl
@[simp] theorem at_tNot1 (fa : Env' → M Bool) (env : Env') : tNot1 fa env = (do let k ← fa env; pure (!k)) := rfl
@[simp] theorem at_eAnd (fa fb : Env' → M Dv) (env : Env') : eAnd fa fb env = (do let x ← fa env; let k ← asB x; if k = true then fb env else pure (.bl false)) := rfl
@[simp] theorem at_eOr (fa fb : Env' → M Dv) (env : Env') : eOr fa fb env = (do let x ← fa env; let k ← asB x; if k = true then pure (.bl true) else fb env) := rfl
@[simp] theorem at_eNot (fa : Env' → M Dv) (env : Env') : eNot fa env = (do let x ← fa env; let k ← asB x; pure (.bl (!k))) := rfl
@[simp] theorem at_eIfE (fc : Env' → M Bool) (fa fb : Env' → M Dv) (env : Env') : eIfE fc fa fb env = (do let k ← fc env; if k = true then fa env else fb env) := rfl
@[simp] theorem at_eBnd (f : Env' → M Dv) (o : Dv → M Dv) (env : Env') : eBnd f o env = (do let x ← f env; o x) := rfl
@[simp] theorem at_aNil  (env : Env') : aNil env = pure [] := rfl
@[simp] theorem at_aCons (f : Env' → M Dv) (fs : Env' → M (List Dv)) (env : Env') : aCons f fs env = (do let d ← f env; let ds ← fs env; pure (d :: ds)) := rfl
@[simp] theorem at_eArg (fs : Env' → M (List Dv)) (o : List Dv → M Dv) (env : Env') : eArg fs o env = (do let ds ← fs env; o ds) := rfl
@[simp] theorem at_oNone  (env : Env') : oNone env = pure none := rfl
@[simp] theorem at_oSome (f : Env' → M Dv) (env : Env') : oSome f env = (do let d ← f env; let i ← asI d; pure (some i)) := rfl
@[simp] theorem at_eSl (o : Dv → Option Int → Option Int → M Dv) (f : Env' → M Dv) (fl fh : Env' → M (Option Int)) (env : Env') : eSl o f fl fh env = (do let d ← f env; let l ← fl env; let u ← fh env; o d l u) := rfl
@[simp] theorem at_eMt0 (T : String) (fo : Env' → M Dv) (op : Dv → List Dv → M Dv) (env : Env') : eMt0 T fo op env = (do let a ← fo env; chkT T a; op a []) := rfl
@[simp] theorem at_eMt (T : String) (fo : Env' → M Dv) (fs : Env' → M (List Dv)) (op : Dv → List Dv → M Dv) (env : Env') : eMt T fo fs op env = (do let a ← fo env; chkT T a; let ds ← fs env; op a ds) := rfl
@[simp] theorem at_iVal (f : Env' → M Dv) (env : Env') : iVal f env = (do let d ← f env; srcOf d) := rfl
@[simp] theorem at_iArg (fs : Env' → M (List Dv)) (o : List Dv → M Sr) (env : Env') : iArg fs o env = (do let ds ← fs env; o ds) := rfl
@[simp] theorem at_tYes  (env : Env') : tYes' env = pure true := rfl
@[simp] theorem at_gSet (i : Nat) (d : Dv) (env : Env') : gSet i d env = pure (env.set i (some d)) := rfl
@[simp] theorem at_start (n : Nat) (ds : List Dv) : start' n ds = ds.map some ++ List.replicate (n - ds.length) none := rfl
@[simp] theorem op_lenS {S : Sto} {z : Str} : lenD S [.str z] = gd (z.length ≤ sizeLine) (some (.int z.length)) := gd_if <| by
  unfold lenD lenO
  by_cases h : z.length ≤ sizeLine <;> simp [h]
@[simp] theorem op_lenL {S : Sto} {l : List Dv} : lenD S [.lst l] = some (.int l.length) := by simp [lenD, lenO, listOf, ownOf]
@[simp] theorem op_lenT {S : Sto} {l : List Dv} : lenD S [.tup l] = some (.int l.length) := by simp [lenD, lenO, listOf, ownOf]
@[simp] theorem op_lenScr {S : Sto} {l : List Dv} : lenD S [.scr l] = some (.int l.length) := by simp [lenD, lenO, listOf, ownOf]
@[simp] theorem op_lenRef {S : Sto} {n : Nat} : lenD S [.ref n] = (listOf S (.ref n)).map fun l => .int l.length := by
  unfold lenD lenO
  simp
  rfl
@[simp] theorem op_absI {S : Sto} {i : Int} : absD S [.int i] = some (.int (if i < 0 then -i else i)) := rfl
@[simp] theorem op_intI {S : Sto} {i : Int} : intD S [.int i] = some (.int i) := rfl
@[simp] theorem op_max2I {S : Sto} {i j : Int} : max2D S [.int i, .int j] = some (.int (if i < j then j else i)) := rfl
@[simp] theorem ty_str {S : Sto} {z : Str} : tyD S (.str z) "str" = true := rfl
@[simp] theorem list_lst {S : Sto} {l : List Dv} : listOf S (.lst l) = some l := rfl
@[simp] theorem list_scr {S : Sto} {l : List Dv} : listOf S (.scr l) = some l := rfl
def cellLst : Option Cell → Option (List Dv)
  | some (.lst l) => some l
  | _ => none
@[simp] theorem cellLst_lst {l : List Dv} : cellLst (some (.lst l)) = some l := rfl
@[simp] theorem list_ref {S : Sto} {n : Nat} : listOf S (.ref n) = cellLst S[n]? := by
  simp only [listOf, ownOf]
  cases S[n]? with
  | none => rfl
  | some c => cases c <;> rfl
@[simp] theorem cell_ref {S : Sto} {n : Nat} : cellL S (.ref n) = (cellLst S[n]?).map fun l => (n, l) := by
  simp only [cellL]
  cases S[n]? with
  | none => rfl
  | some c => cases c <;> rfl
@[simp] theorem ty_ref {S : Sto} {n : Nat} : tyD S (.ref n) "list" = (cellLst S[n]?).isSome := by
  simp only [tyD]
  cases S[n]? with
  | none => rfl
  | some c => cases c <;> rfl
@[simp] theorem set_new {S : Sto} {c d : Cell} : (S ++ [c]).set S.length d = S ++ [d] := by simp
theorem cutG_head {α : Type} {l : List α} {n : Nat} : cutG l none (some (n : Int)) = l.take n := by
  unfold cutG
  rw [HT.sIx_nat, HT.sIx_none, List.drop_zero, Nat.sub_zero]
  rcases Nat.le_total n l.length with h | h
  · rw [Nat.min_eq_left h]
  · rw [Nat.min_eq_right h, List.take_length, List.take_of_length_le h]
theorem cutG_tail {α : Type} {l : List α} {n : Nat} : cutG l (some (n : Int)) none = l.drop n := by
  unfold cutG
  rw [HT.sIx_nat, HT.sIx_none]
  rcases Nat.le_total n l.length with h | h
  · rw [Nat.min_eq_left h, List.take_of_length_le (by rw [List.length_drop]; omega)]
  · rw [Nat.min_eq_right h, List.drop_eq_nil_of_le h, List.drop_eq_nil_of_le (Nat.le_refl _), List.take_nil]
end ML

namespace ML
open PySem PySem.Spec PyProof.Rows L2

@[simp] theorem wm_chain {o o' : Sto → Dv → Dv → Option Dv} {fa fb fc : Env' → M Dv} {env : Env'} {S : Sto} {P : Rs Dv → Prop} : Wm (chainF o o' fa fb fc env) S P ↔
    Wm (fa env) S (bk (fun a => fb env >>= fun b => op2 o a b >>= fun d => asB d >>= fun k => if k = true then fc env >>= fun c => op2 o' b c else pure (.bl false)) P) := by
  have e : chainF o o' fa fb fc env = (fa env >>= fun a => fb env >>= fun b => op2 o a b >>= fun d => asB d >>= fun k => if k = true then fc env >>= fun c => op2 o' b c else pure (.bl false)) := rfl
  rw [e, wm_bind]
theorem atI_nat {α : Type} {l : List α} {n : Nat} : L2.atI l (n : Int) = l[n]? := by
  unfold L2.atI ixN
  by_cases h : n < l.length
  · simp [h]
  · simp [h]
@[simp] theorem atI_nn {α : Type} {l : List α} {i : Int} (h : 0 ≤ i) : L2.atI l i = l[i.toNat]? := by
  obtain ⟨n, rfl⟩ := Int.eq_ofNat_of_zero_le h
  rw [atI_nat]
  rfl
@[simp] theorem op_ixS {S : Sto} {z : Str} {i : Int} : ixD S (.str z) (.int i) = gd (z.length ≤ sizeLine) ((L2.atI z.cps.toList i).map fun c => .str ⟨#[c]⟩) := gd_if rfl
@[simp] theorem op_ixT {S : Sto} {z : List Dv} {i : Int} : ixD S (.tup z) (.int i) = L2.atI z i := rfl
@[simp] theorem op_ixL {S : Sto} {z : List Dv} {i : Int} : ixD S (.lst z) (.int i) = L2.atI z i := rfl
@[simp] theorem op_ixScr {S : Sto} {z : List Dv} {i : Int} : ixD S (.scr z) (.int i) = L2.atI z i := rfl
@[simp] theorem op_ixRef {S : Sto} {n : Nat} {i : Int} : ixD S (.ref n) (.int i) = (cellLst S[n]?).bind fun l => L2.atI l i := by
  show (listOf S (.ref n)).bind _ = _
  rw [list_ref]
@[simp] theorem op_inSign {S : Sto} {c : Nat} {z : Str} : inD S (.str ⟨#[c]⟩) (.str z) = some (.bl (decide (c ∈ z.cps.toList))) := rfl
@[simp] theorem op_ninSign {S : Sto} {c : Nat} {z : Str} : ninD S (.str ⟨#[c]⟩) (.str z) = some (.bl (!decide (c ∈ z.cps.toList))) := rfl
theorem boolsOf_map {α : Type} {p : α → Bool} : ∀ {l : List α}, boolsOf (l.map fun x => .bl (p x)) = some (l.map p)
  | [] => rfl
  | a :: r => by simp only [List.map_cons, boolsOf, boolsOf_map (l := r)]; rfl
@[simp] theorem op_all {S : Sto} {α : Type} {p : α → Bool} {l : List α} : allD S [.lst (l.map fun x => .bl (p x))] = some (.bl (l.all p)) := by
  simp [allD, boolsOf_map]
@[simp] theorem op_any {S : Sto} {α : Type} {p : α → Bool} {l : List α} : anyD S [.lst (l.map fun x => .bl (p x))] = some (.bl (l.any p)) := by
  simp [anyD, boolsOf_map]
@[simp] theorem tru_bl {S : Sto} {b : Bool} : truD S (.bl b) = some b := rfl
@[simp] theorem op_eqS' {S : Sto} {a b : Str} : eqD S (.str a) (.str b) = gd (PyData.strOk a = true ∧ PyData.strOk b = true) (some (.bl (a == b))) := gd_if <| by
  have sh : ∀ x : Str, SeqAt.shaped (.str x) = PyData.strOk x := fun x => by simp [SeqAt.shaped, PyData.canLay0, PyData.depth]
  simp only [eqD, eqPy, pyTop, pyOf, sh]
  by_cases h : PyData.strOk a = true ∧ PyData.strOk b = true
  · simp [h, PyData.eqv]
  · simp [h]
@[simp] theorem op_neS' {S : Sto} {a b : Str} : neD S (.str a) (.str b) = gd (PyData.strOk a = true ∧ PyData.strOk b = true) (some (.bl (!(a == b)))) := gd_if <| by
  have sh : ∀ x : Str, SeqAt.shaped (.str x) = PyData.strOk x := fun x => by simp [SeqAt.shaped, PyData.canLay0, PyData.depth]
  simp only [neD, eqPy, pyTop, pyOf, sh]
  by_cases h : PyData.strOk a = true ∧ PyData.strOk b = true
  · simp [h, PyData.eqv]
  · simp [h]
@[simp] theorem op_strI {S : Sto} {i : Int} : strD S [.int i] = gd (i.natAbs.log2 < 1920) (some (.str (toString i))) := gd_if rfl
/-- comprehensions over mapped lists -/
theorem compL_map {α : Type} {src : Sr} {l0 : List Dv} {el : Dv → M (Option Dv)} {S : Sto} {g : α → Dv} {f : α → Option Dv} (hs : src S = some l0) : ∀ (l : List α) (acc : List Dv), (∀ d ∈ l, el (g d) S = some (.ok (f d) S)) → acc.length + l.length ≤ sizeLine →
    compL src l0 el (l.map g) acc S = some (.ok (acc ++ l.filterMap f) S)
  | [], acc, _, _ => by
    rw [List.map_nil]
    unfold compL
    rw [if_pos hs, List.filterMap_nil, List.append_nil]
  | d :: r, acc, he, hl => by
    rw [List.map_cons]
    unfold compL
    rw [if_pos hs, he d List.mem_cons_self]
    rw [List.length_cons] at hl
    cases hf : f d with
    | none =>
      dsimp only
      rw [compL_map hs r acc (fun d hd => he d (List.mem_cons_of_mem _ hd)) (by omega), List.filterMap_cons_none hf]
    | some y =>
      dsimp only
      rw [if_pos (by omega), compL_map hs r (acc ++ [y]) (fun d hd => he d (List.mem_cons_of_mem _ hd)) (by rw [List.length_append, List.length_singleton]; omega), List.filterMap_cons_some hf, List.append_assoc]
      rfl
theorem lcF_map {α : Type} {fi : Env' → M Sr} {vs : List Nat} {gf : Dv → Env' → M Env'} {ft : Env' → M Bool} {fe : Env' → M Dv} {env : Env'} {S : Sto} {P : Rs Dv → Prop} {src : Sr} (l : List α) (g : α → Dv) (f : α → Option Dv)
    (hi : Wm (fi env) S fun r => r = .ok src S) (hs : src S = some (l.map g)) (hl : l.length ≤ sizeLine) (he : ∀ x ∈ l, Wm (elM vs gf ft fe env (g x)) S fun r => r = .ok (f x) S) : Wm (lcF fi vs gf ft fe env) S P ↔ P (.ok (.lst (l.filterMap f)) S) := by
  refine wm_eq ?_
  unfold lcF
  show M.bind _ _ S = _
  unfold M.bind
  rw [wm_run hi]
  dsimp only
  unfold compM
  rw [hs]
  dsimp only
  rw [compL_map hs l [] (fun d hd => wm_run (he d hd)) (by simpa using hl), List.nil_append]
  rfl
@[simp] theorem at_elM (vs : List Nat) (gf : Dv → Env' → M Env') (ft : Env' → M Bool) (fe : Env' → M Dv) (env : Env') (d : Dv) : elM vs gf ft fe env d = (gf d (wipeE env vs) >>= fun env' => ft env' >>= fun b => if b = true then fe env' >>= fun y => pure (some y) else pure none) := rfl
@[simp] theorem at_wipe0 (env : Env') : wipeE env [] = env := rfl
@[simp] theorem at_wipe1 (env : Env') (i : Nat) : wipeE env [i] = env.set i none := rfl
@[simp] theorem strlen_mk (cs : List Nat) : (⟨⟨cs⟩⟩ : Str).length = cs.length := rfl
theorem pure_ok {α : Type} (a : α) (S : Sto) : (pure a : M α) S = some (.ok a S) := rfl
theorem flat_strs {α : Type} {g : α → Str} : ∀ {l : List α}, (l.map fun x => Dv.str (g x)).all flatD = true
  | [] => rfl
  | a :: r => by rw [List.map_cons, List.all_cons, flat_strs (l := r)]; rfl
theorem any_strs {α : Type} {g : α → Str} {w : Str} : ∀ {l : List α}, ((l.map fun x => Dv.str (g x)).any fun y => eqF y (.str w)) = l.any fun x => g x == w
  | [] => rfl
  | a :: r => by rw [List.map_cons, List.any_cons, List.any_cons, any_strs (l := r)]; rfl
@[simp] theorem op_inStrs {S : Sto} {α : Type} {g : α → Str} {w : Str} {l : List α} : inD S (.str w) (.lst (l.map fun x => .str (g x))) = some (.bl (l.any fun x => g x == w)) := by
  unfold inD
  have e : inS S (.str w) (.lst (l.map fun x => .str (g x))) = none := rfl
  rw [e]
  dsimp only
  unfold inQ
  have e2 : seqOf S (.lst (l.map fun x => Dv.str (g x))) = some (l.map fun x => Dv.str (g x)) := rfl
  rw [e2]
  dsimp only
  rw [if_pos ⟨rfl, flat_strs⟩, any_strs]
  rfl
theorem op_inTup {S : Sto} {w : Str} {l : List Dv} (h : l.all flatD = true) : inD S (.str w) (.tup l) = some (.bl (l.any fun y => eqF y (.str w))) := by
  unfold inD
  have e : inS S (.str w) (.tup l) = none := rfl
  rw [e]
  dsimp only
  unfold inQ
  have e2 : seqOf S (.tup l) = some l := rfl
  rw [e2]
  dsimp only
  rw [if_pos ⟨rfl, h⟩]
  rfl
@[simp] theorem eqF_str {a b : Str} : eqF (.str a) (.str b) = (a == b) := rfl
@[simp] theorem tru_str {S : Sto} {a : Str} : truD S (.str a) = if a.length ≤ sizeLine then some ((a.length : Int) != 0) else none := rfl
theorem op_intS {S : Sto} {a : Str} : intD S [.str a] = gd (a.length ≤ 640) ((PySem.intText? a).map .int) := gd_if rfl
@[simp] theorem wm_inK {kvs : List (Str × Dv)} {z : Str} {S : Sto} {P : Rs Dv → Prop} : Wm (inKM kvs false (.str z)) S P ↔ P (.ok (.bl (kvs.lookup z).isSome) S) := wm_pure
@[simp] theorem wm_getK {kvs : List (Str × Dv)} {z : Str} {S : Sto} {P : Rs Dv → Prop} : Wm (getKM kvs (.str z)) S P ↔ wopt (kvs.lookup z) fun d => P (.ok d S) := by
  unfold getKM
  dsimp only
  cases kvs.lookup z <;> simp
@[simp] theorem at_gSub (fo fi : Env' → M Dv) (d : Dv) (env : Env') : gSub fo fi d env = (fo env >>= fun a => fi env >>= fun b => setIM a b d >>= fun _ => pure env) := rfl
@[simp] theorem wm_setI {n : Nat} {k : Int} {d : Dv} {S : Sto} {P : Rs Unit → Prop} : Wm (setIM (.ref n) (.int k) d) S P ↔ wopt (cellLst S[n]?) fun l => wopt (ixN l.length k) fun j => P (.ok () (S.set n (.lst (l.set j d)))) := by
  unfold Wm setIM
  simp only [cell_ref]
  cases h : cellLst S[n]? with
  | none => simp
  | some l =>
    simp only [Option.map_some]
    cases hq : ixN l.length k <;> simp [hq]
theorem ixN_in {n : Nat} {k : Int} (h0 : 0 ≤ k) (h1 : k < n) : ixN n k = some k.toNat := by
  unfold ixN
  rw [if_pos h0, if_pos h1]
end ML

namespace ML
open PySem PySem.Spec PyProof.Rows L2

/-! ### texts by their codes -/
abbrev cd (z : Str) : List Nat := z.cps.toList
theorem str_eq {a b : Str} (h : cd a = cd b) : a = b := by
  obtain ⟨⟨a⟩⟩ := a
  obtain ⟨⟨b⟩⟩ := b
  simp at h
  rw [h]
theorem cd_append (a b : Str) : cd (a ++ b) = cd a ++ cd b := by
  show (a.cps ++ b.cps).toList = _
  simp
theorem cds_len (a : Str) : a.length = (cd a).length := by simp [Str.length]
theorem cd_cut (z : Str) (lo hi : Option Int) : cd (cutS z lo hi) = cutG (cd z) lo hi := by
  unfold cutS cutG cd
  simp [Str.length]
theorem foldl_arr (x : Array Nat) : ∀ (n : Nat) (acc : Array Nat), ((List.replicate n x).foldl (· ++ ·) acc).toList = acc.toList ++ (List.replicate n x.toList).flatten
  | 0, acc => by simp
  | n + 1, acc => by
    rw [List.replicate_succ, List.foldl_cons, foldl_arr x n]
    simp [List.replicate_succ]
theorem cd_mul (z : Str) (n : Int) : cd (Txt.mul z n) = (List.replicate n.toNat (cd z)).flatten := by
  unfold Txt.mul
  split
  · rename_i h
    rw [show n.toNat = 0 by omega]
    rfl
  · split
    · rename_i h1 h2
      rw [Bool.or_eq_true] at h2
      rcases h2 with h2 | h2
      · have : n = 1 := by simpa using h2
        subst this
        simp
      · have : cd z = [] := by
          have : z.length = 0 := by simpa using h2
          rw [cds_len] at this
          exact List.length_eq_zero_iff.mp this
        rw [this]
        simp
    · rw [cd, foldl_arr]
      simp
theorem cd_join : ∀ (ys : List Str), cd (Txt.join (⟨#[]⟩ : Str) ys) = ys.flatMap cd
  | ys => by
    have h : ∀ ys : List Str, cd (Str.join (⟨#[]⟩ : Str) ys) = ys.flatMap cd := by
      intro ys
      induction ys with
      | nil => rfl
      | cons x r ih =>
        cases r with
        | nil => simp [Str.join]
        | cons y t =>
          rw [Str.join]
          · rw [cd_append, cd_append, ih]
            simp
          · simp
    unfold Txt.join
    rw [StrLaws.glued_eq_join]
    exact h ys
/-! ### the words of a line -/
def tok : List Nat → List Nat → List (List Nat)
  | acc, [] => if acc = [] then [] else [acc]
  | acc, c :: r => if c = 32 then (if acc = [] then [] else [acc]) ++ tok [] r else tok (acc ++ [c]) r
theorem tok_free : ∀ (w acc r : List Nat), 32 ∉ w → tok acc (w ++ r) = tok (acc ++ w) r
  | [], acc, r, _ => by simp
  | c :: w, acc, r, h => by
    rw [List.mem_cons, not_or] at h
    rw [List.cons_append, tok, if_neg (fun e => h.1 e.symm), tok_free w _ r h.2]
    simp
theorem tok_space (acc r : List Nat) : tok acc (32 :: r) = (if acc = [] then [] else [acc]) ++ tok [] r := by
  rw [tok, if_pos rfl]
theorem tok_spaces : ∀ (n : Nat) (r : List Nat), tok [] (List.replicate n 32 ++ r) = tok [] r
  | 0, r => rfl
  | n + 1, r => by
    rw [List.replicate_succ, List.cons_append, tok_space, tok_spaces n]
    rfl
theorem tok_join : ∀ (ps : List Str), ps ≠ [] → (∀ p ∈ ps, 32 ∉ cd p) → tok [] (cd (Str.join (⟨#[32]⟩ : Str) ps)) = (ps.map cd).filter fun l => decide (l ≠ [])
  | [], h, _ => absurd rfl h
  | [x], _, h => by
    have := tok_free (cd x) [] [] (h x (by simp))
    rw [List.append_nil, List.nil_append] at this
    rw [Str.join, this, tok]
    by_cases e : cd x = [] <;> simp [e]
  | x :: y :: r, _, h => by
    have ih := tok_join (y :: r) (by simp) fun p hp => h p (List.mem_cons_of_mem _ hp)
    rw [Str.join, cd_append, cd_append, List.append_assoc, tok_free _ _ _ (h x (by simp)), List.nil_append]
    · show tok (cd x) (32 :: cd (Str.join _ (y :: r))) = _
      rw [tok_space, ih]
      by_cases e : cd x = [] <;> simp [e]
    · simp
theorem split_tok (z : Str) : ((Txt.split z (⟨#[32]⟩ : Str)).map cd).filter (fun l => decide (l ≠ [])) = tok [] (cd z) := by
  have h1 := StrLaws.join_split z ⟨#[32]⟩
  have h2 := StrLaws.split_free z 32
  have h3 : Txt.split z (⟨#[32]⟩ : Str) ≠ [] := by
    intro e
    have := split_pos z ⟨#[32]⟩
    rw [e] at this
    simp at this
  rw [← tok_join _ h3 h2, h1]
theorem join_mem (sep : Str) : ∀ (ps : List Str), ∀ p ∈ ps, ∀ c ∈ cd p, c ∈ cd (Str.join sep ps)
  | [x], p, hp, c, hc => by
    rw [List.mem_singleton] at hp
    subst hp
    exact hc
  | x :: y :: r, p, hp, c, hc => by
    rw [Str.join, cd_append, cd_append]
    · rcases List.mem_cons.mp hp with rfl | hp
      · exact List.mem_append_left _ (List.mem_append_left _ hc)
      · exact List.mem_append_right _ (join_mem sep (y :: r) p hp c hc)
    · simp
theorem strOk_iff (z : Str) : PyData.strOk z = true ↔ ∀ c ∈ cd z, c < 0x110000 := by
  unfold PyData.strOk cd
  rw [← Array.all_toList, List.all_eq_true]
  simp
theorem strOk_part {z p : Str} (h : PyData.strOk z = true) (hp : p ∈ Txt.split z (⟨#[32]⟩ : Str)) : PyData.strOk p = true := by
  rw [strOk_iff] at h ⊢
  intro c hc
  refine h c ?_
  have h1 := StrLaws.join_split z ⟨#[32]⟩
  rw [← h1]
  exact join_mem _ _ p hp c hc
/-- the words of a line, as texts -/
def toks (z : Str) : List Str := (tok [] (cd z)).map fun l => ⟨⟨l⟩⟩
theorem split_toks (z : Str) : (Txt.split z (⟨#[32]⟩ : Str)).filter (fun w => decide (w ≠ ⟨#[]⟩)) = toks z := by
  unfold toks
  rw [← split_tok]
  have : ∀ l : List Str, l.filter (fun w => decide (w ≠ (⟨#[]⟩ : Str))) = ((l.map cd).filter fun l => decide (l ≠ [])).map fun l => ⟨⟨l⟩⟩ := by
    intro l
    induction l with
    | nil => rfl
    | cons a r ih =>
      obtain ⟨⟨a⟩⟩ := a
      by_cases e : a = []
      · subst e
        simpa using ih
      · simp [e] at ih ⊢
        exact ih
  exact this _
@[simp] theorem op_addT {S : Sto} {l r : List Dv} : addD S (.tup l) (.tup r) = gd (l.length + r.length ≤ sizeLine) (some (.tup (l ++ r))) := gd_if rfl
@[simp] theorem op_addL {S : Sto} {l r : List Dv} : addD S (.lst l) (.lst r) = gd (l.length + r.length ≤ sizeLine) (some (.lst (l ++ r))) := gd_if rfl
@[simp] theorem op_addS' {S : Sto} {a b : Str} : addD S (.str a) (.str b) = gd (a.length + b.length ≤ sizeLine) (some (.str (a ++ b))) := gd_if rfl
theorem strsOf_map {α : Type} {g : α → Str} : ∀ {l : List α}, strsOf (l.map fun x => .str (g x)) = some (l.map g)
  | [] => rfl
  | a :: r => by simp only [List.map_cons, strsOf, strsOf_map (l := r)]; rfl
theorem join_chars {S : Sto} {n : Nat} {f : Nat → Nat} (hn : n ≤ 1000) : joinD S (.str "") [.lst ((List.range n).map fun k => .str ⟨#[f k]⟩)] = some (.str ⟨⟨(List.range n).map f⟩⟩) := by
  have e2 : Str.ofString "" = ⟨#[]⟩ := by decide +kernel
  unfold joinD
  have e3 : (seqOf S (.lst ((List.range n).map fun k => Dv.str ⟨#[f k]⟩))).bind strsOf = some ((List.range n).map fun k => ⟨#[f k]⟩) := by
    show strsOf _ = _
    exact strsOf_map
  dsimp only
  rw [e3]
  dsimp only
  have hsum : (List.map (fun x => x.length) ((List.range n).map fun k => (⟨#[f k]⟩ : Str))).sum = n := by
    rw [List.map_map]
    have : ((fun x : Str => x.length) ∘ fun k => (⟨#[f k]⟩ : Str)) = fun _ => 1 := by
      funext k
      rfl
    rw [this]
    clear this e3 hn
    induction n with
    | zero => rfl
    | succ n ih => rw [List.range_succ, List.map_append, List.sum_append, ih]; rfl
  rw [if_pos]
  · congr 2
    apply str_eq
    rw [e2, cd_join]
    simp [List.flatMap_map, List.flatMap_singleton']
    induction List.range n with
    | nil => rfl
    | cons a r ih =>
      rw [List.flatMap_cons, ih]
      rfl
  · rw [hsum, e2]
    simp
    omega
theorem cutG_map {α β : Type} {f : α → β} {l : List α} {lo hi : Option Int} : cutG (l.map f) lo hi = (cutG l lo hi).map f := by
  unfold cutG
  rw [List.length_map, ← List.map_drop, ← List.map_take]
theorem cutG_mem {α : Type} {l : List α} {lo hi : Option Int} {x : α} (h : x ∈ cutG l lo hi) : x ∈ l := List.mem_of_mem_drop (List.mem_of_mem_take h)
theorem cutG_len {α : Type} {l : List α} {lo hi : Option Int} : (cutG l lo hi).length ≤ HT.sIx l.length l.length hi - HT.sIx l.length 0 lo := by
  unfold cutG
  rw [List.length_take]
  exact Nat.min_le_left _ _
theorem sIx_nn {n d : Nat} {i : Int} (h : 0 ≤ i) : HT.sIx n d (some i) = min i.toNat n := by
  obtain ⟨k, rfl⟩ := Int.eq_ofNat_of_zero_le h
  rw [HT.sIx_nat]
  rfl
@[simp] theorem op_mulSI {S : Sto} {z : Str} {n : Int} : mulD S (.str z) (.int n) = gd (-(2 ^ 63) ≤ n ∧ n < 10000 ∧ z.length ≤ 1000) (some (.str (Txt.mul z n))) := gd_if <| by
  have e : mulOkB z n = decide (-(2 ^ 63) ≤ n ∧ n < 10000 ∧ z.length ≤ 1000) := by
    unfold mulOkB
    rw [Bool.eq_iff_iff]
    simp [and_assoc]
  show (if mulOkB z n = true then some (Dv.str (Txt.mul z n)) else none) = _
  rw [e]
  by_cases h : -(2 ^ 63) ≤ n ∧ n < 10000 ∧ z.length ≤ 1000
  · rw [decide_eq_true h, if_pos rfl, if_pos h]
  · rw [decide_eq_false h, if_neg (by decide), if_neg h]
@[simp] theorem op_isiL {S : Sto} {l : List Dv} : isiD S [.lst l, .ty "list"] = some (.bl true) := by
  simp [isiD, tyOfD, listOf, ownOf, isiB]
@[simp] theorem op_isiB {S : Sto} {b : Bool} : isiD S [.bl b, .ty "bool"] = some (.bl true) := by
  simp [isiD, tyOfD, isiB]
/-- a list of texts, frozen or in a cell -/
structure DWs (S : Sto) (d : Dv) (ws : List Str) : Prop where
  lst : listOf S d = some (ws.map .str)
  len : lenD S [d] = some (.int ws.length)
  ix : ∀ i, ixD S d (.int i) = L2.atI (ws.map .str) i
  sl : ∀ lo hi P, Wm (slD d lo hi) S P ↔ P (.ok (.lst (cutG (ws.map .str) lo hi)) S)
  src : ∃ src : Sr, src S = some (ws.map .str) ∧ ∀ P, Wm (srcOf d) S P ↔ P (.ok src S)
  ll : ws.length ≤ sizeLine → ∀ P, Wm (listL [d]) S P ↔ P (.ok (.lst (ws.map .str)) S)
theorem DWs.of_lst {S : Sto} {ws : List Str} : DWs S (.lst (ws.map .str)) ws where
  lst := rfl
  len := by simp
  ix := fun i => by simp
  sl := fun lo hi P => by simp
  src := ⟨_, rfl, fun P => wm_srcL⟩
  ll := fun h P => by
    have e : listL [.lst (ws.map .str)] S = mkL (ws.map .str) S := rfl
    unfold Wm
    rw [e]
    have := wm_mkL (ds := ws.map .str) (S := S) (P := P)
    unfold Wm at this
    rw [this]
    simp [h]
theorem DWs.of_ref {S : Sto} {n : Nat} {ws : List Str} (h : S[n]? = some (.lst (ws.map .str))) : DWs S (.ref n) ws where
  lst := by simp [h]
  len := by simp [h]
  ix := fun i => by simp [h]
  sl := fun lo hi P => by simp [h]
  src := ⟨fun S => listOf S (.ref n), by simp [h], fun P => wm_srcRef h⟩
  ll := fun hl P => by
    have e : listL [.ref n] S = mkL (ws.map .str) S := by
      unfold listL
      have : seqOf S (.ref n) = some (ws.map .str) := by
        show listOf S (.ref n) = _
        simp [h]
      dsimp only
      rw [this]
    unfold Wm
    rw [e]
    have := wm_mkL (ds := ws.map .str) (S := S) (P := P)
    unfold Wm at this
    rw [this]
    simp [hl]
end ML

namespace ML
open PySem PySem.Spec PyProof.Rows L2

/-! ### instances of the module's classes -/
/-- f may be a field of the class c -/
def ClsF (K : PySem.W.Frag) (mg : Str → Option Value) (f c : Str) : Prop := ∃ C, mg c = some (.ref C) ∧ Cls K C ∧ NoAttr K C f
def getF (cs : List Str) (f : Str) (d : Dv) : M Dv := fun S => match d with
  | .ref n => match S[n]? with
    | some (.ins c fs) => if c ∈ cs then (fs.lookup f).map fun v => .ok v S else none
    | _ => none
  | _ => none
def putD (f : Str) (v : Dv) : List (Str × Dv) → List (Str × Dv)
  | [] => [(f, v)]
  | (g, x) :: r => if g = f then (g, v) :: r else (g, x) :: putD f v r
def setF (cs : List Str) (f : Str) (a d : Dv) : M Unit := fun S => match a with
  | .ref n => match S[n]? with
    | some (.ins c fs) => if c ∈ cs ∧ fs.length < 1000 then some (.ok () (S.set n (.ins c (putD f d fs)))) else none
    | _ => none
  | _ => none
theorem Rkv.look {K : PySem.W.Frag} {g : Gh} {f : Str} : ∀ {ps : List (Str × Dv)} {qs : List (Str × V)}, Rkv K g ps qs → (∀ v, ps.lookup f = some v → ∃ w, qs.lookup f = some w ∧ Rp K g v w) ∧ (ps.lookup f = none → qs.lookup f = none)
  | [], [], _ => ⟨fun v h => by simp at h, fun _ => rfl⟩
  | (a, x) :: ps, (b, y) :: qs, ⟨e, r, t⟩ => by
    have e' : a = b := e
    subst e'
    have ih := Rkv.look (f := f) t
    simp only [List.lookup]
    cases h : f == a with
    | true => exact ⟨fun v hv => by cases hv; exact ⟨y, rfl, r⟩, fun hv => by cases hv⟩
    | false => exact ih
  | [], _ :: _, x => x.elim
  | _ :: _, [], x => x.elim
theorem Rkv.put {K : PySem.W.Frag} {g : Gh} {f : Str} {v : Dv} {w : V} (r : Rp K g v w) : ∀ {ps : List (Str × Dv)} {qs : List (Str × V)}, Rkv K g ps qs → Rkv K g (putD f v ps) (putF f w qs)
  | [], [], _ => ⟨rfl, r, trivial⟩
  | (a, x) :: ps, (b, y) :: qs, ⟨e, r1, t⟩ => by
    have e' : a = b := e
    subst e'
    unfold putD putF
    by_cases h : a = f
    · rw [if_pos h, if_pos h]
      exact ⟨rfl, r, t⟩
    · rw [if_neg h, if_neg h]
      exact ⟨rfl, r1, Rkv.put r t⟩
  | [], _ :: _, x => x.elim
  | _ :: _, [], x => x.elim
theorem Rkv.len {κ : Type} {K : PySem.W.Frag} {g : Gh} : ∀ {ps : List (κ × Dv)} {qs : List (κ × V)}, Rkv K g ps qs → ps.length = qs.length
  | [], [], _ => rfl
  | _ :: ps, _ :: qs, ⟨_, _, t⟩ => by rw [List.length_cons, List.length_cons, Rkv.len t]
  | [], _ :: _, x => x.elim
  | _ :: _, [], x => x.elim
section
variable {X : Cx} {W : WX}
theorem de_fld {cs : List Str} {e : Expr} {f : Str} {fe : Env' → M Dv} {pos : Pos} (h : ∀ c ∈ cs, ClsF X.K X.mg f c) (he : DE X W e fe) (hb : attributeBase e f X.env (eval e X.env) = eval e X.env := by rfl) : DE X W (.Attribute e f pos) (eBnd fe (getF cs f)) := by
  obtain ⟨t, p, s⟩ := he
  refine ⟨_, pe_fld p hb, sn_unop (k := fun x H1 Q => ∃ a C dx fs v, x = .ref a ∧ H1 a = some (.ins C dx fs) ∧ Cls X.K C ∧ NoAttr X.K C f ∧ fs.lookup f = some v ∧ Q v H1) s fun g σ H S a v r Q ok ra e post => ?_⟩
  unfold getF at e
  cases a with
  | ref n =>
    dsimp only at e
    cases hc : S[n]? with
    | none => rw [hc] at e; cases e
    | some c =>
      rw [hc] at e
      cases c with
      | ins c fs =>
        dsimp only at e
        split at e
        · rename_i hmem
          obtain ⟨w, hw, rfl⟩ := Option.map_eq_some_iff.mp e
          cases ra with
          | ref hm =>
            obtain ⟨C, dx, ws, h1, h2, h3, h4, h5⟩ := ok.cel _ _ _ hc hm
            obtain ⟨C', g1, g2, g3⟩ := h c hmem
            cases g1.symm.trans h1
            obtain ⟨u, l1, l2⟩ := h5.look.1 w hw
            exact ⟨_, C, dx, ws, u, rfl, h2, g2, g3, l1, post g u H (Gh.le_refl g) ok l2⟩
        · cases e
      | lst _ => cases e
      | dct _ => cases e
      | dead => cases e
      | lck _ => cases e
  | _ => cases e
/-- o.f = e -/
def sFldM (cs : List Str) (f : Str) (fo fv : Env' → M Dv) : SF := fun env S => exS env ((do let v ← fv env; let o ← fo env; setF cs f o v : M Unit) S) fun _ S' => some (.nx env S')
theorem setF_at {B : Bs} {g : Gh} {H : Hp} {S : Sto} {cs : List Str} {f : Str} {a d : Dv} {x y : V} {r : Rs Unit} (hcs : ∀ c ∈ cs, ClsF B.K B.mg f c) (ok : Ok B g H S) (ra : Rp B.K g a x) (rd : Rp B.K g d y) (e : setF cs f a d S = some r) :
    ∃ p C dx fs S', x = .ref p ∧ H p = some (.ins C dx fs) ∧ Cls B.K C ∧ NoAttr B.K C f ∧ fs.length < 1000 ∧ r = .ok () S' ∧ Ok B g (upd H p (.ins C dx (putF f y fs))) S' := by
  unfold setF at e
  cases a with
  | ref n =>
    dsimp only at e
    cases hc : S[n]? with
    | none => rw [hc] at e; cases e
    | some c =>
      rw [hc] at e
      cases c with
      | ins c fs =>
        dsimp only at e
        split at e
        · rename_i hmem
          cases e
          cases ra with
          | ref hm =>
            obtain ⟨C, dx, ws, h1, h2, h3, h4, h5⟩ := ok.cel _ _ _ hc hm
            obtain ⟨C', g1, g2, g3⟩ := hcs c hmem.1
            cases g1.symm.trans h1
            have ne : dx ≠ _ := fun z => by rw [z, h2] at h3; cases h3
            exact ⟨_, C, dx, ws, _, rfl, h2, g2, g3, by rw [← h5.len]; exact hmem.2, rfl, ok.write hc (by intro z; cases z) hm ⟨C, dx, putF f y ws, h1, upd_same, by rw [upd_ne ne]; exact h3, h4, Rkv.put rd h5⟩⟩
        · cases e
      | lst _ => cases e
      | dct _ => cases e
      | dead => cases e
      | lck _ => cases e
  | _ => cases e
theorem ds_fld {cs : List Str} {o value : Expr} {f : Str} {fo fv : Env' → M Dv} {pos pos' : Pos} (h : ∀ c ∈ cs, ClsF X.K X.mg f c) (hv : DE X W value fv) (ho : DE X W o fo) (hs : swapsWith value (some (.Attribute o f pos')) pos.line X.env = pure false := by rfl) :
    DS X W (.Assign [.Attribute o f pos'] value pos) (sFldM cs f fo fv) := by
  obtain ⟨ta, pa, sa⟩ := ho
  obtain ⟨tv, pv, sv⟩ := hv
  refine ⟨_, ps_fld pa pv hs, fun g σ H env S r D ok en e post => ?_⟩
  rcases exS_cases e with ⟨_, S', e1, e2⟩ | ⟨x', S', e1, rfl⟩
  · cases e2
    rcases bind_some (x := fv env) e1 with ⟨d, S1, e3, e4⟩ | ⟨ex, S1, _, e4⟩
    · refine sv g σ H env S _ _ ok en e3 fun g1 y H1 l1 ok1 r1 => ?_
      rcases bind_some (x := fo env) e4 with ⟨a, S2, e5, e6⟩ | ⟨ex, S2, _, e6⟩
      · refine sa g1 σ H1 env S1 _ _ ok1 (en.mono l1) e5 fun g2 x H2 l2 ok2 r2 => ?_
        obtain ⟨p, C, dx, fs, S3, q1, q2, q3, q4, q5, q6, q7⟩ := setF_at h ok2 r2 (r1.mono l2) e6
        cases q6
        exact ⟨p, C, dx, fs, q1, q2, q3, q4, q5, post g2 _ _ (Gh.le_trans l1 l2) q7 (en.mono (Gh.le_trans l1 l2))⟩
      · cases e6
    · cases e4
  · rcases bind_some (x := fv env) e1 with ⟨d, S1, e3, e4⟩ | ⟨ex, S1, e3, e4⟩
    · refine sv g σ H env S _ _ ok en e3 fun g1 y H1 l1 ok1 r1 => ?_
      rcases bind_some (x := fo env) e4 with ⟨a, S2, e5, e6⟩ | ⟨ex, S2, e5, e6⟩
      · refine sa g1 σ H1 env S1 _ _ ok1 (en.mono l1) e5 fun g2 x H2 l2 ok2 r2 => ?_
        obtain ⟨p, C, dx, fs, S3, q1, q2, q3, q4, q5, q6, q7⟩ := setF_at h ok2 r2 (r1.mono l2) e6
        cases q6
      · cases e6
        exact sa g1 σ H1 env S1 _ _ ok1 (en.mono l1) e5 fun g' c' dd H' l ok' xr => post g' c' dd σ H' (Gh.le_trans l1 l) ok' (en.mono (Gh.le_trans l1 l)) xr
    · cases e4
      exact sv g σ H env S _ _ ok en e3 fun g' c' dd H' l ok' xr => post g' c' dd σ H' l ok' (en.mono l) xr
/-! ### methods -/
structure MthE (P : Program) (w : World) (K : PySem.W.Frag) (mg : Str → Option Value) (base : Heap) (k : Nat) (c m : Str) (n : Nat) (code : List Dv → M Dv) : Prop where
  ex : ∃ (C f : Addr) (fd : FuncData) (ps : List Str), mg c = some (.ref C) ∧ Cls K C ∧ Meth K C m f ∧ ps.length = n ∧ Binds K fd ps [] ∧ FnOk P w K mg base (L2.CX P w) k f fd ps (spOf ⟨K, mg⟩ n code)
def chkI (c m : Str) (d : Dv) : M Unit := fun S => match d with
  | .ref n => match S[n]? with
    | some (.ins c' fs) => if c' = c ∧ (fs.lookup m).isNone = true then some (.ok () S) else none
    | _ => none
  | _ => none
theorem chkI_at {B : Bs} {g : Gh} {H : Hp} {S : Sto} {c m : Str} {d : Dv} {x : V} {r : Rs Unit} {C : Addr} (hC : B.mg c = some (.ref C)) (ok : Ok B g H S) (rd : Rp B.K g d x) (e : chkI c m d S = some r) :
    r = .ok () S ∧ ∃ a dx fs, x = .ref a ∧ H a = some (.ins C dx fs) ∧ fs.lookup m = none := by
  unfold chkI at e
  cases d with
  | ref n =>
    dsimp only at e
    cases hc : S[n]? with
    | none => rw [hc] at e; cases e
    | some cc =>
      rw [hc] at e
      cases cc with
      | ins c' fs =>
        dsimp only at e
        split at e
        · rename_i hm
          obtain ⟨rfl, hl⟩ := hm
          cases e
          cases rd with
          | ref hm =>
            obtain ⟨C', dx, ws, h1, h2, h3, h4, h5⟩ := ok.cel _ _ _ hc hm
            cases hC.symm.trans h1
            exact ⟨rfl, _, dx, ws, rfl, h2, h5.look.2 (Option.isNone_iff_eq_none.mp hl)⟩
        · cases e
      | lst _ => cases e
      | dct _ => cases e
      | dead => cases e
      | lck _ => cases e
  | _ => cases e
def eMeth (c m : Str) (fo : Env' → M Dv) (fs : Env' → M (List Dv)) (code : List Dv → M Dv) (env : Env') : M Dv := do let a ← fo env; chkI c m a; let ds ← fs env; code (a :: ds)
def tMethE (C : Addr) (m : Str) (sp : Sp) (E : L2.St → XK) (ta : TE) (t : TA) : TE := fun σ H Q => ta σ H fun x H1 => ∃ a dx fs, x = .ref a ∧ H1 a = some (.ins C dx fs) ∧ fs.lookup m = none ∧ t σ H1 fun vs H2 => sp (x :: vs) H2 Q (E σ)
theorem pe_methE {CX : CXT} {k : Nat} {C f : Addr} {fd : FuncData} {ps : List Str} {sp : Sp} {E : L2.St → XK} {m : Str} {o e : Expr} {es : List Expr} {ta : TE} {t : TA} {apos pos : Pos} {pl : Sem Bool} (he : PE X o ta) (c : Cls X.K C) (hm : Meth X.K C m f) (F : FnOk X.prog X.w X.K X.mg X.base CX k f fd ps sp)
    (hr : Room k X.A) (hb : Binds X.K fd ps []) (hx : ∀ σ, PassesAt CX X σ (E σ)) (ha : PA X (e :: es) t) (hst : starEach (e :: es) X.env = (false, eval e X.env) :: starEach es X.env) (hpl : (backTo pos (starEach es X.env)).any (·.1) = false)
    (ht : eval (.Call (.Attribute o m apos) (e :: es) [] pos) X.env = (do let ov ← eval o X.env; standAt apos.atName; let (f, first) ← holding [ov] (getMethod ov m pl); callWith pos f first (backTo pos (starEach (e :: es) X.env)) (backToKw pos (keywordEach [] X.env)))) :
    PE X (.Call (.Attribute o m apos) (e :: es) [] pos) (tMethE C m sp E ta t) := by
  refine ⟨fun pins s σ H Q I h => PySem.W.methodCall_KW (pl := pl) (thn (he.run pins s σ H _ I h) fun u s1 ⟨x, H1, I1, rx, a, dx, fs, ex, ea, l, q⟩ => ?_) ht⟩
  subst ex
  obtain rfl : u = Value.ref a := rx
  refine getmeth_ok I1 ea c hm l (PySem.W.callWith_K (first := [.ref a]) (h₀ := X.base) I.ok.mod.kin hm.kp (thn (ha.run pos pins s1 σ H1 _ I1 q) fun us s2 ⟨vs, H2, I2, r, q2⟩ => ⟨I2.kIn, ?_⟩) hst hpl)
  exact run_fnS (us := .ref a :: us) (vs := .ref a :: vs) F hr hb (hx σ) I2 (.cons rfl r) q2
theorem pe_methE0 {CX : CXT} {k : Nat} {C f : Addr} {fd : FuncData} {ps : List Str} {sp : Sp} {E : L2.St → XK} {m : Str} {o : Expr} {ta : TE} {apos pos : Pos} {pl : Sem Bool} (he : PE X o ta) (c : Cls X.K C) (hm : Meth X.K C m f) (F : FnOk X.prog X.w X.K X.mg X.base CX k f fd ps sp)
    (hr : Room k X.A) (hb : Binds X.K fd ps []) (hx : ∀ σ, PassesAt CX X σ (E σ))
    (ht : eval (.Call (.Attribute o m apos) [] [] pos) X.env = (do let ov ← eval o X.env; standAt apos.atName; let (f, first) ← holding [ov] (getMethod ov m pl); callWith pos f first (backTo pos (starEach [] X.env)) (backToKw pos (keywordEach [] X.env)))) :
    PE X (.Call (.Attribute o m apos) [] [] pos) (tMethE C m sp E ta tNil) := by
  refine ⟨fun pins s σ H Q I h => PySem.W.methodCall_KW (pl := pl) (thn (he.run pins s σ H _ I h) fun u s1 ⟨x, H1, I1, rx, a, dx, fs, ex, ea, l, q⟩ => ?_) ht⟩
  subst ex
  obtain rfl : u = Value.ref a := rx
  exact getmeth_ok I1 ea c hm l (PySem.W.callWith_K0 (first := [.ref a]) I1.kIn hm.kp (run_fnS (us := [.ref a]) (vs := [.ref a]) F hr hb (hx σ) I1 (.cons rfl .nil) q))
theorem de_meth {k n : Nat} {c m : Str} {code : List Dv → M Dv} {o e : Expr} {es : List Expr} {fo : Env' → M Dv} {fs : Env' → M (List Dv)} {apos pos : Pos} {pl : Sem Bool} (ct : Ct X W) (F : MthE X.prog X.w X.K X.mg X.base k c m n code) (hr : Room k X.A) (ho : DE X W o fo) (ha : DA X W (e :: es) fs)
    (hn : (e :: es).length + 1 = n := by rfl) (hst : starEach (e :: es) X.env = (false, eval e X.env) :: starEach es X.env := by rfl) (hpl : (backTo pos (starEach es X.env)).any (·.1) = false := by rfl)
    (ht : eval (.Call (.Attribute o m apos) (e :: es) [] pos) X.env = (do let ov ← eval o X.env; standAt apos.atName; let (f, first) ← holding [ov] (getMethod ov m pl); callWith pos f first (backTo pos (starEach (e :: es) X.env)) (backToKw pos (keywordEach [] X.env))) := by rfl) :
    DE X W (.Call (.Attribute o m apos) (e :: es) [] pos) (eMeth c m fo fs code) := by
  obtain ⟨C, f, fd, ps, hC, hc, hm, hps, hb, FO⟩ := F.ex
  obtain ⟨ta, pa, sa⟩ := ho
  obtain ⟨t, pt, s, hlen⟩ := ha
  refine ⟨_, pe_methE pa hc hm FO hr hb (fun σ => passAt ct.tk σ) pt hst hpl ht, fun g σ H env S r Q ok en e post => ?_⟩
  rcases bind_some (x := fo env) e with ⟨a, S1, e1, e2⟩ | ⟨x', S', e1, rfl⟩
  · refine sa g σ H env S _ _ ok en e1 fun g1 x H1 l1 ok1 r1 => ?_
    rcases bind_some (x := chkI c m a) e2 with ⟨_, S2, e3, e4⟩ | ⟨x', S', e3, rfl⟩
    · obtain ⟨er, p, dx, fs', rfl, q2, q3⟩ := chkI_at hC ok1 r1 e3
      cases er
      refine ⟨p, dx, fs', rfl, q2, q3, ?_⟩
      rcases bind_some (x := fs env) e4 with ⟨ds, S3, e5, e6⟩ | ⟨x', S', e5, rfl⟩
      · refine s g1 σ H1 env S1 _ _ ok1 (en.mono l1) e5 fun g2 vs H2 l2 ok2 r2 => ?_
        exact ⟨by rw [List.length_cons, ← r2.length, hlen _ _ _ _ e5]; exact hn, g2, a :: ds, S3, r, ok2, .cons (r1.mono l2) r2, e6, post.mono (Gh.le_trans l1 l2)⟩
      · exact s g1 σ H1 env S1 _ _ ok1 (en.mono l1) e5 (post.mono l1)
    · obtain ⟨er, _⟩ := chkI_at hC ok1 r1 e3
      cases er
  · exact sa g σ H env S _ _ ok en e1 post
theorem de_meth0 {k n : Nat} {c m : Str} {code : List Dv → M Dv} {o : Expr} {fo : Env' → M Dv} {apos pos : Pos} {pl : Sem Bool} (ct : Ct X W) (F : MthE X.prog X.w X.K X.mg X.base k c m n code) (hr : Room k X.A) (ho : DE X W o fo) (hn : 1 = n := by rfl)
    (ht : eval (.Call (.Attribute o m apos) [] [] pos) X.env = (do let ov ← eval o X.env; standAt apos.atName; let (f, first) ← holding [ov] (getMethod ov m pl); callWith pos f first (backTo pos (starEach [] X.env)) (backToKw pos (keywordEach [] X.env))) := by rfl) :
    DE X W (.Call (.Attribute o m apos) [] [] pos) (eMeth c m fo aNil code) := by
  obtain ⟨C, f, fd, ps, hC, hc, hm, hps, hb, FO⟩ := F.ex
  obtain ⟨ta, pa, sa⟩ := ho
  refine ⟨_, pe_methE0 pa hc hm FO hr hb (fun σ => passAt ct.tk σ) ht, fun g σ H env S r Q ok en e post => ?_⟩
  rcases bind_some (x := fo env) e with ⟨a, S1, e1, e2⟩ | ⟨x', S', e1, rfl⟩
  · refine sa g σ H env S _ _ ok en e1 fun g1 x H1 l1 ok1 r1 => ?_
    rcases bind_some (x := chkI c m a) e2 with ⟨_, S2, e3, e4⟩ | ⟨x', S', e3, rfl⟩
    · obtain ⟨er, p, dx, fs', rfl, q2, q3⟩ := chkI_at hC ok1 r1 e3
      cases er
      refine ⟨p, dx, fs', rfl, q2, q3, ?_⟩
      exact ⟨hn, g1, [a], S1, r, ok1, .cons r1 .nil, e4, post.mono l1⟩
    · obtain ⟨er, _⟩ := chkI_at hC ok1 r1 e3
      cases er
  · exact sa g σ H env S _ _ ok en e1 post
end
end ML

namespace ML
open PySem PySem.Spec PyProof.Rows L2

/-! ### making an instance -/
theorem Ok.grow {B : Bs} {g : Gh} {H : Hp} {S : Sto} {p : Addr} {o : HO} (h : Ok B g H S) (hp : H p = none) : Ok B g (upd H p o) S := by
  refine ⟨fun a u e => ?_, h.len, fun n c a hs hm => ?_, h.nf, h.inj, fun q hq => ?_⟩
  · have e' := h.fz a u e
    rw [upd_ne (ne_of_none e' hp)]
    exact e'
  · exact (h.cel n c a hs hm).same (Gh.le_refl g) (fun b u e => by rw [upd_ne (ne_of_none e hp)]; exact e) fun b e _ => e
  · obtain ⟨e1, e2, e3⟩ := h.pvt q hq
    exact ⟨by rw [upd_ne (ne_of_none e1 hp)]; exact e1, e2, e3⟩
structure MakE (P : Program) (w : World) (K : PySem.W.Frag) (mg : Str → Option Value) (base : Heap) (k : Nat) (c : Str) (n : Nat) (code : List Dv → M Dv) : Prop where
  ex : ∃ (C f : Addr) (fd : FuncData) (ps : List Str), mg c = some (.ref C) ∧ Mk K C f ∧ ps.length = n ∧ Binds K fd ps [] ∧ FnOk P w K mg base (L2.CX P w) k f fd ps (spOf ⟨K, mg⟩ n code)
def newI (c : Str) (code : List Dv → M Dv) (ds : List Dv) : M Dv := fun S => match code (.ref S.length :: ds) (S ++ [.ins c []]) with
  | some (.ok .non S') => some (.ok (.ref S.length) S')
  | some (.er x S') => some (.er x S')
  | _ => none
section
variable {X : Cx} {W : WX}
theorem run_makeE {CX : CXT} {k : Nat} {C f : Addr} {fd : FuncData} {ps : List Str} {sp : Sp} {E : L2.St → XK} {pins : List (Addr × Obj)} {σ : L2.St} {H : Hp} {s : Shared} {Q : VK} {us : List Value} {vs : List V} (M : Mk X.K C f)
    (F : FnOk X.prog X.w X.K X.mg X.base CX k f fd ps sp) (hr : Room (k + 1) X.A) (hb : Binds X.K fd ps []) (hx : PassesAt CX X σ (E σ)) (I : Inv X pins σ H s) (r : Vals vs us)
    (h : ∀ x dx, H x = none → H dx = none → dx ≠ x → sp (.ref x :: vs) (upd (upd H dx (.own x)) x (.ins C dx [])) (fun v H2 => v = .non ∧ Q (.ref x) H2) (E σ))
    (hx2 : ∀ (x dx : Addr) (I2 : Inv X pins σ (upd (upd H dx (.own x)) x (.ins C dx [])) { s with heap := (s.heap.push PySem.W.emptyDict).push (PySem.W.instObj C dx) }), True) :
    wpAny (model X.prog X.w) X.A (call (.ref C) us) (EP X pins σ Q) X.xe s := by
  have hq := h (s.heap.objs.size + 1) s.heap.objs.size (I.hok.fresh (Nat.le_succ _)) (I.hok.fresh (Nat.le_refl _)) (Nat.ne_of_lt (Nat.lt_succ_self _))
  have I2 := Inv.made (C := C) I
  have r2 : Vals (V.ref (s.heap.objs.size + 1) :: vs) (Value.ref (s.heap.objs.size + 1) :: us) := .cons rfl r
  have hl : ((Value.ref (s.heap.objs.size + 1) :: us) ++ []).length = ps.length := by
    rw [List.append_nil, ← r2.length, F.len _ _ _ _ hq]
  have b := hb _ (Value.ref (s.heap.objs.size + 1) :: us) I2.kIn hl
  rw [List.append_nil] at b
  refine wpAny_call (make_map (f := f) I.kIn M.makes M.init (beq_iff_eq.mp M.fn) (codeAny_mono (F.run _ X.stack _ _ ⟨Value.ref (s.heap.objs.size + 1) :: us, []⟩ (Value.ref (s.heap.objs.size + 1) :: us) _ _ (E σ) (hr.make C us []) (I2.env0.make C us []) b r2 hq) fun r s' hq' => ?_))
  cases r with
  | error e => exact hx pins _ _ e s' I2 hq'
  | ok fl => cases fl with
    | ret u =>
      obtain ⟨v, H', I3, rv, ev, q3⟩ := I2.after hq'
      subst ev
      exact ⟨rv, V.ref (s.heap.objs.size + 1), H', I3, rfl, q3⟩
    | next => exact False.elim hq'
    | brk => exact False.elim hq'
    | cont => exact False.elim hq'
def tMakeE (C : Addr) (sp : Sp) (E : L2.St → XK) (t : TA) : TE := fun σ H Q => t σ H fun vs H1 => ∀ x dx, H1 x = none → H1 dx = none → dx ≠ x → sp (.ref x :: vs) (upd (upd H1 dx (.own x)) x (.ins C dx [])) (fun v H2 => v = .non ∧ Q (.ref x) H2) (E σ)
theorem pe_makeE {CX : CXT} {k : Nat} {x : Str} {C f : Addr} {fd : FuncData} {ps : List Str} {sp : Sp} {E : L2.St → XK} {p pos : Pos} {e : Expr} {es : List Expr} {t : TA} (M : Mk X.K C f) (F : FnOk X.prog X.w X.K X.mg X.base CX k f fd ps sp) (hr : Room (k + 1) X.A) (hg : Gl X x) (hm : X.mg x = some (.ref C))
    (hb : Binds X.K fd ps []) (hx : ∀ σ, PassesAt CX X σ (E σ)) (ha : PA X (e :: es) t) (hdb : (x == ("__debug__" : Str)) = false) (he : starEach (e :: es) X.env = (false, eval e X.env) :: starEach es X.env) (hpl : (backTo pos (starEach es X.env)).any (·.1) = false) :
    PE X (.Call (.Name x p) (e :: es) [] pos) (tMakeE C sp E t) := by
  refine ⟨fun pins s σ H Q I h => wpAny_Call_Name_kw (ld_glob I hg hm ?_ hdb)⟩
  exact PySem.W.callWith_K (h₀ := X.base) I.ok.mod.kin M.kp (thn (ha.run pos pins s σ H _ I h) fun us s1 ⟨vs, H1, I1, r, q⟩ => ⟨I1.kIn, run_makeE M F hr hb (hx σ) I1 r q fun _ _ _ => trivial⟩) he hpl
theorem pe_makeE0 {CX : CXT} {k : Nat} {x : Str} {C f : Addr} {fd : FuncData} {ps : List Str} {sp : Sp} {E : L2.St → XK} {p pos : Pos} (M : Mk X.K C f) (F : FnOk X.prog X.w X.K X.mg X.base CX k f fd ps sp) (hr : Room (k + 1) X.A) (hg : Gl X x) (hm : X.mg x = some (.ref C))
    (hb : Binds X.K fd ps []) (hx : ∀ σ, PassesAt CX X σ (E σ)) (hdb : (x == ("__debug__" : Str)) = false) :
    PE X (.Call (.Name x p) [] [] pos) (tMakeE C sp E tNil) :=
  ⟨fun pins s σ H Q I h => wpAny_Call_Name_kw (ld_glob I hg hm (PySem.W.callWith_K0 I.kIn M.kp (run_makeE (us := []) M F hr hb (hx σ) I .nil h fun _ _ _ => trivial)) hdb)⟩
theorem newI_at {B : Bs} {g : Gh} {H : Hp} {S : Sto} {c : Str} {n : Nat} {code : List Dv → M Dv} {ds : List Dv} {vs : List V} {C x dx : Addr} {r : Rs Dv} {Q : VK} {E : XK} (hC : B.mg c = some (.ref C)) (ok : Ok B g H S) (rd : Rps B.K g ds vs) (e : newI c code ds S = some r) (hl : vs.length + 1 = n)
    (h1 : H x = none) (h2 : H dx = none) (h3 : dx ≠ x) (post : Post B g (fun g => Rp B.K g) Q E r) : spOf B n code (.ref x :: vs) (upd (upd H dx (.own x)) x (.ins C dx [])) (fun v H2 => v = .non ∧ Q (.ref x) H2) E := by
  have ok1 := ok.grow (o := .own x) h2
  have h1' : upd H dx (.own x) x = none := by rw [upd_ne h3.symm]; exact h1
  obtain ⟨hle, ok2⟩ := ok1.newC (p := x) (o := .ins C dx []) (c := .ins c []) h1' ⟨C, dx, [], hC, upd_same, by rw [upd_ne h3, upd_same], ok.free h2, trivial⟩
  have hself : Rp B.K (g.cell x) (.ref S.length) (.ref x) := by
    refine .ref ?_
    rw [← ok.len]
    exact Gh.cell_at
  unfold newI at e
  split at e
  · rename_i S' he
    cases e
    refine ⟨by rw [List.length_cons]; exact hl, g.cell x, .ref S.length :: ds, S ++ [.ins c []], .ok .non S', ok2, .cons hself (rd.mono hle), he, ?_⟩
    intro g' v H' l ok' rv
    cases rv
    exact ⟨rfl, post g' _ H' (Gh.le_trans hle l) ok' (hself.mono l)⟩
  · rename_i z S' he
    cases e
    refine ⟨by rw [List.length_cons]; exact hl, g.cell x, .ref S.length :: ds, S ++ [.ins c []], .er z S', ok2, .cons hself (rd.mono hle), he, ?_⟩
    intro g' c' dd H' l ok' xr
    exact post g' c' dd H' (Gh.le_trans hle l) ok' xr
  · cases e
theorem de_make {k n : Nat} {c : Str} {code : List Dv → M Dv} {p pos : Pos} {e : Expr} {es : List Expr} {fs : Env' → M (List Dv)} (ct : Ct X W) (F : MakE X.prog X.w X.K X.mg X.base k c n code) (hr : Room (k + 1) X.A) (ha : DA X W (e :: es) fs) (hn : (e :: es).length + 1 = n := by rfl) (hg : Gl X c := by rfl)
    (hdb : (c == ("__debug__" : Str)) = false := by decide) (he : starEach (e :: es) X.env = (false, eval e X.env) :: starEach es X.env := by rfl) (hpl : (backTo pos (starEach es X.env)).any (·.1) = false := by rfl) :
    DE X W (.Call (.Name c p) (e :: es) [] pos) (eArg fs (newI c code)) := by
  obtain ⟨C, f, fd, ps, hC, hM, hps, hb, FO⟩ := F.ex
  obtain ⟨t, pt, s, hlen⟩ := ha
  refine ⟨_, pe_makeE hM FO hr hg hC hb (fun σ => passAt ct.tk σ) pt hdb he hpl, fun g σ H env S r Q ok en e post => ?_⟩
  rcases bind_some (x := fs env) e with ⟨ds, S1, e1, e2⟩ | ⟨x', S', e1, rfl⟩
  · refine s g σ H env S _ _ ok en e1 fun g1 vs H1 l1 ok1 r1 x dx h1 h2 h3 => ?_
    exact newI_at hC ok1 r1 e2 (by rw [← r1.length, hlen _ _ _ _ e1]; exact hn) h1 h2 h3 (post.mono l1)
  · exact s g σ H env S _ _ ok en e1 post
theorem de_make0 {k n : Nat} {c : Str} {code : List Dv → M Dv} {p pos : Pos} (ct : Ct X W) (F : MakE X.prog X.w X.K X.mg X.base k c n code) (hr : Room (k + 1) X.A) (hn : 1 = n := by rfl) (hg : Gl X c := by rfl)
    (hdb : (c == ("__debug__" : Str)) = false := by decide) : DE X W (.Call (.Name c p) [] [] pos) (eArg aNil (newI c code)) := by
  obtain ⟨C, f, fd, ps, hC, hM, hps, hb, FO⟩ := F.ex
  refine ⟨_, pe_makeE0 hM FO hr hg hC hb (fun σ => passAt ct.tk σ) hdb, fun g σ H env S r Q ok en e post => ?_⟩
  exact fun x dx h1 h2 h3 => newI_at (ds := []) hC ok .nil e hn h1 h2 h3 post
/-! ### raise -/
/-- an exception class of the module, made with a text, no fields -/
structure ExcE (K : PySem.W.Frag) (mg : Str → Option Value) (c : Str) : Prop where
  ex : ∃ (C : Addr) (bmB : List Value) (B newId initId : String), ExcBaseFacts B newId initId bmB ∧ PySem.W.excIn K C bmB newId = true ∧ mg c = some (.ref C) ∧ PySem.W.keepIn K (.ref C) = true ∧
    PySem.W.subIn K (.ref C) (.type "BaseException") = some true ∧ PySem.W.typeIn K (.ref C) = some (.type "type")
def sRaise (c : Str) : SF := fun env S => some (.er ⟨c, []⟩ env S)
theorem ds_raise {c m : Str} {j : Nat} {p p2 pos pos' : Pos} (ct : Ct X W) (F : ExcE X.K X.mg c) (hg : Gl X c := by rfl) (hdb : (c == ("__debug__" : Str)) = false := by decide) :
    DS X W (.Raise (some (.Call (.Name c p) [.Constant (.str m) j p2] [] pos)) none pos') (sRaise c) := by
  obtain ⟨C, bmB, B, newId, initId, h1, h2, h3, h4, h5, h6⟩ := F.ex
  refine ⟨_, ps_raise ct.calm ct.tk (pmk_own h1 h2 h3 h4 (raises_own h5 h6) hg hdb), fun g σ H env S r D ok en e post => ?_⟩
  cases e
  exact post g _ _ σ H (Gh.le_refl g) ok en ⟨C, h3, rfl, .inl ⟨rfl, rfl⟩⟩
end
end ML

namespace ML
open PySem PySem.Spec PyProof.Rows L2

/-! ### try -/
def tSS (B : Bs) (W : WX) (f : SF) : TS := fun D σ H => ∃ (g : Gh) (env : Env') (S : Sto) (r : So), Ok B g H S ∧ En B g σ env ∧ f env S = some r ∧ SPost B g W D r
section
variable {X : Cx} {W : WX}
theorem pss_of {st : List Stmt} {f : SF} (h : DSs X W st f) : PSs X st (tSS X.bs W f) := by
  obtain ⟨t, p, s⟩ := h
  refine ⟨fun pins s' σ H D I q => p.run pins s' σ H D I ?_⟩
  obtain ⟨g, env, S, r, ok, en, e, post⟩ := q
  exact s g σ H env S r D ok en e post
theorem Ct.tr (c : Ct X W) {pn : List (Addr × Obj)} {xe : Value → Shared → Prop} {W' : WX} (tk : Takes (X.tr pn xe) W') : Ct (X.tr pn xe) W' := ⟨c.calm, c.nd, c.un, tk⟩
/-- the same answer whatever the exception's place -/
noncomputable def uni (f : Nat → Option So) : Option So := @dite _ (∃ r, ∀ a, f a = some r) (Classical.propDecidable _) (fun h => some (Classical.choose h)) fun _ => none
theorem uni_some {f : Nat → Option So} {r : So} (h : uni f = some r) (a : Nat) : f a = some r := by
  unfold uni at h
  by_cases hc : ∃ r, ∀ a, f a = some r
  · rw [dif_pos hc] at h
    cases h
    exact Classical.choose_spec hc a
  · rw [dif_neg hc] at h
    cases h
theorem uni_eq {f : Nat → Option So} {r : So} (h : ∀ a, f a = some r) : uni f = some r := by
  have hc : ∃ r, ∀ a, f a = some r := ⟨r, h⟩
  unfold uni
  rw [dif_pos hc]
  have := Classical.choose_spec hc 0
  rw [h 0] at this
  exact this.symm
/-- behind an except suite with a name -/
def goneS (i : Nat) : So → Option So
  | .nx env S => some (.nx (env.set i none) S)
  | .rt d S => some (.rt d S)
  | .bk env S => some (.bk (env.set i none) S)
  | .ct env S => some (.ct (env.set i none) S)
  | .er _ _ _ => none
def bareS : So → Option So
  | .er _ _ _ => none
  | r => some r
noncomputable def sTryAs (tbl : List (Str × Bool)) (c0 : Str) (i : Nat) (fb : SF) (fs : Nat → SF) : SF := fun env S => match fb env S with
  | some (.er e env1 S1) => (match tbl.lookup e.cls with
    | some true => if e.cls = c0 ∧ e.fs = [] then uni fun a => (fs a (env1.set i (some (.exc a))) S1).bind (goneS i) else none
    | some false => some (.er e env1 S1)
    | none => none)
  | r => r
noncomputable def sTryOnly (tbl : List (Str × Bool)) (fb fs : SF) : SF := fun env S => match fb env S with
  | some (.er e env1 S1) => (match tbl.lookup e.cls with
    | some true => (fs env1 S1).bind bareS
    | some false => some (.er e env1 S1)
    | none => none)
  | r => r
/-- what an except clause that names the class x catches -/
structure CatchE (K : PySem.W.Frag) (mg : Str → Option Value) (x : Str) (tbl : List (Str × Bool)) : Prop where
  ex : ∃ C, mg x = some (.ref C) ∧ ∀ p ∈ tbl, ∃ D, mg p.1 = some (.ref D) ∧ PySem.W.exmOne K (.ref D) (.ref C) = some p.2
theorem look_mem {α : Type} {k : Str} {b : α} : ∀ {l : List (Str × α)}, l.lookup k = some b → (k, b) ∈ l
  | (a, c) :: r, h => by
    simp only [List.lookup] at h
    cases e : k == a with
    | true =>
      rw [e] at h
      cases h
      rw [beq_iff_eq.mp e]
      exact List.mem_cons_self
    | false =>
      rw [e] at h
      exact List.mem_cons_of_mem _ (look_mem h)
theorem En.unset {B : Bs} {g : Gh} {σ : L2.St} {env : Env'} (e : En B g σ env) (i : Nat) : En B g (σ.set i none) (env.set i none) := e.wipe [i]
theorem ds_tryAs {tbl : List (Str × Bool)} {x n c0 : Str} {i : Nat} {fb : SF} {fs : Nat → SF} {body suite : List Stmt} {b₀ : Stmt} {np pos pos' : Pos} (ct : Ct X W) (T : CatchE X.K X.mg x tbl) (hi : X.N[i]? = some n) (hln : X.env.kindOf n = some .local)
    (hb : ∀ (W' : WX) (pn : List (Addr × Obj)) (xe : Value → Shared → Prop), Ct (X.tr pn xe) W' → PassesOwn (model X.prog X.w) X.A X.env xe → DSs (X.tr pn xe) W' body fb)
    (hsu : ∀ (a : Addr) (oe : Obj) (pn : List (Addr × Obj)) (D : Addr), X.mg c0 = some (.ref D) → Zc (.ref D) none oe → (∃ vs, oe.data = .fields vs) → DSs (X.suite a ((a, oe) :: pn)) W0 (b₀ :: suite) (fs a))
    (hg : Gl X x := by rfl) (hdb : (x == ("__debug__" : Str)) = false := by decide) (hs : X.stack = X.env :: X.outer := by rfl) (hf : X.env.frame = some X.env.locals := by rfl) :
    DS X W (.Try body [.ExceptHandler (some (.Name x np)) (some n) (b₀ :: suite) pos'] [] [] pos) (sTryAs tbl c0 i fb fs) := by
  obtain ⟨C, hC, htbl⟩ := T.ex
  refine ⟨_, ps_try_as (tb := fun W' => tSS X.bs W' fb) (ts := fun a cls d D σ H => (∃ D0, X.mg c0 = some (.ref D0) ∧ cls = .ref D0) ∧ d = none ∧ tSS X.bs W0 (fs a) D σ H) (c := .ref C) hs hf ct.nd hi hln ⟨hg, hdb, .inl hC⟩ ct.tk
    (fun W' pn xe tk hp => pss_of (hb W' pn xe (ct.tr tk) hp)) (fun a oe cls d pn hz hv => ⟨fun pins s σ H D I q => ?_⟩), fun g σ H env S r D ok en e post => ?_⟩
  · obtain ⟨⟨D0, h1, rfl⟩, rfl, q⟩ := q
    exact (pss_of (hsu a oe pn D0 h1 hz hv)).run pins s σ H D I q
  · unfold sTryAs at e
    cases hfb : fb env S with
    | none => rw [hfb] at e; cases e
    | some r0 =>
      rw [hfb] at e
      refine ⟨g, env, S, r0, ok, en, hfb, ?_⟩
      cases r0 with
      | nx env S => cases e; exact post
      | rt d S => cases e; exact post
      | bk env S => cases e; exact post
      | ct env S => cases e; exact post
      | er xn env1 S1 =>
        dsimp only at e
        intro g' c dd σ' H' l ok' en' xr
        obtain ⟨D0, h1, rfl, h3⟩ := xr
        cases hl : tbl.lookup xn.cls with
        | none => rw [hl] at e; cases e
        | some b =>
          rw [hl] at e
          obtain ⟨D1, g1, g2⟩ := htbl _ (look_mem hl)
          cases h1.symm.trans g1
          refine ⟨b, g2, fun hb a ha => ?_, fun hb => ?_⟩
          · subst hb
            dsimp only at e
            split at e
            · rename_i hc
              obtain ⟨hc1, hc2⟩ := hc
              have ea := uni_some e a
              obtain ⟨ra, f1, f2⟩ := Option.bind_eq_some_iff.mp ea
              refine ⟨⟨D0, hc1 ▸ h1, rfl⟩, ?_, g', env1.set i (some (.exc a)), S1, ra, ok', en'.set i (.exc a), f1, ?_⟩
              · rcases h3 with h3 | ⟨q0, _⟩
                · exact h3.2
                · exact absurd hc2 q0
              · cases ra with
                | nx e2 S2 => cases f2; exact fun g2 σ2 H2 l2 ok2 en2 => post g2 _ H2 (Gh.le_trans l l2) ok2 (en2.unset i)
                | rt d S2 => cases f2; exact fun g2 v H2 l2 ok2 rv => post g2 v H2 (Gh.le_trans l l2) ok2 rv
                | bk e2 S2 => cases f2; exact fun g2 σ2 H2 l2 ok2 en2 => post g2 _ H2 (Gh.le_trans l l2) ok2 (en2.unset i)
                | ct e2 S2 => cases f2; exact fun g2 σ2 H2 l2 ok2 en2 => post g2 _ H2 (Gh.le_trans l l2) ok2 (en2.unset i)
                | er x2 e2 S2 => cases f2
            · cases e
          · subst hb
            dsimp only at e
            cases e
            exact post g' _ dd σ' H' l ok' en' ⟨D0, h1, rfl, h3⟩
theorem ds_tryOnly {tbl : List (Str × Bool)} {x : Str} {fb fs : SF} {body suite : List Stmt} {b₀ : Stmt} {np pos pos' : Pos} (ct : Ct X W) (T : CatchE X.K X.mg x tbl)
    (hb : ∀ (W' : WX) (pn : List (Addr × Obj)) (xe : Value → Shared → Prop), Ct (X.tr pn xe) W' → PassesOwn (model X.prog X.w) X.A X.env xe → DSs (X.tr pn xe) W' body fb)
    (hsu : ∀ (a : Addr) (oe : Obj) (pn : List (Addr × Obj)), DSs (X.suite a ((a, oe) :: pn)) W0 (b₀ :: suite) fs)
    (hg : Gl X x := by rfl) (hdb : (x == ("__debug__" : Str)) = false := by decide) (hs : X.stack = X.env :: X.outer := by rfl) (hf : X.env.frame = some X.env.locals := by rfl) :
    DS X W (.Try body [.ExceptHandler (some (.Name x np)) none (b₀ :: suite) pos'] [] [] pos) (sTryOnly tbl fb fs) := by
  obtain ⟨C, hC, htbl⟩ := T.ex
  refine ⟨_, ps_try_only (tb := fun W' => tSS X.bs W' fb) (ts := fun a cls d D σ H => tSS X.bs W0 fs D σ H) (c := .ref C) hs hf ⟨hg, hdb, .inl hC⟩ ct.tk
    (fun W' pn xe tk hp => pss_of (hb W' pn xe (ct.tr tk) hp)) (fun a oe cls d pn _ _ => pss_of (hsu a oe pn)), fun g σ H env S r D ok en e post => ?_⟩
  unfold sTryOnly at e
  cases hfb : fb env S with
  | none => rw [hfb] at e; cases e
  | some r0 =>
    rw [hfb] at e
    refine ⟨g, env, S, r0, ok, en, hfb, ?_⟩
    cases r0 with
    | nx env S => cases e; exact post
    | rt d S => cases e; exact post
    | bk env S => cases e; exact post
    | ct env S => cases e; exact post
    | er xn env1 S1 =>
      dsimp only at e
      intro g' c dd σ' H' l ok' en' xr
      obtain ⟨D0, h1, rfl, h3⟩ := xr
      cases hl : tbl.lookup xn.cls with
      | none => rw [hl] at e; cases e
      | some b =>
        rw [hl] at e
        obtain ⟨D1, g1, g2⟩ := htbl _ (look_mem hl)
        cases h1.symm.trans g1
        refine ⟨b, g2, fun hb a ha => ?_, fun hb => ?_⟩
        · subst hb
          dsimp only at e
          obtain ⟨ra, f1, f2⟩ := Option.bind_eq_some_iff.mp e
          refine ⟨g', env1, S1, ra, ok', en', f1, ?_⟩
          cases ra with
          | nx e2 S2 => cases f2; exact fun g2 σ2 H2 l2 ok2 en2 => post g2 _ H2 (Gh.le_trans l l2) ok2 en2
          | rt d S2 => cases f2; exact fun g2 v H2 l2 ok2 rv => post g2 v H2 (Gh.le_trans l l2) ok2 rv
          | bk e2 S2 => cases f2; exact fun g2 σ2 H2 l2 ok2 en2 => post g2 _ H2 (Gh.le_trans l l2) ok2 en2
          | ct e2 S2 => cases f2; exact fun g2 σ2 H2 l2 ok2 en2 => post g2 _ H2 (Gh.le_trans l l2) ok2 en2
          | er x2 e2 S2 => cases f2
        · subst hb
          dsimp only at e
          cases e
          exact post g' _ dd σ' H' l ok' en' ⟨D0, h1, rfl, h3⟩
/-- isinstance(e, C) in the suite that holds e -/
def isEM (i a : Nat) (b : Bool) (env : Env') : M Dv := match env[i]? with
  | some (some (.exc a')) => if a' = a then pure (.bl b) else stuck
  | _ => stuck
theorem sn_isE {B : Bs} {W : WX} {i a : Nat} {b : Bool} {v : V} {cv : Value} {D : Addr} (hv : ∀ u, RelV v u → u = cv) (hk : PySem.W.kitOne B.K (.ref D) cv = some b) :
    Sn B W (fun g => Rp B.K g) (fun σ H Q => ∃ u, σ[i]? = some (some u) ∧ rIsE B.K D a [u, v] H Q) (isEM i a b) := by
  intro g σ H env S r Q ok en e post
  unfold isEM at e
  cases he : env[i]? with
  | none => rw [he] at e; cases e
  | some o =>
    cases o with
    | none => rw [he] at e; cases e
    | some d =>
      rw [he] at e
      cases d with
      | exc a' =>
        dsimp only at e
        split at e
        · rename_i h
          subst h
          have er := pure_some e
          subst er
          obtain ⟨u, h1, h2⟩ := en.at_ i _ he
          cases h2
          exact ⟨_, h1, v, cv, b, rfl, hv, hk, post g _ H (Gh.le_refl g) ok (.bl b)⟩
        · cases e
      | _ => cases e
/-- the class D of an exception: isinstance tells b of the class x -/
structure IsxE (K : PySem.W.Frag) (mg : Str → Option Value) (c0 x : Str) (b : Bool) : Prop where
  ex : ∃ D, mg c0 = some (.ref D) ∧ ExcC K D ∧ ((∃ C, mg x = some (.ref C) ∧ PySem.W.kitOne K (.ref D) (.ref C) = some b) ∨ ∃ T, mg x = none ∧ bootBuiltins x = some (.type T) ∧ PySem.W.kitOne K (.ref D) (.type T) = some b)
theorem de_isE {W' : WX} {a D : Addr} {oe : Obj} {pn : List (Addr × Obj)} {i : Nat} {n x c0 : Str} {b : Bool} {p p1 p2 pos : Pos} (T : IsxE X.K X.mg c0 x b) (hD : X.mg c0 = some (.ref D)) (hz : Zc (.ref D) none oe) (hv : ∃ vs, oe.data = .fields vs) (hmi : X.mg "isinstance" = none)
    (hN : X.N[i]? = some n := by rfl) (hvis : Vis X.env.scope n := by first | exact Or.inl rfl | exact Or.inr rfl) (hg : Gl X x := by rfl) (hgi : Gl X "isinstance" := by rfl) (hd : (n == ("__debug__" : Str)) = false := by decide) (hcd : (n == ("__classdict__" : Str)) = false := by decide)
    (hdx : (x == ("__debug__" : Str)) = false := by decide) (hnx : x ≠ "__name__" := by decide) :
    DE (X.suite a ((a, oe) :: pn)) W' (.Call (.Name "isinstance" p) [.Name n p1, .Name x p2] [] pos) (isEM i a b) := by
  obtain ⟨D', h1, hC, h2⟩ := T.ex
  cases h1.symm.trans hD
  rcases h2 with ⟨C, h3, h4⟩ | ⟨Tn, h3, h5, h4⟩
  · exact ⟨_, pe_callB (X := X.suite a ((a, oe) :: pn)) (call_isE hC hz hv) hgi hmi (by decide +kernel) (pa_cons (pe_var (X := X.suite a ((a, oe) :: pn)) hN hvis hd hcd) (pa_cons (pe_glob (X := X.suite a ((a, oe) :: pn)) (v := .ref C) hg h3 rfl hdx) pa_nil)) (by decide) (by decide) rfl rfl, sn_isE (v := .ref C) (fun u r => r) h4⟩
  · exact ⟨_, pe_callB (X := X.suite a ((a, oe) :: pn)) (call_isE hC hz hv) hgi hmi (by decide +kernel) (pa_cons (pe_var (X := X.suite a ((a, oe) :: pn)) hN hvis hd hcd) (pa_cons (pe_bltn (X := X.suite a ((a, oe) :: pn)) (v := .ty Tn) hg h3 h5 rfl hnx hdx) pa_nil)) (by decide) (by decide) rfl rfl, sn_isE (v := .ty Tn) (fun u r => r) h4⟩
end
end ML

namespace ML
open PySem PySem.Spec PyProof.Rows L2
section
variable {X : Cx} {W : WX}
/-! ### sum, min, max of a list; count -/
theorem ints_of {K : PySem.W.Frag} {g : Gh} {l : List Dv} {ns : List Int} {vs : List V} (h : intsOf l = some ns) (r : Rps K g l vs) : vs = ns.map V.int := by
  rw [intsOf_eq h] at r
  clear h
  induction ns generalizing vs with
  | nil => cases r; rfl
  | cons n ns ih =>
    cases r with
    | cons a b => cases a; rw [ih b]; rfl
def sumD : Sto → List Dv → Option Dv := fun S ds => match ds with
  | [d] => ((listOf S d).bind intsOf).map fun ns => .int ns.sum
  | _ => none
theorem cd_sum (c : Ct X W) : CallD X (.builtin "sum") (opA sumD) := by
  refine callD0 (cr_sum c.calm) fun g H S ds vs d Q ok rr e q => ?_
  unfold sumD at e
  split at e
  · obtain ⟨ns, e1, rfl⟩ := Option.map_eq_some_iff.mp e
    obtain ⟨l, hl, hb⟩ := Option.bind_eq_some_iff.mp e1
    cases rr with
    | cons r1 r2 =>
      cases r2
      obtain ⟨a, ws, rfl, s, r⟩ := list_at ok r1 hl
      rw [ints_of hb r] at s
      exact ⟨a, ns, rfl, s, q _ (.int _)⟩
  · cases e
def minL : List Int → Int
  | [] => 0
  | [a] => a
  | a :: r => min a (minL r)
def maxL : List Int → Int
  | [] => 0
  | [a] => a
  | a :: r => max a (maxL r)
theorem minL_le : ∀ {l : List Int}, ∀ y ∈ l, minL l ≤ y
  | [a], y, h => by rw [List.mem_singleton.mp h]; exact Int.le_refl _
  | a :: b :: r, y, h => by
    unfold minL
    rcases List.mem_cons.mp h with rfl | h
    · exact Int.min_le_left _ _
    · exact Int.le_trans (Int.min_le_right _ _) (minL_le y h)
theorem minL_mem : ∀ {l : List Int}, 0 < l.length → minL l ∈ l
  | [a], _ => by simp [minL]
  | a :: b :: r, _ => by
    have ih := minL_mem (l := b :: r) (by simp)
    unfold minL
    rcases Int.le_total a (minL (b :: r)) with h | h
    · rw [Int.min_eq_left h]; exact List.mem_cons_self
    · rw [Int.min_eq_right h]; exact List.mem_cons_of_mem _ ih
theorem le_maxL : ∀ {l : List Int}, ∀ y ∈ l, y ≤ maxL l
  | [a], y, h => by rw [List.mem_singleton.mp h]; exact Int.le_refl _
  | a :: b :: r, y, h => by
    unfold maxL
    rcases List.mem_cons.mp h with rfl | h
    · exact Int.le_max_left _ _
    · exact Int.le_trans (le_maxL y h) (Int.le_max_right _ _)
theorem maxL_mem : ∀ {l : List Int}, 0 < l.length → maxL l ∈ l
  | [a], _ => by simp [maxL]
  | a :: b :: r, _ => by
    have ih := maxL_mem (l := b :: r) (by simp)
    unfold maxL
    rcases Int.le_total a (maxL (b :: r)) with h | h
    · rw [Int.max_eq_right h]; exact List.mem_cons_of_mem _ ih
    · rw [Int.max_eq_left h]; exact List.mem_cons_self
def pickD (f : List Int → Int) : Sto → List Dv → Option Dv := fun S ds => match ds with
  | [d] => match (listOf S d).bind intsOf with
    | some ns => if 0 < ns.length then some (.int (f ns)) else none
    | none => none
  | _ => none
theorem cd_min1 (c : Ct X W) : CallD X (.builtin "min") (opA (pickD minL)) := by
  refine callD0 (cr_min c.calm) fun g H S ds vs d Q ok rr e q => ?_
  unfold pickD at e
  split at e
  · split at e
    · rename_i ns e1
      split at e
      · rename_i hp
        cases e
        obtain ⟨l, hl, hb⟩ := Option.bind_eq_some_iff.mp e1
        cases rr with
        | cons r1 r2 =>
          cases r2
          obtain ⟨a, ws, rfl, s, r⟩ := list_at ok r1 hl
          rw [ints_of hb r] at s
          refine ⟨a, ns, rfl, s, hp, fun m h1 h2 => ?_⟩
          have : m = minL ns := Int.le_antisymm (h2 _ (minL_mem hp)) (minL_le m h1)
          rw [this]
          exact q _ (.int _)
      · cases e
    · cases e
  · cases e
theorem cd_max1 (c : Ct X W) : CallD X (.builtin "max") (opA (pickD maxL)) := by
  refine callD0 (cr_max c.calm) fun g H S ds vs d Q ok rr e q => ?_
  unfold pickD at e
  split at e
  · split at e
    · rename_i ns e1
      split at e
      · rename_i hp
        cases e
        obtain ⟨l, hl, hb⟩ := Option.bind_eq_some_iff.mp e1
        cases rr with
        | cons r1 r2 =>
          cases r2
          obtain ⟨a, ws, rfl, s, r⟩ := list_at ok r1 hl
          rw [ints_of hb r] at s
          refine ⟨a, ns, rfl, s, hp, fun m h1 h2 => ?_⟩
          have : m = maxL ns := Int.le_antisymm (le_maxL m h1) (h2 _ (maxL_mem hp))
          rw [this]
          exact q _ (.int _)
      · cases e
    · cases e
  · cases e
def countD : Sto → Dv → List Dv → Option Dv := fun S a ds => match ds with
  | [.int k] => ((listOf S a).bind intsOf).map fun ns => .int (ns.count k : Nat)
  | _ => none
theorem md_count : MtD X "list.count" (opM countD) := by
  refine mtD0 mt_lcount fun g H S a ds v vs d Q ok ra rr e q => ?_
  unfold countD at e
  split at e
  · obtain ⟨ns, e1, rfl⟩ := Option.map_eq_some_iff.mp e
    obtain ⟨l, hl, hb⟩ := Option.bind_eq_some_iff.mp e1
    cases rr with
    | cons r1 r2 =>
      cases r2
      cases r1
      obtain ⟨p, ws, rfl, s, r⟩ := list_at ok ra hl
      rw [ints_of hb r] at s
      exact ⟨p, ns, _, rfl, rfl, s, q g _ H (Gh.le_refl g) ok (.int _)⟩
  · cases e
/-! ### enumerate -/
def enumOf (l : List Dv) : List Dv := l.zipIdx.map fun p => .tup [.int (p.2 : Nat), p.1]
def enumM (ds : List Dv) : M Sr := match ds with
  | [.lst l] => pure fun _ => some (enumOf l)
  | [.scr l] => pure fun _ => some (enumOf l)
  | [.ref n] => fun S => match S[n]? with
    | some (.lst _) => some (.ok (fun S => (listOf S (.ref n)).map enumOf) S)
    | _ => none
  | _ => stuck
theorem jok_enum {B : Bs} {g : Gh} {a : Addr} {d : Dv} (r : Rp B.K g d (.ref a)) {src : Sr} (h : ∀ S, src S = (listOf S d).map enumOf) : JOk B g (Ite B.K a) src := by
  intro g' H S l hl ok hs i
  rw [h] at hs
  obtain ⟨l0, h1, rfl⟩ := Option.map_eq_some_iff.mp hs
  obtain ⟨a', vs, e, s, rr⟩ := list_at ok (r.sub hl) h1
  cases e
  refine ⟨fun hi => ⟨vs, s, by rw [← rr.length]; simpa [enumOf] using hi⟩, fun d' hd => ?_⟩
  unfold enumOf at hd
  rw [List.getElem?_map, List.getElem?_zipIdx] at hd
  cases hd0 : l0[i]? with
  | none => rw [hd0] at hd; cases hd
  | some d0 =>
    rw [hd0] at hd
    simp at hd
    obtain ⟨v, hv, rv⟩ := rr.get hd0
    refine ⟨⟨vs, v, s, hv⟩, fun x H' hy => ?_⟩
    obtain ⟨T, x', rfl, hT, rfl, hx⟩ := hy
    have e := hx vs s
    rw [hv] at e
    cases e
    obtain ⟨hle, ok'⟩ := ok.newF (o := .tup [.int (i : Nat), v]) hT
    refine ⟨_, hle, ok', ?_⟩
    rw [← hd]
    exact .tup (SqT.of upd_same) (.cons (.int _) (.cons (rv.mono hle) .nil))
theorem di_enum {elts : List Expr} {kk : Nat} {tpos p pos : Pos} {a : Expr} {fa : Env' → M (List Dv)} (hm : X.mg "enumerate" = none) (ha : DA X W [a] fa) (hg : Gl X "enumerate" := by rfl) (hs : starEach [a] X.env = [(false, eval a X.env)] := by rfl) :
    DI X W (.Tuple elts kk tpos) (.Call (.Name "enumerate" p) [a] [] pos) (iArg fa enumM) := by
  obtain ⟨t, pa, s, _⟩ := ha
  refine ⟨_, pi_enum hg hm pa hs, Sn.bind (t2 := fun vs _ H1 R => ∃ a xs, vs = [.ref a] ∧ SqL X.K H1 a xs ∧ R (Ite X.K a) H1) (f2 := fun ds _ => enumM ds) s ?_⟩
  intro g σ H env S ds vs res Q ok en rr e post
  have key : ∀ d l src, ds = [d] → listOf S d = some l → (∀ S, src S = (listOf S d).map enumOf) → res = .ok src S → ∃ a xs, vs = [.ref a] ∧ SqL X.K H a xs ∧ Q (Ite X.K a) H := fun d l src hd hl hsrc er => by
    subst hd
    subst er
    cases rr with
    | cons r1 r2 =>
      cases r2
      obtain ⟨a, xs, rfl, sq, _⟩ := list_at ok r1 hl
      exact ⟨a, xs, rfl, sq, post g _ H (Gh.le_refl g) ok (jok_enum r1 hsrc)⟩
  dsimp only at e
  unfold enumM at e
  split at e
  · exact key _ _ _ rfl rfl (fun _ => rfl) (pure_some e)
  · exact key _ _ _ rfl rfl (fun _ => rfl) (pure_some e)
  · rename_i n
    cases hc : S[n]? with
    | none => rw [hc] at e; cases e
    | some c =>
      rw [hc] at e
      cases c with
      | lst l => exact key _ l _ rfl (by simp [listOf, ownOf, hc]) (fun _ => rfl) (Option.some.inj e).symm
      | _ => cases e
  · cases e
/-! ### own dicts with int and text keys -/
def keyD : Dv → Option Key
  | .int i => some (.inl i)
  | .str x => some (.inr x)
  | _ => none
theorem keyD_rp {K : PySem.W.Frag} {g : Gh} {d : Dv} {v : V} {k : Key} (r : Rp K g d v) (h : keyD d = some k) : v = kV k := by
  cases r <;> first | (cases h; rfl) | cases h
def lookD {κ : Type} [DecidableEq κ] (kvs : List (κ × Dv)) (k : κ) : Option Dv := (kvs.find? fun kv => decide (kv.1 = k)).map (·.2)
def putKD {κ : Type} [DecidableEq κ] (kvs : List (κ × Dv)) (k : κ) (v : Dv) : List (κ × Dv) :=
  if (kvs.any fun kv => decide (kv.1 = k)) = true then kvs.map (fun kv => if kv.1 = k then (kv.1, v) else kv) else kvs ++ [(k, v)]
theorem Rkv.val {K : PySem.W.Frag} {g : Gh} {k : Key} : ∀ {ps : List (Key × Dv)} {qs : List (Key × V)}, Rkv K g ps qs → (∀ v, lookD ps k = some v → ∃ w, valV qs k = some w ∧ Rp K g v w) ∧ (lookD ps k = none → valV qs k = none) ∧ (ps.any fun kv => decide (kv.1 = k)) = qs.any fun kv => decide (kv.1 = k)
  | [], [], _ => ⟨fun v h => by simp [lookD] at h, fun _ => rfl, rfl⟩
  | (a, x) :: ps, (b, y) :: qs, ⟨e, r, t⟩ => by
    have e' : a = b := e
    subst e'
    obtain ⟨i1, i2, i3⟩ := Rkv.val (k := k) t
    by_cases h : a = k
    · refine ⟨fun v hv => ⟨y, valV_pos h, ?_⟩, fun hv => ?_, by simp [h]⟩
      · have : v = x := by
          simp [lookD, h] at hv
          exact hv.symm
        rw [this]
        exact r
      · simp [lookD, h] at hv
    · have e1 : lookD ((a, x) :: ps) k = lookD ps k := by simp [lookD, h]
      refine ⟨fun v hv => ?_, fun hv => ?_, by simp [h] at i3 ⊢; exact i3⟩
      · rw [e1] at hv
        rw [valV_neg h]
        exact i1 v hv
      · rw [e1] at hv
        rw [valV_neg h]
        exact i2 hv
  | [], _ :: _, x => x.elim
  | _ :: _, [], x => x.elim
theorem Rkv.app {κ : Type} {K : PySem.W.Frag} {g : Gh} {k : κ} {v : Dv} {w : V} (r : Rp K g v w) : ∀ {ps : List (κ × Dv)} {qs : List (κ × V)}, Rkv K g ps qs → Rkv K g (ps ++ [(k, v)]) (qs ++ [(k, w)])
  | [], [], _ => ⟨rfl, r, trivial⟩
  | _ :: _, _ :: _, ⟨a, b, c⟩ => ⟨a, b, Rkv.app r c⟩
  | [], _ :: _, x => x.elim
  | _ :: _, [], x => x.elim
theorem Rkv.upd {K : PySem.W.Frag} {g : Gh} {k : Key} {v : Dv} {w : V} (r : Rp K g v w) : ∀ {ps : List (Key × Dv)} {qs : List (Key × V)}, Rkv K g ps qs → Rkv K g (ps.map fun kv => if kv.1 = k then (kv.1, v) else kv) (qs.map fun kv => if kv.1 = k then (kv.1, w) else kv)
  | [], [], _ => trivial
  | (a, x) :: ps, (b, y) :: qs, ⟨e, r1, t⟩ => by
    have e' : a = b := e
    subst e'
    rw [List.map_cons, List.map_cons]
    by_cases h : a = k
    · simp only [h, if_true]
      exact ⟨rfl, r, Rkv.upd r t⟩
    · simp only [h, if_false]
      exact ⟨rfl, r1, Rkv.upd r t⟩
  | [], _ :: _, x => x.elim
  | _ :: _, [], x => x.elim
theorem Rkv.putK {K : PySem.W.Frag} {g : Gh} {k : Key} {v : Dv} {w : V} (r : Rp K g v w) {ps : List (Key × Dv)} {qs : List (Key × V)} (h : Rkv K g ps qs) : Rkv K g (putKD ps k v) (L2.putK qs k w) := by
  unfold putKD L2.putK
  rw [(h.val (k := k)).2.2]
  split
  · exact Rkv.upd r h
  · exact Rkv.app r h
theorem Rkv.len' {κ : Type} {K : PySem.W.Frag} {g : Gh} : ∀ {ps : List (κ × Dv)} {qs : List (κ × V)}, Rkv K g ps qs → ps.length = qs.length
  | [], [], _ => rfl
  | _ :: ps, _ :: qs, ⟨_, _, t⟩ => by rw [List.length_cons, List.length_cons, Rkv.len' t]
  | [], _ :: _, x => x.elim
  | _ :: _, [], x => x.elim
def dctOf (S : Sto) : Dv → Option (Nat × List (Key × Dv))
  | .ref n => match S[n]? with
    | some (.dct l) => some (n, l)
    | _ => none
  | _ => none
theorem dct_at {B : Bs} {g : Gh} {H : Hp} {S : Sto} {d : Dv} {v : V} {n : Nat} {l : List (Key × Dv)} (ok : Ok B g H S) (r : Rp B.K g d v) (e : dctOf S d = some (n, l)) :
    ∃ a ws, v = .ref a ∧ S[n]? = some (.dct l) ∧ g.m[n]? = some a ∧ H a = some (.dK ws) ∧ Rkv B.K g l ws := by
  cases d with
  | ref k =>
    simp only [dctOf] at e
    cases hc : S[k]? with
    | none => rw [hc] at e; cases e
    | some c =>
      rw [hc] at e
      cases c with
      | dct l' =>
        cases e
        cases r with
        | ref hm =>
          obtain ⟨vs, h1, h2⟩ := ok.cel _ _ _ hc hm
          exact ⟨_, vs, rfl, hc, hm, h1, h2⟩
      | lst _ => cases e
      | ins _ _ => cases e
      | dead => cases e
      | lck _ => cases e
  | _ => cases e
def dctRd (S : Sto) : Dv → Option (List (Key × Dv))
  | .ref n => match S[n]? with
    | some (.dct l) => some l
    | some (.lck l) => some l
    | _ => none
  | _ => none
theorem dctRd_at {B : Bs} {g : Gh} {H : Hp} {S : Sto} {d : Dv} {v : V} {l : List (Key × Dv)} (ok : Ok B g H S) (r : Rp B.K g d v) (e : dctRd S d = some l) : ∃ a ws, v = .ref a ∧ Rd H a (.dK ws) ∧ Rkv B.K g l ws := by
  cases d with
  | ref k =>
    simp only [dctRd] at e
    cases hc : S[k]? with
    | none => rw [hc] at e; cases e
    | some c =>
      rw [hc] at e
      cases c with
      | dct l' =>
        cases e
        cases r with
        | ref hm =>
          obtain ⟨vs, h1, h2⟩ := ok.cel _ _ _ hc hm
          exact ⟨_, vs, rfl, .inl h1, h2⟩
      | lck l' =>
        cases e
        cases r with
        | ref hm =>
          obtain ⟨od, vs, h1, h2⟩ := ok.cel _ _ _ hc hm
          exact ⟨_, vs, rfl, .inr ⟨od, ok.fz _ _ h1⟩, h2⟩
      | lst _ => cases e
      | ins _ _ => cases e
      | dead => cases e
  | _ => cases e
def getDO (S : Sto) (a b : Dv) : Option Dv := match dctRd S a, keyD b with
  | some l, some k => lookD l k
  | _, _ => none
/-- d[k] -/
theorem de_dget {o i : Expr} {fo fi : Env' → M Dv} {pos : Pos} (c : Ct X W) (ho : DE X W o fo) (hi : DE X W i fi) (hs : NoSl i := by exact fun _ _ => rfl) : DE X W (.Subscript o i pos) (eOp getDO fo fi) := by
  obtain ⟨ta, pa, sa⟩ := ho
  obtain ⟨tb, pb, sb⟩ := hi
  have hu := c.un
  refine ⟨_, pe_dget (by omega) pa pb hs, sn_op (f := fun v u => getItem v u) (r := fun x y H Q => ∃ a v, x = .ref a ∧ DGet H a y (some v) ∧ Q v H) (fun g H S a b x y d Q ok ra rb e q => ?_) sa sb⟩
  unfold getDO at e
  split at e
  · rename_i l k h1 h2
    obtain ⟨p, ws, rfl, e3, e4⟩ := dctRd_at ok ra h1
    have := keyD_rp rb h2
    subst this
    obtain ⟨w, hw, rw'⟩ := (e4.val (k := k)).1 d e
    exact ⟨p, w, rfl, .inl ⟨ws, k, e3, rfl, hw.symm⟩, q g w H (Gh.le_refl g) ok rw'⟩
  · cases e
def newDM (_ : Env') : M Dv := fun S => some (.ok (.ref S.length) (S ++ [.dct []]))
/-- {} -/
theorem de_dnew {pos : Pos} : DE X W (.Dict [] [] pos) newDM := by
  refine ⟨_, pe_dnewK, fun g σ H env S r Q ok en e post p hp => ?_⟩
  cases e
  obtain ⟨hle, ok'⟩ := ok.newC (o := .dK []) (c := .dct []) hp ⟨[], upd_same, trivial⟩
  refine post _ _ _ hle ok' (.ref ?_)
  rw [← ok.len]
  exact Gh.cell_at
def setDM (a b d : Dv) : M Unit := fun S => match keyD b, dctOf S a with
  | some k, some (n, l) => if l.length < sizeLine then some (.ok () (S.set n (.dct (putKD l k d)))) else none
  | _, _ => none
def gSubD (fo fi : Env' → M Dv) (d : Dv) (env : Env') : M Env' := do let a ← fo env; let b ← fi env; setDM a b d; pure env
/-- d[k] = v -/
theorem dg_subD {o i : Expr} {fo fi : Env' → M Dv} {pos : Pos} (c : Ct X W) (ho : DE X W0 o fo) (hi : DE X W0 i fi)
    (ha : ∀ v, assign (.Subscript o i pos) X.env v = (do let ov ← holding [v] (eval o X.env); let iv ← holding [v, ov] (eval i X.env); standAt pos; holding [v, ov, iv] (setItem ov iv v); release [v, ov, iv] []) := by intro _; rfl) : DG X (.Subscript o i pos) [] (gSubD fo fi) := by
  obtain ⟨t, p, s⟩ := ho
  obtain ⟨t2, p2, s2⟩ := hi
  have hu := c.un
  refine ⟨_, pg_sub p p2 (set_dict (by omega)) ha, fun g σ H env S d v env' S' Q ok en r e post => ?_⟩
  unfold gSubD at e
  rcases bind_some (x := fo env) e with ⟨a, S1, e1, e2⟩ | ⟨_, _, _, q⟩
  · refine s g σ H env S _ _ ok en e1 fun g1 v1 H1 l1 ok1 r1 => ?_
    rcases bind_some (x := fi env) e2 with ⟨b, S2, e3, e4⟩ | ⟨_, _, _, q⟩
    · refine s2 g1 σ H1 env S1 _ _ ok1 (en.mono l1) e3 fun g2 v2 H2 l2 ok2 r2 => ?_
      rcases bind_some (x := setDM a b d) e4 with ⟨_, S3, e5, e6⟩ | ⟨_, _, _, q⟩
      · have q := pure_some e6
        cases q
        unfold setDM at e5
        split at e5
        · rename_i k n l hk hl
          split at e5
          · rename_i hz
            cases e5
            obtain ⟨pa, ws, rfl, h1, h2, h3, h4⟩ := dct_at ok2 (r1.mono l2) hl
            have := keyD_rp r2 hk
            subst this
            have l12 := Gh.le_trans l1 l2
            refine ⟨pa, _, rfl, DPut.k h3 (by rw [← h4.len']; exact hz), ?_⟩
            exact post g2 σ _ l12 (ok2.write h1 (by intro z; cases z) h2 ⟨_, upd_same, Rkv.putK (r.mono l12) h4⟩) (en.mono l12) rfl fun _ _ => rfl
          · cases e5
        · cases e5
      · cases q
    · cases q
  · cases q
end
end ML

namespace ML
open PySem PySem.Spec PyProof.Rows L2

/-! ### a written dict of the module with int keys -/
def IVals : List DictEntry → List (Int × Dv) → Prop
  | [], [] => True
  | e :: r, p :: ps => (∃ t, e.key = .int p.1 t) ∧ e.hash = hashInt p.1 ∧ (∃ v, flatK e.val = some (p.2, v)) ∧ IVals r ps
  | _, _ => False
def KTabI (K : PySem.W.Frag) (mg : Str → Option Value) (x : Str) (kvs : List (Int × Dv)) : Prop :=
  ∃ (d : Addr) (es : Array DictEntry) (n : Nat), mg x = some (.ref d) ∧ K.lookup d = some ⟨.type "dict", none, .dict es n, #[]⟩ ∧ (d == sysModules) = false ∧ IVals es.toList kvs
theorem ivals_keys : ∀ {es : List DictEntry} {kvs : List (Int × Dv)}, IVals es kvs → ∀ e ∈ es, ∃ k t, e.key = .int k t ∧ e.hash = hashInt k
  | e :: r, p :: ps, ⟨⟨t, h1⟩, h2, _, h4⟩, x, hx => by
    rcases List.mem_cons.mp hx with rfl | hx
    · exact ⟨p.1, t, h1, h2⟩
    · exact ivals_keys h4 x hx
  | [], [], _, x, hx => by cases hx
theorem ivals_find {z : Int} : ∀ {es : List DictEntry} {kvs : List (Int × Dv)}, IVals es kvs → (match es.find? (fun e => Value.isInt z e.key) with
      | some e => ∃ d v, kvs.lookup z = some d ∧ flatK e.val = some (d, v)
      | none => kvs.lookup z = none)
  | [], [], _ => rfl
  | e :: r, (k, dv) :: ps, ⟨⟨t, h1⟩, h2, ⟨v, hv⟩, h4⟩ => by
    have ih := ivals_find (z := z) h4
    have ek : Value.isInt z e.key = (z == k) := by
      rw [h1]
      show Value.isInt z (.int k t) = _
      unfold Value.isInt
      by_cases h : z = k
      · subst h; simp
      · have h' : k ≠ z := Ne.symm h
        simp only [beq_eq_false_iff_ne.mpr h]
        simpa using h'
    rw [List.find?_cons, ek]
    cases h : z == k with
    | true =>
      have hz := beq_iff_eq.mp h
      subst hz
      exact ⟨dv, v, by simp [List.lookup], hv⟩
    | false =>
      have e4 : ((k, dv) :: ps).lookup z = ps.lookup z := by simp [List.lookup, h]
      rw [e4]
      exact ih
def inKI (kvs : List (Int × Dv)) : Dv → M Dv
  | .int z => pure (.bl (kvs.lookup z).isSome)
  | _ => stuck
def getKI (kvs : List (Int × Dv)) : Dv → M Dv
  | .int z => match kvs.lookup z with
    | some d => pure d
    | none => stuck
  | _ => stuck
section
variable {X : Cx} {W : WX}
theorem mapI {prog : Program} {w : World} {K : PySem.W.Frag} {h : Heap} {d : Addr} {es : Array DictEntry} {n : Nat} {kvs : List (Int × Dv)} (KI : K.In h) (hl : K.lookup d = some ⟨.type "dict", none, .dict es n, #[]⟩) (hv : IVals es.toList kvs) :
    h.MapOf (intKind prog w) d (fun k => findBy Value.isInt es k) :=
  ⟨_, es, n, KI _ _ hl, ⟨rfl, rfl, rfl⟩, rfl, fun e he => by
    obtain ⟨k, t, e1, e2⟩ := ivals_keys hv e (Array.mem_toList_iff.mpr he)
    exact ⟨k, by rw [e1]; exact intKind_is prog w k t, e2⟩, fun _ => rfl⟩
theorem findI {es : Array DictEntry} {kvs : List (Int × Dv)} (hv : IVals es.toList kvs) (z : Int) : ∃ r, findBy Value.isInt es z = r ∧ r.isSome = (kvs.lookup z).isSome ∧ ∀ dv, kvs.lookup z = some dv → ∃ u v, r = some u ∧ flatK u = some (dv, v) := by
  have h := ivals_find (z := z) hv
  refine ⟨_, rfl, ?_⟩
  unfold findBy
  obtain ⟨l⟩ := es
  rw [List.find?_toArray]
  change IVals l kvs at hv
  change (match l.find? (fun e => Value.isInt z e.key) with
      | some e => ∃ d v, kvs.lookup z = some d ∧ flatK e.val = some (d, v)
      | none => kvs.lookup z = none) at h
  cases hf : l.find? (fun e => Value.isInt z e.key) with
  | some e =>
    rw [hf] at h
    obtain ⟨d, v, h1, h2⟩ := h
    refine ⟨by rw [h1]; rfl, fun dv he => ⟨e.val, v, rfl, ?_⟩⟩
    rw [h1] at he
    cases he
    exact h2
  | none =>
    rw [hf] at h
    have h' : kvs.lookup z = none := h
    exact ⟨by rw [h']; rfl, fun dv he => by rw [h'] at he; cases he⟩
theorem op_in_kI {d : Addr} {es : Array DictEntry} {n : Nat} {kvs : List (Int × Dv)} (hl : X.K.lookup d = some ⟨.type "dict", none, .dict es n, #[]⟩) (low : (d == sysModules) = false) (hv : IVals es.toList kvs) :
    OpR X (compareOp .In) (fun x y H Q => ∃ z : Int, x = .int z ∧ y = .ref d ∧ Q (.bl (kvs.lookup z).isSome) H) := by
  intro pins s σ H x y v u Q I rx ry h
  obtain ⟨z, rfl, rfl, q⟩ := h
  obtain ⟨t, rfl⟩ := rx
  cases ry
  obtain ⟨r, h1, h2, _⟩ := findI hv z
  refine wpAny_in_of (PySem.intKind_is X.prog X.w z t) low (mapI (prog := X.prog) I.kIn hl hv) ?_
  rw [h1, h2]
  exact ⟨.bl _, H, I.tok _, rfl, q⟩
theorem ix_kI {d : Addr} {es : Array DictEntry} {n : Nat} {kvs : List (Int × Dv)} (hl : X.K.lookup d = some ⟨.type "dict", none, .dict es n, #[]⟩) (hv : IVals es.toList kvs) :
    IxR X (fun x y H Q => ∃ (z : Int) (dv : Dv), x = .ref d ∧ y = .int z ∧ kvs.lookup z = some dv ∧ ∀ v, (∀ g, Rp X.K g dv v) → Q v H) := by
  intro value slice pins s σ H x y v u Q I rx ry h hs
  obtain ⟨z, dv, rfl, rfl, e, q⟩ := h
  obtain rfl : v = Value.ref d := rx
  obtain ⟨t, rfl⟩ := ry
  obtain ⟨r, h1, _, h3⟩ := findI hv z
  obtain ⟨uu, vv, h4, h5⟩ := h3 dv e
  have hm := mapI (prog := X.prog) (w := X.w) I.kIn hl hv
  have fk := fun g => flatK_ok (K := X.K) (g := g) h5
  exact tail_any hm.typeIs slot_dict_getitem.lookup (wpAny_getItem_of (intKind_is X.prog X.w z t) hm (h1.trans h4) ⟨vv, H, I.tok _, (fk ⟨H, [], []⟩).2, q vv fun g => (fk g).1⟩) hs
theorem de_inI {x : Str} {a : Expr} {fa : Env' → M Dv} {kvs : List (Int × Dv)} {p pos : Pos} (h : KTabI X.K X.mg x kvs) (ha : DE X W a fa) (hg : Gl X x := by rfl) (hd : (x == ("__debug__" : Str)) = false := by decide) (hm : behindInMarks .In (.Name x p) = false := by rfl) :
    DE X W (.Compare a [.In] [.Name x p] pos) (eBnd fa (inKI kvs)) := by
  obtain ⟨d, es, n, hmg, hl, low, hv⟩ := h
  obtain ⟨t, pa, s⟩ := ha
  refine ⟨_, pe_cmpR (op_in_kI hl low hv) pa (pe_glob (v := .ref d) hg hmg rfl hd) hm, sn_unop (k := fun x H1 Q => ∃ z : Int, x = .int z ∧ V.ref d = .ref d ∧ Q (V.bl (kvs.lookup z).isSome) H1) s fun g σ H S a v r Q ok ra e post => ?_⟩
  cases a with
  | int z =>
    cases ra
    have er := pure_some e
    subst er
    exact ⟨z, rfl, rfl, post g _ H (Gh.le_refl g) ok (.bl _)⟩
  | _ => cases e
theorem dt_inI {x : Str} {a : Expr} {fa : Env' → M Dv} {kvs : List (Int × Dv)} {p pos : Pos} (h : KTabI X.K X.mg x kvs) (ha : DE X W a fa) (hg : Gl X x := by rfl) (hd : (x == ("__debug__" : Str)) = false := by decide) (hm : behindInMarks .In (.Name x p) = false := by rfl) :
    DT X W (.Compare a [.In] [.Name x p] pos) (tB (eBnd fa (inKI kvs))) := by
  obtain ⟨d, es, n, hmg, hl, low, hv⟩ := h
  obtain ⟨t, pa, s⟩ := ha
  refine ⟨_, pt_cmpR (op_in_kI hl low hv) pa (pe_glob (v := .ref d) hg hmg rfl hd) hm, sn_test (sn_unop (k := fun x H1 Q => ∃ z : Int, x = .int z ∧ V.ref d = .ref d ∧ Q (V.bl (kvs.lookup z).isSome) H1) s fun g σ H S a v r Q ok ra e post => ?_)⟩
  cases a with
  | int z =>
    cases ra
    have er := pure_some e
    subst er
    exact ⟨z, rfl, rfl, post g _ H (Gh.le_refl g) ok (.bl _)⟩
  | _ => cases e
theorem de_ixI {x : Str} {b : Expr} {fb : Env' → M Dv} {kvs : List (Int × Dv)} {p pos : Pos} (h : KTabI X.K X.mg x kvs) (hb : DE X W b fb) (hg : Gl X x := by rfl) (hd : (x == ("__debug__" : Str)) = false := by decide) (hs : PlainIx b := by exact fun _ _ => rfl) :
    DE X W (.Subscript (.Name x p) b pos) (eBnd fb (getKI kvs)) := by
  obtain ⟨d, es, n, hmg, hl, low, hv⟩ := h
  obtain ⟨t, pb, s⟩ := hb
  refine ⟨_, pe_ix (ix_kI hl hv) (pe_glob (v := .ref d) hg hmg rfl hd) pb hs, sn_unop (k := fun y H1 Q => ∃ (z : Int) (dv : Dv), V.ref d = .ref d ∧ y = .int z ∧ kvs.lookup z = some dv ∧ ∀ v, (∀ g, Rp X.K g dv v) → Q v H1) s fun g σ H S a v r Q ok ra e post => ?_⟩
  cases a with
  | int z =>
    cases ra
    unfold getKI at e
    dsimp only at e
    cases hk : kvs.lookup z with
    | none => rw [hk] at e; cases e
    | some dv =>
      rw [hk] at e
      have er := pure_some e
      subst er
      exact ⟨z, dv, rfl, rfl, hk, fun v hv => post g v H (Gh.le_refl g) ok (hv g)⟩
  | _ => cases e
/-! ### chains of three -/
abbrev OpS (X : Cx) (o : Sto → Dv → Dv → Option Dv) (r : R2) : Prop := ∀ (g : Gh) (H : Hp) (S : Sto) (a b : Dv) (x y : V) (d : Dv) (Q : VK), Ok X.bs g H S → Rp X.K g a x → Rp X.K g b y → o S a b = some d → (∀ g' v H', g.le g' → Ok X.bs g' H' S → Rp X.K g' d v → Q v H') → r x y H Q
theorem link_last {o : Sto → Dv → Dv → Option Dv} {r : R2} {tc : TE} {fc : Env' → M Dv} (h2 : OpS X o r) (sc : Sn X.bs W (Rv X) tc fc) : Sn1 X.bs W (Rv X) (Rv X) (fun y σ H Q => tc σ H fun w H1 => r y w H1 Q) (fun y env => do let w ← fc env; op2 o y w) := by
  refine Sn1.bind (t3 := fun x y σ H2 Q => r x y H2 Q) (f3 := fun a b _ => op2 o a b) (fun _ _ _ _ l r => Rp.mono l r) sc ?_
  intro g σ H env S a b res Q ok en ⟨r1, r2⟩ e post
  obtain ⟨d, e', er⟩ := lift0_some e
  subst er
  exact h2 g H S a.1 a.2 b.1 b.2 d Q ok r1 r2 e' fun g' v H' l ok' rr => post g' v H' l ok' rr
theorem link_mid {o : Sto → Dv → Dv → Option Dv} {r : R2} {tc : TE} {fc : Env' → M Dv} {t' : V → TE} {f' : Dv → Env' → M Dv} (h2 : OpS X o r) (sc : Sn X.bs W (Rv X) tc fc) (s' : Sn1 X.bs W (Rv X) (Rv X) t' f') :
    Sn1 X.bs W (Rv X) (Rv X) (fun y σ H Q => tc σ H fun w H1 => r y w H1 fun z H2 => ∃ k, z = .bl k ∧ (if k = true then t' w σ H2 Q else Q (.bl false) H2)) (fun y env => do let w ← fc env; let z ← op2 o y w; let k ← asB z; if k = true then f' w env else pure (.bl false)) := by
  refine Sn1.bind (t3 := fun x y σ H2 Q => r x y H2 fun z H3 => ∃ k, z = .bl k ∧ (if k = true then t' y σ H3 Q else Q (.bl false) H3)) (f3 := fun a b env => do let z ← op2 o a b; let k ← asB z; if k = true then f' b env else pure (.bl false)) (fun _ _ _ _ l r => Rp.mono l r) sc ?_
  intro g σ H env S a b res Q ok en ⟨r1, r2⟩ e post
  rcases bind_some (x := op2 o a.1 a.2) e with ⟨z, S1, e1, e2⟩ | ⟨ex, S1, e1, _⟩
  · obtain ⟨d, e', er⟩ := lift0_some e1
    cases er
    refine h2 g H S a.1 a.2 b.1 b.2 z _ ok r1 r2 e' fun g3 v3 H3 l3 ok3 r3 => ?_
    cases z with
    | bl k =>
      cases r3
      have e3 : (if k = true then f' a.2 env else pure (.bl false)) S = some res := e2
      refine ⟨k, rfl, ?_⟩
      cases k with
      | true =>
        rw [if_pos rfl] at e3 ⊢
        exact s' g3 σ H3 env S a.2 b.2 res Q ok3 (en.mono l3) (r2.mono l3) e3 (post.mono l3)
      | false =>
        rw [if_neg Bool.false_ne_true] at e3 ⊢
        have er := pure_some e3
        subst er
        exact post g3 _ H3 l3 ok3 (.bl false)
    | _ => cases e2
  · obtain ⟨d, e', er⟩ := lift0_some e1
    cases er
def chain3F (o o' o2 : Sto → Dv → Dv → Option Dv) (fa fb fc fd : Env' → M Dv) : Env' → M Dv := fun env => do
  let x ← fa env
  (fun y env => do let w ← fb env; let z ← op2 o y w; let k ← asB z; if k = true then (fun y env => do let w ← fc env; let z ← op2 o' y w; let k ← asB z; if k = true then (fun y env => do let w ← fd env; op2 o2 y w) w env else pure (.bl false)) w env else pure (.bl false)) x env
def tChain3 (r r' r2 : R2) (ta tb tc td : TE) : TE := fun σ H Q => ta σ H fun x H1 => tb σ H1 fun y H2 => r x y H2 fun z H3 => ∃ k, z = .bl k ∧ (if k = true then tc σ H3 fun w H4 => r' y w H4 fun z2 H5 => ∃ k2, z2 = .bl k2 ∧ (if k2 = true then td σ H5 fun w2 H6 => r2 w w2 H6 Q else Q (.bl false) H5) else Q (.bl false) H3)
theorem chain3_sn {o o' o2 : Sto → Dv → Dv → Option Dv} {r r' r2 : R2} {ta tb tc td : TE} {fa fb fc fd : Env' → M Dv} (h : OpS X o r) (h' : OpS X o' r') (h2 : OpS X o2 r2) (sa : Sn X.bs W (Rv X) ta fa) (sb : Sn X.bs W (Rv X) tb fb) (sc : Sn X.bs W (Rv X) tc fc) (sd : Sn X.bs W (Rv X) td fd) :
    Sn X.bs W (Rv X) (tChain3 r r' r2 ta tb tc td) (chain3F o o' o2 fa fb fc fd) := by
  have l := link_mid h sb (link_mid h' sc (link_last h2 sd))
  have q := Sn.bind sa l
  exact q
theorem pe_chain3 {op op' op2 : CmpOp} {r r' r2 : R2} {a b c d : Expr} {ta tb tc td : TE} {pos : Pos} (ho : OpR X (compareOp op) r) (ho' : OpR X (compareOp op') r') (ho2 : OpR X (compareOp op2) r2) (ha : PE X a ta) (hb : PE X b tb) (hc : PE X c tc) (hd : PE X d td)
    (hm : lastMarks [op, op', op2] [b, c, d] = false) : PE X (.Compare a [op, op', op2] [b, c, d] pos) (tChain3 r r' r2 ta tb tc td) := by
  refine ⟨fun pins s σ H Q I h => Compare_chain (thn (ha.run pins s σ H _ I h) fun v s1 ⟨x, H1, I1, r1, q1⟩ => chain_link (thn (hb.run pins s1 σ H1 _ I1 q1) fun u s2 ⟨y, H2, I2, r2', q2⟩ => thn (ho pins s2 σ H2 x y v u _ I2 r1 r2' q2) fun d3 s3 ⟨z, H3, I3, r3, k, e, q3⟩ => ?_)) hm⟩
  subst e
  cases r3
  refine wpAny_truthy_bool ?_
  cases k with
  | false => exact ite_ff ⟨.bl false, H3, I3, rfl, q3⟩
  | true =>
    refine ite_tt (chain_link (thn (hc.run pins s3 σ H3 _ I3 q3) fun w s4 ⟨z4, H4, I4, r4, q4⟩ => thn (ho' pins s4 σ H4 y z4 u w _ I4 r2' r4 q4) fun d5 s5 ⟨z5, H5, I5, r5, k2, e2, q5⟩ => ?_))
    subst e2
    cases r5
    refine wpAny_truthy_bool ?_
    cases k2 with
    | false => exact ite_ff ⟨.bl false, H5, I5, rfl, q5⟩
    | true => exact ite_tt (chain_last (thn (hd.run pins s5 σ H5 _ I5 q5) fun w6 s6 ⟨z6, H6, I6, r6, q6⟩ => ho2 pins s6 σ H6 z4 z6 w w6 Q I6 r4 r6 q6))
theorem de_chain3 {op op' op2 : CmpOp} {a b c d : Expr} {fa fb fc fd : Env' → M Dv} {o o' o2 : Sto → Dv → Dv → Option Dv} {pos : Pos} (ho : OpD X (compareOp op) o) (ho' : OpD X (compareOp op') o') (ho2 : OpD X (compareOp op2) o2)
    (ha : DE X W a fa) (hb : DE X W b fb) (hc : DE X W c fc) (hd : DE X W d fd) (hm : lastMarks [op, op', op2] [b, c, d] = false := by with_unfolding_all rfl) : DE X W (.Compare a [op, op', op2] [b, c, d] pos) (chain3F o o' o2 fa fb fc fd) := by
  obtain ⟨r, h1, h2⟩ := ho
  obtain ⟨r', h1', h2'⟩ := ho'
  obtain ⟨r2, h12, h22⟩ := ho2
  obtain ⟨ta, pa, sa⟩ := ha
  obtain ⟨tb, pb, sb⟩ := hb
  obtain ⟨tc, pc, sc⟩ := hc
  obtain ⟨td, pd, sd⟩ := hd
  exact ⟨_, pe_chain3 h1 h1' h12 pa pb pc pd hm, chain3_sn h2 h2' h22 sa sb sc sd⟩
/-! ### o.f += e -/
def addIM (a b : Dv) : M Dv := match a, b with
  | .int i, .int j => pure (.int (i + j))
  | _, _ => stuck
def sAugM (cs : List Str) (f : Str) (fo fv : Env' → M Dv) : SF := fun env S => exS env ((do let o ← fo env; let x ← getF cs f o; let y ← fv env; let z ← addIM x y; setF cs f o z : M Unit) S) fun _ S' => some (.nx env S')
theorem cls_of {B : Bs} {g : Gh} {H : Hp} {S : Sto} {c f : Str} {a : Dv} {p C dx : Addr} {fs : List (Str × V)} (ok : Ok B g H S) (ra : Rp B.K g a (.ref p)) (hH : H p = some (.ins C dx fs)) (e : (∃ r, getF [c] f a S = some r) ∨ ∃ d r, setF [c] f a d S = some r) : B.mg c = some (.ref C) := by
  cases a with
  | ref n =>
    cases hc : S[n]? with
    | none => rcases e with ⟨r, e⟩ | ⟨d, r, e⟩ <;> simp [getF, setF, hc] at e
    | some cc =>
      cases cc with
      | ins c' fs' =>
        have hcc : c' = c := by
          rcases e with ⟨r, e⟩ | ⟨d, r, e⟩
          · unfold getF at e
            simp only [hc] at e
            split at e
            · rename_i hm; simpa using hm
            · cases e
          · unfold setF at e
            simp only [hc] at e
            split at e
            · rename_i hm; simpa using hm.1
            · cases e
        subst hcc
        cases ra with
        | ref hm =>
          obtain ⟨C', dx', ws, h1, h2, _⟩ := ok.cel _ _ _ hc hm
          rw [h2] at hH
          cases hH
          exact h1
      | lst _ => rcases e with ⟨r, e⟩ | ⟨d, r, e⟩ <;> simp [getF, setF, hc] at e
      | dct _ => rcases e with ⟨r, e⟩ | ⟨d, r, e⟩ <;> simp [getF, setF, hc] at e
      | dead => rcases e with ⟨r, e⟩ | ⟨d, r, e⟩ <;> simp [getF, setF, hc] at e
      | lck _ => rcases e with ⟨r, e⟩ | ⟨d, r, e⟩ <;> simp [getF, setF, hc] at e
  | _ => rcases e with ⟨r, e⟩ | ⟨d, r, e⟩ <;> simp [getF, setF] at e
theorem getF_at {B : Bs} {g : Gh} {H : Hp} {S : Sto} {cs : List Str} {f : Str} {a : Dv} {x : V} {r : Rs Dv} (hcs : ∀ c ∈ cs, ClsF B.K B.mg f c) (ok : Ok B g H S) (ra : Rp B.K g a x) (e : getF cs f a S = some r) :
    ∃ p C dx fs v d, x = .ref p ∧ H p = some (.ins C dx fs) ∧ Cls B.K C ∧ NoAttr B.K C f ∧ fs.lookup f = some v ∧ r = .ok d S ∧ Rp B.K g d v := by
  unfold getF at e
  cases a with
  | ref n =>
    dsimp only at e
    cases hc : S[n]? with
    | none => rw [hc] at e; cases e
    | some c =>
      rw [hc] at e
      cases c with
      | ins c fs =>
        dsimp only at e
        split at e
        · rename_i hmem
          obtain ⟨w, hw, rfl⟩ := Option.map_eq_some_iff.mp e
          cases ra with
          | ref hm =>
            obtain ⟨C, dx, ws, h1, h2, h3, h4, h5⟩ := ok.cel _ _ _ hc hm
            obtain ⟨C', g1, g2, g3⟩ := hcs c hmem
            cases g1.symm.trans h1
            obtain ⟨u, l1, l2⟩ := h5.look.1 w hw
            exact ⟨_, C, dx, ws, u, w, rfl, h2, g2, g3, l1, rfl, l2⟩
        · cases e
      | lst _ => cases e
      | dct _ => cases e
      | dead => cases e
      | lck _ => cases e
  | _ => cases e
theorem ds_fldaug {c : Str} {o value : Expr} {f : Str} {fo fv : Env' → M Dv} {pos tpos : Pos} (h : ∀ c' ∈ [c], ClsF X.K X.mg f c') (ho : DE X W o fo) (hv : DE X W value fv) :
    DS X W (.AugAssign (.Attribute o f tpos) .Add value pos) (sAugM [c] f fo fv) := by
  obtain ⟨ta, pa, sa⟩ := ho
  obtain ⟨tv, pv, sv⟩ := hv
  refine ⟨_, ps_fldaug pa pv (rd := rI0 fun i j => .int (i + j)) (fun pins s σ H x y u v Q I rx ry q => iop_add pins s σ H x y u v Q I rx ry q), fun g σ H env S r D ok en e post => ?_⟩
  have main : ∀ q S', ((do let o ← fo env; let x ← getF [c] f o; let y ← fv env; let z ← addIM x y; setF [c] f o z : M Unit) S) = some q → (∀ u S2, q = .ok u S2 → r = .nx env S2) → (∀ x' S2, q = .er x' S2 → r = .er x' env S2) → S' = S →
      sFldAug X.K ta tv (rI0 fun i j => .int (i + j)) f D σ H := fun q S' e1 hq1 hq2 _ => by
    rcases bind_some (x := fo env) e1 with ⟨a, S1, e2, e3⟩ | ⟨ex, S1, e2, e3⟩
    · refine sa g σ H env S _ _ ok en e2 fun g1 x H1 l1 ok1 r1 => ?_
      rcases bind_some (x := getF [c] f a) e3 with ⟨d, S2, e4, e5⟩ | ⟨ex, S2, e4, e5⟩
      · obtain ⟨p, C, dx, fs, v, d', rfl, q2, q3, q4, q5, q6, q7⟩ := getF_at h ok1 r1 e4
        cases q6
        refine ⟨p, C, dx, fs, v, rfl, q2, q3, q4, q5, ?_⟩
        rcases bind_some (x := fv env) e5 with ⟨y, S3, e6, e7⟩ | ⟨ex, S3, e6, e7⟩
        · refine sv g1 σ H1 env S1 _ _ ok1 (en.mono l1) e6 fun g2 yv H2 l2 ok2 r2 => ?_
          rcases bind_some (x := addIM d y) e7 with ⟨z, S4, e8, e9⟩ | ⟨ex, S4, e8, e9⟩
          · cases d with
            | int i =>
              cases y with
              | int j =>
                have er := pure_some e8
                cases er
                cases q7
                cases r2
                refine ⟨i, j, rfl, rfl, ?_⟩
                obtain ⟨p', C', dx', fs', S5, w1, w2, w3, w4, w5, w6, w7⟩ := setF_at (y := .int (i + j)) h ok2 (r1.mono l2) (.int _) e9
                subst w6
                have hr := hq1 () S5 rfl
                subst hr
                cases w1
                have k1 := cls_of ok1 r1 q2 (.inl ⟨_, e4⟩)
                have k2 := cls_of ok2 (r1.mono l2) w2 (.inr ⟨_, _, e9⟩)
                cases k1.symm.trans k2
                exact ⟨_, fs', w2, w5, post g2 _ _ (Gh.le_trans l1 l2) w7 (en.mono (Gh.le_trans l1 l2))⟩
              | _ => cases e8
            | _ => cases e8
          · cases d with
            | int i => cases y with
              | int j => cases e8
              | _ => cases e8
            | _ => cases e8
        · have hr := hq2 ex S3 e7
          subst hr
          exact sv g1 σ H1 env S1 _ _ ok1 (en.mono l1) e6 fun g' c' dd H' l ok' xr => post g' c' dd σ H' (Gh.le_trans l1 l) ok' (en.mono (Gh.le_trans l1 l)) xr
      · obtain ⟨p, C, dx, fs, v, d', rfl, q2, q3, q4, q5, q6, q7⟩ := getF_at h ok1 r1 e4
        cases q6
    · have hr := hq2 ex S1 e3
      subst hr
      exact sa g σ H env S _ _ ok en e2 fun g' c' dd H' l ok' xr => post g' c' dd σ H' l ok' (en.mono l) xr
  rcases exS_cases e with ⟨u, S', e1, e2⟩ | ⟨x', S', e1, e2⟩
  · cases e2
    exact main _ S e1 (fun u S2 h => by cases h; rfl) (fun x' S2 h => by cases h) rfl
  · cases e2
    exact main _ S e1 (fun u S2 h => by cases h) (fun x' S2 h => by cases h; rfl) rfl
end
end ML

namespace ML
open PySem PySem.Spec PyProof.Rows L2

/-! ### a dict locked while it is walked -/
theorem Ok.lockD {B : Bs} {g : Gh} {H : Hp} {S : Sto} {n : Nat} {l : List (Key × Dv)} {a : Addr} {ws : List (Key × V)} (od : Obj) (h : Ok B g H S) (hs : S[n]? = some (.dct l)) (hm : g.m[n]? = some a) (hH : H a = some (.dK ws)) (r : Rkv B.K g l ws) :
    g.le (g.frz a (.frz od (.dK ws))) ∧ Ok B (g.frz a (.frz od (.dK ws))) (upd H a (.frz od (.dK ws))) (S.set n (.lck l)) := by
  have nF : g.F a = none := by
    rcases h.nf n _ a hs hm with z | z
    · exact z
    · cases z
  have hle : g.le (g.frz a (.frz od (.dK ws))) := Gh.frz_le nF
  have hn : n < S.length := (List.getElem?_eq_some_iff.mp hs).1
  have up : ∀ b : Addr, b ≠ a → upd g.F a (.frz od (.dK ws)) b = g.F b := fun b hb => upd_ne hb
  refine ⟨hle, ⟨fun b u e => ?_, by rw [List.length_set]; exact h.len, fun k c b e1 e2 => ?_, fun k c b e1 e2 => ?_, h.inj, fun q hq => ?_⟩⟩
  · have e' : upd g.F a (.frz od (.dK ws)) b = some u := e
    by_cases hb : b = a
    · subst hb
      rw [upd_same] at e' ⊢
      exact e'
    · rw [upd_ne hb] at e' ⊢
      exact h.fz b u e'
  · by_cases hk : n = k
    · subst hk
      rw [List.getElem?_set_self hn] at e1
      cases e1
      cases hm.symm.trans e2
      exact ⟨od, ws, upd_same, r.mono hle⟩
    · rw [List.getElem?_set_ne hk] at e1
      have ne : b ≠ a := fun z => hk (h.inj n k a hm (z ▸ e2))
      have q := h.cel k c b e1 e2
      cases c with
      | lst l => obtain ⟨vs, e, r⟩ := q; exact ⟨vs, by rw [upd_ne ne]; exact e, r.mono hle⟩
      | dct l => obtain ⟨vs, e, r⟩ := q; exact ⟨vs, by rw [upd_ne ne]; exact e, r.mono hle⟩
      | ins c fs =>
        obtain ⟨C, dx, vs, hmg, e, ed, ef, r⟩ := q
        have nd : dx ≠ a := fun z => by rw [z, hH] at ed; cases ed
        exact ⟨C, dx, vs, hmg, by rw [upd_ne ne]; exact e, by rw [upd_ne nd]; exact ed, by show upd g.F a _ dx = none; rw [upd_ne nd]; exact ef, r.mono hle⟩
      | dead => obtain ⟨o, e⟩ := q; exact ⟨o, hle.1 _ _ e⟩
      | lck l => obtain ⟨od', vs, e, r⟩ := q; exact ⟨od', vs, hle.1 _ _ e, r.mono hle⟩
  · by_cases hk : n = k
    · subst hk
      rw [List.getElem?_set_self hn] at e1
      cases e1
      exact .inr (.lck l)
    · rw [List.getElem?_set_ne hk] at e1
      have ne : b ≠ a := fun z => hk (h.inj n k a hm (z ▸ e2))
      rcases h.nf k c b e1 e2 with z | z
      · refine .inl ?_
        show upd g.F a _ b = none
        rw [upd_ne ne]
        exact z
      · exact .inr z
  · obtain ⟨e1, e2, e3⟩ := h.pvt q hq
    have ne : q.1 ≠ a := fun z => e3 n (by rw [z]; exact hm)
    exact ⟨by rw [upd_ne ne]; exact e1, by show upd g.F a _ q.1 = none; rw [upd_ne ne]; exact e2, e3⟩
/-- a dict's lock goes -/
def Gh.unl (g : Gh) (a : Addr) : Gh := ⟨fun b => if b = a then none else g.F b, g.m, g.pv⟩
theorem unl_at {g : Gh} {a b : Addr} {o : HO} {od : Obj} {ws : List (Key × V)} (hF : g.F a = some (.frz od (.dK ws))) (e : g.F b = some o) (hne : o ≠ .frz od (.dK ws)) : (g.unl a).F b = some o := by
  show (if b = a then none else g.F b) = some o
  rw [if_neg (fun z => by rw [z, hF] at e; exact hne (Option.some.inj e).symm)]
  exact e
theorem SqT_unl {K : PySem.W.Frag} {g : Gh} {a b : Addr} {od : Obj} {ws : List (Key × V)} {xs : List V} (hF : g.F a = some (.frz od (.dK ws))) (s : SqT K g.F b xs) : SqT K (g.unl a).F b xs := by
  rcases s with (s | ⟨o, s⟩) | s
  · exact .inl (.inl (unl_at hF s (by intro z; cases z)))
  · exact .inl (.inr ⟨o, unl_at hF s (by intro z; cases z)⟩)
  · exact .inr s
theorem SqL_unl {K : PySem.W.Frag} {g : Gh} {a b : Addr} {od : Obj} {ws : List (Key × V)} {xs : List V} (hF : g.F a = some (.frz od (.dK ws))) (s : SqL K g.F b xs) : SqL K (g.unl a).F b xs := by
  rcases s with (s | ⟨o, s⟩) | s
  · exact .inl (.inl (unl_at hF s (by intro z; cases z)))
  · exact .inl (.inr ⟨o, unl_at hF s (by intro z; cases z)⟩)
  · exact .inr s
mutual
theorem Rp.unl {K : PySem.W.Frag} {g : Gh} {a : Addr} {od : Obj} {ws : List (Key × V)} (hF : g.F a = some (.frz od (.dK ws))) : ∀ {d : Dv} {v : V}, Rp K g d v → Rp K (g.unl a) d v
  | _, _, .non => .non
  | _, _, .bl b => .bl b
  | _, _, .int i => .int i
  | _, _, .str x => .str x
  | _, _, .ty n => .ty n
  | _, _, .exc n => .exc n
  | _, _, .tup s r => .tup (SqT_unl hF s) (Rps.unl hF r)
  | _, _, .lst s r => .lst (unl_at hF s (by intro z; cases z)) (Rps.unl hF r)
  | _, _, .scr s r => .scr (SqL_unl hF s) (Rps.unl hF r)
  | _, _, .ref e => .ref e
theorem Rps.unl {K : PySem.W.Frag} {g : Gh} {a : Addr} {od : Obj} {ws : List (Key × V)} (hF : g.F a = some (.frz od (.dK ws))) : ∀ {d : List Dv} {v : List V}, Rps K g d v → Rps K (g.unl a) d v
  | _, _, .nil => .nil
  | _, _, .cons r t => .cons (Rp.unl hF r) (Rps.unl hF t)
end
theorem Rkv.unl {κ : Type} {K : PySem.W.Frag} {g : Gh} {a : Addr} {od : Obj} {ws : List (Key × V)} (hF : g.F a = some (.frz od (.dK ws))) : ∀ {ps : List (κ × Dv)} {qs : List (κ × V)}, Rkv K g ps qs → Rkv K (g.unl a) ps qs
  | [], [], _ => trivial
  | _ :: _, _ :: _, ⟨p, q, c⟩ => ⟨p, q.unl hF, Rkv.unl hF c⟩
  | [], _ :: _, x => x.elim
  | _ :: _, [], x => x.elim
theorem Ok.unlockD {B : Bs} {g : Gh} {H : Hp} {S : Sto} {n : Nat} {l : List (Key × Dv)} {a : Addr} {ws : List (Key × V)} {od : Obj} (h : Ok B g H S) (hs : S[n]? = some (.lck l)) (hm : g.m[n]? = some a) (hF : g.F a = some (.frz od (.dK ws))) :
    Ok B (g.unl a) (upd H a (.dK ws)) (S.set n (.dct l)) := by
  have hn : n < S.length := (List.getElem?_eq_some_iff.mp hs).1
  have hH := h.fz _ _ hF
  have rr : Rkv B.K g l ws := by
    obtain ⟨od', ws', e, r⟩ := h.cel n _ a hs hm
    rw [hF] at e
    cases e
    exact r
  have nb : ∀ b : Addr, b ≠ a → (g.unl a).F b = g.F b := fun b hb => if_neg hb
  refine ⟨fun b u e => ?_, by rw [List.length_set]; exact h.len, fun k c b e1 e2 => ?_, fun k c b e1 e2 => ?_, h.inj, fun q hq => ?_⟩
  · have e' : (if b = a then none else g.F b) = some u := e
    by_cases hb : b = a
    · rw [if_pos hb] at e'
      cases e'
    · rw [if_neg hb] at e'
      rw [upd_ne hb]
      exact h.fz b u e'
  · by_cases hk : n = k
    · subst hk
      rw [List.getElem?_set_self hn] at e1
      cases e1
      cases hm.symm.trans e2
      exact ⟨ws, upd_same, rr.unl hF⟩
    · rw [List.getElem?_set_ne hk] at e1
      have ne : b ≠ a := fun z => hk (h.inj n k a hm (z ▸ e2))
      have q := h.cel k c b e1 e2
      cases c with
      | lst l => obtain ⟨vs, e, r⟩ := q; exact ⟨vs, by rw [upd_ne ne]; exact e, r.unl hF⟩
      | dct l => obtain ⟨vs, e, r⟩ := q; exact ⟨vs, by rw [upd_ne ne]; exact e, r.unl hF⟩
      | ins c fs =>
        obtain ⟨C, dx, vs, hmg, e, ed, ef, r⟩ := q
        have nd : dx ≠ a := fun z => by rw [z, hH] at ed; cases ed
        exact ⟨C, dx, vs, hmg, by rw [upd_ne ne]; exact e, by rw [upd_ne nd]; exact ed, by rw [nb dx nd]; exact ef, r.unl hF⟩
      | dead => obtain ⟨o, e⟩ := q; exact ⟨o, by rw [nb b ne]; exact e⟩
      | lck l => obtain ⟨od', vs, e, r⟩ := q; exact ⟨od', vs, by rw [nb b ne]; exact e, r.unl hF⟩
  · by_cases hk : n = k
    · subst hk
      cases hm.symm.trans e2
      exact .inl (if_pos rfl)
    · rw [List.getElem?_set_ne hk] at e1
      have ne : b ≠ a := fun z => hk (h.inj n k a hm (z ▸ e2))
      rcases h.nf k c b e1 e2 with z | z
      · exact .inl (by rw [nb b ne]; exact z)
      · exact .inr z
  · obtain ⟨e1, e2, e3⟩ := h.pvt q hq
    have ne : q.1 ≠ a := fun z => e3 n (by rw [z]; exact hm)
    exact ⟨by rw [upd_ne ne]; exact e1, by rw [nb _ ne]; exact e2, e3⟩
section
variable {X : Cx} {W : WX}
/-- an expression under the lock of the dict cell that fn tells -/
def eLock (fn : Env' → Sto → Option Nat) (f : Env' → M Dv) (env : Env') : M Dv := fun S => match fn env S with
  | some n => match S[n]? with
    | some (.dct l) => match f env (S.set n (.lck l)) with
      | some (.ok v S2) => match S2[n]? with
        | some (.lck l2) => some (.ok v (S2.set n (.dct l2)))
        | _ => none
      | _ => none
    | _ => none
  | none => none
theorem de_lock {e : Expr} {f : Env' → M Dv} (fn : Env' → Sto → Option Nat) (h : DE X W e f) : DE X W e (eLock fn f) := by
  obtain ⟨t, p, s⟩ := h
  refine ⟨_, pe_lock p, fun g σ H env S r Q ok en e post => ?_⟩
  unfold eLock at e
  cases hn : fn env S with
  | none => rw [hn] at e; cases e
  | some n =>
    rw [hn] at e
    dsimp only at e
    cases hc : S[n]? with
    | none => rw [hc] at e; cases e
    | some c =>
      rw [hc] at e
      cases c with
      | dct l =>
        dsimp only at e
        obtain ⟨a, hm⟩ := ok.adr hc
        obtain ⟨ws, h1, h2⟩ := ok.cel _ _ _ hc hm
        refine ⟨a, .dK ws, h1, trivial, fun od => ?_⟩
        obtain ⟨hle, ok1⟩ := ok.lockD od hc hm h1 h2
        have nF : g.F a = none := by
          rcases ok.nf n _ a hc hm with z | z
          · exact z
          · cases z
        cases hf : f env (S.set n (.lck l)) with
        | none => rw [hf] at e; cases e
        | some rr =>
          rw [hf] at e
          cases rr with
          | er _ _ => cases e
          | ok v S2 =>
            dsimp only at e
            refine s _ σ _ env _ _ _ ok1 (en.mono hle) hf fun g2 w H2 l2 ok2 rv => ?_
            have hF2 : g2.F a = some (.frz od (.dK ws)) := l2.1 a _ upd_same
            have hm2 : g2.m[n]? = some a := l2.2.1 n a hm
            refine ⟨ok2.fz a _ hF2, ?_⟩
            cases hc2 : S2[n]? with
            | none => rw [hc2] at e; cases e
            | some c2 =>
              rw [hc2] at e
              cases c2 with
              | lck l3 =>
                cases e
                refine post (g2.unl a) w _ ⟨fun b o hb => ?_, fun k b hb => l2.2.1 k b hb, l2.2.2⟩ (ok2.unlockD hc2 hm2 hF2) (rv.unl hF2)
                show (if b = a then none else g2.F b) = some o
                have nb : b ≠ a := fun z => by rw [z, nF] at hb; cases hb
                rw [if_neg nb]
                exact l2.1 b o (hle.1 b o hb)
              | _ => cases e
      | _ => cases e
/-- the keys of a locked dict -/
def keyV : Key → Dv
  | .inl i => .int i
  | .inr x => .str x
theorem keyV_rp {K : PySem.W.Frag} {g : Gh} : ∀ k : Key, Rp K g (keyV k) (kV k)
  | .inl i => .int i
  | .inr x => .str x
def keysM (d : Dv) : M Sr := fun S => match d with
  | .ref n => match S[n]? with
    | some (.lck l) => some (.ok (fun _ => some (l.map fun p => keyV p.1)) S)
    | _ => none
  | _ => none
def iKeysL (f : Env' → M Dv) (env : Env') : M Sr := do let d ← f env; keysM d
theorem Rkv.get {κ : Type} {K : PySem.W.Frag} {g : Gh} : ∀ {ps : List (κ × Dv)} {qs : List (κ × V)}, Rkv K g ps qs → ∀ (i : Nat) p, ps[i]? = some p → ∃ v, qs[i]? = some (p.1, v) ∧ Rp K g p.2 v
  | p :: ps, q :: qs, ⟨h1, h2, _⟩, 0, x, hx => by
    have : p = x := by simpa using hx
    subst this
    exact ⟨q.2, by rw [h1]; rfl, h2⟩
  | _ :: _, _ :: _, ⟨_, _, t⟩, i + 1, x, hx => by
    obtain ⟨v, a, b⟩ := Rkv.get t i x (by simpa using hx)
    exact ⟨v, by simpa using a, b⟩
  | [], [], _, i, x, hx => by simp at hx
  | [], _ :: _, x, _, _, _ => x.elim
  | _ :: _, [], x, _, _, _ => x.elim
theorem di_keys {tg e : Expr} {f : Env' → M Dv} (h : DE X W e f) : DI X W tg e (iKeysL f) := by
  obtain ⟨t, p, s⟩ := h
  refine ⟨_, pi_keys p, Sn.bind (t2 := fun x _ H1 R => ∃ d o, x = .ref d ∧ ((∃ kvs, H1 d = some (.frz o (.dK kvs)) ∧ R (Itk d o kvs) H1) ∨ ∃ kvs, H1 d = some (.frz o (.dT kvs)) ∧ R (Itkt d o kvs) H1)) (f2 := fun d _ => keysM d) s ?_⟩
  intro g σ H env S a b res Q ok en rr e post
  dsimp only at e
  unfold keysM at e
  cases a with
  | ref n =>
    dsimp only at e
    cases hc : S[n]? with
    | none => rw [hc] at e; cases e
    | some c =>
      rw [hc] at e
      cases c with
      | lck l =>
        cases e
        cases rr with
        | ref hm =>
          obtain ⟨od, ws, h1, h2⟩ := ok.cel _ _ _ hc hm
          refine ⟨_, od, rfl, .inl ⟨ws, ok.fz _ _ h1, post g _ H (Gh.le_refl g) ok ?_⟩⟩
          intro g' H' S' l' hl ok' hs i
          cases hs
          have hF := hl.1 _ _ h1
          have hH := ok'.fz _ _ hF
          refine ⟨fun hi => ⟨hH, by rw [← h2.len']; simpa using hi⟩, fun d' hd => ?_⟩
          rw [List.getElem?_map] at hd
          obtain ⟨pp, hp, rfl⟩ := Option.map_eq_some_iff.mp hd
          obtain ⟨v, hv, _⟩ := h2.get i pp hp
          refine ⟨⟨hH, (List.getElem?_eq_some_iff.mp hv).1⟩, fun x H2 hy => ?_⟩
          obtain ⟨rfl, k, v', e1, rfl⟩ := hy
          rw [hv] at e1
          cases e1
          exact ⟨g', Gh.le_refl g', ok', keyV_rp _⟩
      | _ => cases e
  | _ => cases e
end
end ML

namespace ML
open PySem PySem.Spec PyProof.Rows L2

/-! ### dict comprehensions -/
open Classical in
noncomputable def compDL (src : Sr) (l0 : List Dv) (el : Dv → M (Option (Key × Dv))) : List Dv → List (Key × Dv) → M (List (Key × Dv))
  | [], acc => fun S => if src S = some l0 then some (.ok acc S) else none
  | d :: r, acc => fun S => if src S = some l0 then (match el d S with
    | some (.ok (some (k, y)) S') => if acc.length < sizeLine then compDL src l0 el r (putKD acc k y) S' else none
    | some (.ok none S') => compDL src l0 el r acc S'
    | _ => none) else none
noncomputable def compDM (src : Sr) (el : Dv → M (Option (Key × Dv))) : M (List (Key × Dv)) := fun S => match src S with
  | some l => compDL src l el l [] S
  | none => none
def elDM (vs : List Nat) (gf : Dv → Env' → M Env') (ft : Env' → M Bool) (fk fv : Env' → M Dv) (env : Env') (d : Dv) : M (Option (Key × Dv)) := do
  let env' ← gf d (wipeE env vs)
  let b ← ft env'
  if b = true then (do let kd ← fk env'; let y ← fv env'; match keyD kd with | some k => pure (some (k, y)) | none => stuck) else pure none
section
variable {X : Cx} {W : WX}
theorem compD_read {tg : Expr} {ifs : List Expr} {elt : Expr} {scope : Scope} {vs : List Nat} {gf : Dv → Env' → M Env'} {ft : Env' → M Bool} {fk fv : Env' → M Dv} {g : TG} {tt : TT} {tk tv : TE}
    (hg : ∀ (g1 : Gh) (σ : L2.St) (H : Hp) (env : Env') (S : Sto) (d : Dv) (v : V) (env' : Env') (S' : Sto) (Q : L2.St → Hp → Prop), Ok X.bs g1 H S → En X.bs g1 σ env → Rp X.K g1 d v → gf d env S = some (.ok env' S') →
      (∀ g' σ' H', g1.le g' → Ok X.bs g' H' S' → En X.bs g' σ' env' → σ'.length = σ.length → (∀ j : Nat, j ∉ vs → σ'[j]? = σ[j]?) → Q σ' H') → g v σ H Q)
    (ht : Sn X.bs W0 Re tt ft) (hk : Sn X.bs W0 (Rv X) tk fk) (he : Sn X.bs W0 (Rv X) tv fv) {J : It} {src : Sr} {g0 : Gh} {σ : L2.St} {H1 : Hp} {env : Env'} {S S' : Sto} {res : List (Key × Dv)} {Q : VK} (ok : Ok X.bs g0 H1 S) (en : En X.bs g0 σ env) (hj : JOk X.bs g0 J src)
    (e : compDM src (elDM vs gf ft fk fv env) S = some (.ok res S'))
    (post : ∀ g' D acc H', g0.F D = none → g'.pv = (D, .dK acc) :: g0.pv → (∀ q ∈ g0.pv, q.1 ≠ D) → (∀ a o, g0.F a = some o → g'.F a = some o) → (∀ (n : Nat) (a : Addr), g0.m[n]? = some a → g'.m[n]? = some a) → Ok X.bs g' H' S' → Rkv X.K g' res acc → Q (.ref D) H') :
    ∀ D, H1 D = none → ∃ W : Nat → Nat → Hp → Prop, (∃ m, W 0 m (upd H1 D (.dK []))) ∧ ∀ i m H, W i m H →
      (J.stop i H ∧ Q (.ref D) H) ∨ (J.go i H ∧ ∃ Nx : Hp → Prop, (∀ H', Nx H' → ∃ m', m' < m ∧ W (i + 1) m' H') ∧ ∀ x H', J.yld i H x H' → g x (wipe σ vs) H' fun σ2 H2 => wipe σ2 vs = wipe σ vs ∧ tt σ2 H2 fun b H3 =>
        if b = true then tk σ2 H3 fun y H4 => tv σ2 H4 fun z H5 => ∃ kvs k, y = kV k ∧ H5 D = some (.dK kvs) ∧ kvs.length < sizeLine ∧ Nx (upd H5 D (.dK (L2.putK kvs k z))) else Nx H3) := by
  intro D hD
  unfold compDM at e
  split at e
  · rename_i l0 hl0
    have hfD := ok.free hD
    have hnp : ∀ q ∈ g0.pv, q.1 ≠ D := fun q hq => ne_of_none (ok.pvt q hq).1 hD
    -- the invariant: the rest of the walk
    let Wv : Nat → Nat → Hp → Prop := fun i m H => ∃ (gg : Gh) (SS : Sto) (acc : List (Key × Dv)) (va : List (Key × V)), m = l0.length - i ∧ i ≤ l0.length ∧ gg.pv = (D, .dK va) :: g0.pv ∧ g0.sub gg ∧
      Ok X.bs gg H SS ∧ Rkv X.K gg acc va ∧ compDL src l0 (elDM vs gf ft fk fv env) (l0.drop i) acc SS = some (.ok res S')
    refine ⟨Wv, ⟨l0.length, g0.priv D (.dK []), S, [], [], by simp, Nat.zero_le _, rfl, ⟨fun _ _ e => e, fun _ _ e => e⟩, ok.priv hD, trivial, by rw [List.drop_zero]; exact e⟩, ?_⟩
    rintro i m H ⟨gg, SS, acc, va, rfl, hi, hpv, hsub, okk, racc, ec⟩
    by_cases hlt : i < l0.length
    · have hdrop : l0.drop i = l0[i] :: l0.drop (i + 1) := List.drop_eq_getElem_cons hlt
      rw [hdrop] at ec
      unfold compDL at ec
      split at ec
      · rename_i hsrc
        obtain ⟨_, hj2⟩ := hj gg H SS l0 hsub okk hsrc i
        obtain ⟨hgo, hyld⟩ := hj2 l0[i] (List.getElem?_eq_getElem hlt)
        refine .inr ⟨hgo, fun H' => Wv (i + 1) (l0.length - (i + 1)) H', fun H' w => ⟨_, by omega, w⟩, fun x H' hy => ?_⟩
        obtain ⟨g2, hl2, ok2, r2⟩ := hyld x H' hy
        have en2 : En X.bs g2 (L2.wipe σ vs) (wipeE env vs) := (en.wipe vs).sub (Gh.sub_trans hsub hl2.sub)
        -- the element
        have el : ∀ (o : Option (Key × Dv)) (S1 : Sto), elDM vs gf ft fk fv env l0[i] SS = some (.ok o S1) → (match o with
            | some (k, y) => if acc.length < sizeLine then compDL src l0 (elDM vs gf ft fk fv env) (l0.drop (i + 1)) (putKD acc k y) S1 else none
            | none => compDL src l0 (elDM vs gf ft fk fv env) (l0.drop (i + 1)) acc S1) = some (.ok res S') →
            g x (L2.wipe σ vs) H' fun σ2 H2 => L2.wipe σ2 vs = L2.wipe σ vs ∧ tt σ2 H2 fun b H3 =>
              if b = true then tk σ2 H3 fun y H4 => tv σ2 H4 fun z H5 => ∃ kvs k, y = kV k ∧ H5 D = some (.dK kvs) ∧ kvs.length < sizeLine ∧ Wv (i + 1) (l0.length - (i + 1)) (upd H5 D (.dK (L2.putK kvs k z))) else Wv (i + 1) (l0.length - (i + 1)) H3 := fun o S1 eo ho => by
          unfold elDM at eo
          rcases bind_some (x := gf l0[i] (wipeE env vs)) eo with ⟨env', S2, e1, e2⟩ | ⟨_, _, _, q⟩
          · refine hg g2 (L2.wipe σ vs) H' (wipeE env vs) SS l0[i] x env' S2 _ ok2 en2 r2 e1 fun g3 σ3 H3 l3 ok3 en3 len3 k3 => ⟨wipe_same (by rw [len3, L2.wipe_length]) fun j hj => k3 j hj, ?_⟩
            rcases bind_some (x := ft env') e2 with ⟨b, S3, e3, e4⟩ | ⟨_, _, _, q⟩
            · refine ht g3 σ3 H3 env' S2 _ _ ok3 en3 e3 fun g4 b' H4 l4 ok4 rb => ?_
              cases rb
              have pv4 : g4.pv = (D, .dK va) :: g0.pv := by rw [l4.2.2, l3.2.2, hl2.2.2]; exact hpv
              have sub4 : gg.sub g4 := (Gh.le_trans hl2 (Gh.le_trans l3 l4)).sub
              cases b with
              | true =>
                rw [if_pos rfl] at e4 ⊢
                rcases bind_some (x := fk env') e4 with ⟨kd, S4, e5, e6⟩ | ⟨_, _, _, q⟩
                · refine hk g4 σ3 H4 env' S3 _ _ ok4 (en3.mono l4) e5 fun g5 kv H5 l5 ok5 rk => ?_
                  rcases bind_some (x := fv env') e6 with ⟨y, S5, e7, e8⟩ | ⟨_, _, _, q⟩
                  · refine he g5 σ3 H5 env' S4 _ _ ok5 (en3.mono (Gh.le_trans l4 l5)) e7 fun g6 yv H6 l6 ok6 ry => ?_
                    cases hkd : keyD kd with
                    | none => rw [hkd] at e8; cases e8
                    | some k =>
                      rw [hkd] at e8
                      have q := pure_some e8
                      cases q
                      dsimp only at ho
                      split at ho
                      · rename_i hlen
                        have pv6 : g6.pv = (D, .dK va) :: g0.pv := by rw [l6.2.2, l5.2.2]; exact pv4
                        obtain ⟨p1, _, _⟩ := ok6.pvt (D, .dK va) (by rw [pv6]; exact List.mem_cons_self)
                        have sub6 : gg.sub g6 := Gh.sub_trans sub4 (Gh.le_trans l5 l6).sub
                        refine ⟨va, k, keyD_rp rk hkd, p1, by rw [← racc.len']; exact hlen, ?_⟩
                        have ok7 := ok6.privSet (o' := .dK (L2.putK va k yv)) pv6 hnp (by intro z h; cases h)
                        have s67 : g6.sub ⟨g6.F, g6.m, (D, .dK (L2.putK va k yv)) :: g0.pv⟩ := ⟨fun _ _ e => e, fun _ _ e => e⟩
                        exact ⟨_, S1, putKD acc k y, L2.putK va k yv, rfl, hlt, rfl, Gh.sub_trans hsub (Gh.sub_trans sub6 s67), ok7, Rkv.putK (ry.sub s67) (racc.sub (Gh.sub_trans sub6 s67)), ho⟩
                      · cases ho
                  · cases q
                · cases q
              | false =>
                rw [if_neg Bool.false_ne_true] at e4 ⊢
                have q := pure_some e4
                cases q
                exact ⟨g4, S1, acc, va, rfl, hlt, pv4, Gh.sub_trans hsub sub4, ok4, racc.sub sub4, ho⟩
            · cases q
          · cases q
        cases eel : elDM vs gf ft fk fv env l0[i] SS with
        | none => rw [eel] at ec; cases ec
        | some oo =>
          rw [eel] at ec
          cases oo with
          | er _ _ => cases ec
          | ok o S1 =>
            cases o with
            | some y => exact el (some y) S1 eel ec
            | none => exact el none S1 eel ec
      · cases ec
    · have hdrop : l0.drop i = [] := List.drop_eq_nil_of_le (by omega)
      rw [hdrop] at ec
      unfold compDL at ec
      split at ec
      · rename_i hsrc
        obtain ⟨hj1, _⟩ := hj gg H SS l0 hsub okk hsrc i
        cases ec
        exact .inl ⟨hj1 (by omega), post gg D va H hfD hpv hnp hsub.1 hsub.2 okk racc⟩
      · cases ec
  · cases e
theorem compD_cell {B : Bs} {g0 g' : Gh} {D : Addr} {acc : List (Key × V)} {H' : Hp} {S : Sto} {res : List (Key × Dv)} {Q : VK} {Wx : XK} (pv : g'.pv = (D, .dK acc) :: g0.pv) (hn : ∀ q ∈ g0.pv, q.1 ≠ D)
    (h1 : ∀ a o, g0.F a = some o → g'.F a = some o) (h2 : ∀ (n : Nat) (a : Addr), g0.m[n]? = some a → g'.m[n]? = some a) (ok : Ok B g' H' S) (r : Rkv B.K g' res acc) (post : Post B g0 (fun g => Rp B.K g) Q Wx (.ok (.ref S.length) (S ++ [.dct res]))) : Q (.ref D) H' := by
  obtain ⟨p1, p2, p3⟩ := ok.pvt (D, .dK acc) (by rw [pv]; exact List.mem_cons_self)
  have p1 : H' D = some (.dK acc) := p1
  have p2 : g'.F D = none := p2
  have p3 : ∀ n : Nat, g'.m[n]? ≠ some D := p3
  have hlen := ok.len
  have sb : g'.sub ⟨g'.F, g'.m ++ [D], g0.pv⟩ := ⟨fun _ _ e => e, fun n a e => by
    show (g'.m ++ [D])[n]? = some a
    rw [List.getElem?_append_left (List.getElem?_eq_some_iff.mp e).1]
    exact e⟩
  have pos : ∀ (i : Nat) a, (g'.m ++ [D])[i]? = some a → (i < g'.m.length ∧ g'.m[i]? = some a) ∨ (i = g'.m.length ∧ a = D) := fun i a e' => by
    by_cases hi : i < g'.m.length
    · rw [List.getElem?_append_left hi] at e'
      exact .inl ⟨hi, e'⟩
    · rw [List.getElem?_append_right (by omega)] at e'
      cases hk : i - g'.m.length with
      | zero => rw [hk] at e'; simp at e'; exact .inr ⟨by omega, e'.symm⟩
      | succ k => rw [hk] at e'; simp at e'
  have ok' : Ok B ⟨g'.F, g'.m ++ [D], g0.pv⟩ H' (S ++ [.dct res]) := by
    refine ⟨ok.fz, by simp [hlen], fun n c a hs hm => ?_, fun n c a hs hm => ?_, fun i j a e1 e2 => ?_, fun q hq => ?_⟩
    · rcases pos n a hm with ⟨hl, e⟩ | ⟨rfl, rfl⟩
      · rw [List.getElem?_append_left (by omega)] at hs
        have q := ok.cel n c a hs e
        cases c with
        | lst l => obtain ⟨ws, e, r⟩ := q; exact ⟨ws, e, r.sub sb⟩
        | dct l => obtain ⟨ws, e, r⟩ := q; exact ⟨ws, e, r.sub sb⟩
        | ins c fs => obtain ⟨C, dx, ws, hmg, e, ed, ef, r⟩ := q; exact ⟨C, dx, ws, hmg, e, ed, ef, r.sub sb⟩
        | dead => exact q
        | lck l => obtain ⟨od, ws, e, r⟩ := q; exact ⟨od, ws, e, r.sub sb⟩
      · rw [hlen, List.getElem?_append_right (Nat.le_refl _), Nat.sub_self] at hs
        cases hs
        exact ⟨acc, p1, r.sub sb⟩
    · rcases pos n a hm with ⟨hl, e⟩ | ⟨rfl, rfl⟩
      · rw [List.getElem?_append_left (by omega)] at hs
        exact ok.nf n c a hs e
      · exact .inl p2
    · rcases pos i a e1 with ⟨l1, q1⟩ | ⟨q1, rfl⟩
      · rcases pos j a e2 with ⟨_, q2⟩ | ⟨q2, rfl⟩
        · exact ok.inj i j a q1 q2
        · exact (p3 i q1).elim
      · rcases pos j a e2 with ⟨_, q2⟩ | ⟨q2, _⟩
        · exact (p3 j q2).elim
        · rw [q1, q2]
    · obtain ⟨e1, e2, e3⟩ := ok.pvt q (by rw [pv]; exact List.mem_cons_of_mem _ hq)
      refine ⟨e1, e2, fun n e => ?_⟩
      rcases pos n _ e with ⟨_, q1⟩ | ⟨_, q1⟩
      · exact e3 n q1
      · exact hn q hq q1
  refine post ⟨g'.F, g'.m ++ [D], g0.pv⟩ (.ref D) H' ⟨h1, fun n a e => sb.2 n a (h2 n a e), rfl⟩ ok' (.ref ?_)
  show (g'.m ++ [D])[S.length]? = some D
  rw [← hlen]
  simp
noncomputable def dcM (fi : Env' → M Sr) (vs : List Nat) (gf : Dv → Env' → M Env') (ft : Env' → M Bool) (fk fv : Env' → M Dv) (env : Env') : M Dv := do
  let src ← fi env
  fun S => match compDM src (elDM vs gf ft fk fv env) S with
    | some (.ok l S') => some (.ok (.ref S'.length) (S' ++ [.dct l]))
    | _ => none
theorem de_dc {kx vx tg iter : Expr} {ifs : List Expr} {scope : Scope} {own : List (Str × Nat)} {is : List Nat} {pos : Pos} {gf : Dv → Env' → M Env'} {ft : Env' → M Bool} {fk fv : Env' → M Dv} {fi : Env' → M Sr} (c : Ct X W) (hi : DI X W tg iter fi)
    (hg : ∀ (s : Shared) (H : Hp) (C : Addr) (cl : List (Str × Addr)) (fp : List Addr), DG (X.blk s H scope (compEnvC scope cl C X.env) fp) tg is gf)
    (ht : ∀ (s : Shared) (H : Hp) (C : Addr) (cl : List (Str × Addr)) (fp : List Addr), DTs (X.blk s H scope (compEnvC scope cl C X.env) fp) W0 ifs ft)
    (hkk : ∀ (s : Shared) (H : Hp) (C : Addr) (cl : List (Str × Addr)) (fp : List Addr), DE (X.blk s H scope (compEnvC scope cl C X.env) fp) W0 kx fk)
    (he : ∀ (s : Shared) (H : Hp) (C : Addr) (cl : List (Str × Addr)) (fp : List Addr), DE (X.blk s H scope (compEnvC scope cl C X.env) fp) W0 vx fv)
    (hk : blkC X.N X.env.scope scope own = true) (hsub : ∀ j ∈ is, j ∈ own.map (·.2) := by decide) (hs : ∀ x, foldedSetIterable iter X.env x = pure x := by intro _; rfl) : DE X W (.DictComp kx vx [⟨tg, iter, ifs, 0⟩] scope pos) (dcM fi (own.map (·.2)) gf ft fk fv) := by
  obtain ⟨wi, pi, si⟩ := hi
  refine ⟨_, pe_dc (g := tG X.bs is gf) (tt := tSn X.bs W0 Re ft) (tk := tSn X.bs W0 (Rv X) fk) (tv := tSn X.bs W0 (Rv X) fv) c.calm c.nd pi (blkOk_by hk) (fun s H C cl fp => (hg s H C cl fp).pg) (fun s H C cl fp => (ht s H C cl fp).pts) (fun s H C cl fp => (hkk s H C cl fp).pe) (fun s H C cl fp => (he s H C cl fp).pe) hs, ?_⟩
  intro g0 σ H env S r Q ok en e post
  unfold dcM at e
  rcases bind_some (x := fi env) e with ⟨src, S1, e1, e2⟩ | ⟨ex, S1, e1, rfl⟩
  · refine si g0 σ H env S _ _ ok en e1 fun g1 J H1 l1 ok1 hj => ?_
    split at e2
    · rename_i l S' e3
      cases e2
      refine compD_read (vs := own.map (·.2)) (env := env) (tg := tg) (ifs := ifs) (elt := kx) (scope := scope) (fun g2 σ2 H2 env2 S2 d v env' S3 Q2 okk enn rr ee post2 => ?_) sn_self sn_self sn_self ok1 (en.mono l1) hj e3 fun g' D acc H' hf pv hn h1 h2 ok' r' => compD_cell pv hn h1 h2 ok' r' (post.mono l1)
      exact ⟨g2, env2, S2, d, env', S3, okk, enn, rr, ee, fun g' σ' H' l ok' en' hl k => post2 g' σ' H' l ok' en' hl fun j hj => k j fun hm => hj (hsub j hm)⟩
    · cases e2
  · exact si g0 σ H env S _ _ ok en e1 post
end
/-- which dict is walked: a local's field, a local -/
def lkF (i : Nat) (f : Str) : Env' → Sto → Option Nat := fun env S => match env[i]? with
  | some (some (.ref m)) => match S[m]? with
    | some (.ins _ fs) => match fs.lookup f with
      | some (.ref n) => some n
      | _ => none
    | _ => none
  | _ => none
def lkV (i : Nat) : Env' → Sto → Option Nat := fun env _ => match env[i]? with
  | some (some (.ref m)) => some m
  | _ => none
theorem all_nil {α : Type} {p : α → Prop} : ∀ c ∈ ([] : List α), p c := fun _ h => by cases h
theorem all_cons {α : Type} {p : α → Prop} {a : α} {l : List α} (h : p a) (t : ∀ c ∈ l, p c) : ∀ c ∈ a :: l, p c := fun c hc => by
  rcases List.mem_cons.mp hc with rfl | hc
  · exact h
  · exact t c hc
theorem kitCls_of {K : PySem.W.Frag} {D C : Addr} {b : Bool} (h1 : PySem.W.isClsIn K C = true) (h2 : PySem.W.typeIn K (.ref C) = some (.type "type")) (h3 : PySem.W.subIn K (.ref D) (.ref C) = some b) : PySem.W.kitCls K (.ref D) (.ref C) = some b := by
  unfold PySem.W.kitCls
  have h1' : (PySem.W.clsIn K C).isSome = true := h1
  dsimp only
  rw [if_pos (by rw [h1', h2]; decide)]
  exact h3
theorem kit_of {K : PySem.W.Frag} {D C : Addr} {b : Bool} (h1 : PySem.W.isClsIn K C = true) (h2 : PySem.W.typeIn K (.ref C) = some (.type "type")) (h3 : PySem.W.subIn K (.ref D) (.ref C) = some b) (hb : D = C → b = true) : PySem.W.kitOne K (.ref D) (.ref C) = some b := by
  unfold PySem.W.kitOne
  by_cases h : (Value.ref D == Value.ref C) = true
  · rw [if_pos h]
    have : D = C := by
      have e := beq_iff_eq.mp h
      cases e
      rfl
    rw [hb this]
  · rw [if_neg h]
    exact kitCls_of h1 h2 h3
theorem kit_ofT {K : PySem.W.Frag} {D : Addr} {T : String} {b : Bool} (h1 : PySem.W.kitMeta T = true) (h3 : PySem.W.subIn K (.ref D) (.type T) = some b) : PySem.W.kitOne K (.ref D) (.type T) = some b := by
  unfold PySem.W.kitOne
  rw [if_neg (by intro h; cases beq_iff_eq.mp h)]
  unfold PySem.W.kitCls
  dsimp only
  rw [if_pos h1]
  exact h3
theorem exm_ofs {K : PySem.W.Frag} {D C : Addr} {b : Bool} (h0 : PySem.W.subIn K (.ref C) (.type "BaseException") = some true) (h1 : PySem.W.isClsIn K C = true) (h2 : PySem.W.typeIn K (.ref C) = some (.type "type")) (h3 : PySem.W.subIn K (.ref D) (.ref C) = some b) : PySem.W.exmOne K (.ref D) (.ref C) = some b := by
  unfold PySem.W.exmOne
  rw [if_pos (by rw [h0]; decide)]
  exact kitCls_of h1 h2 h3
end ML

namespace ML
open PySem PySem.Spec PyProof.Rows L2

/-! ### reading the mirrors: instances, exceptions, dicts -/
def insAt : Option Cell → Option (Str × List (Str × Dv))
  | some (.ins c fs) => some (c, fs)
  | _ => none
@[simp] theorem insAt_ins {c : Str} {fs : List (Str × Dv)} : insAt (some (.ins c fs)) = some (c, fs) := rfl
@[simp] theorem wm_getF {cs : List Str} {f : Str} {n : Nat} {S : Sto} {P : Rs Dv → Prop} : Wm (getF cs f (.ref n)) S P ↔ wopt (insAt S[n]?) fun p => p.1 ∈ cs ∧ wopt (p.2.lookup f) fun v => P (.ok v S) := by
  unfold Wm getF
  cases h : S[n]? with
  | none => simp [insAt, h]
  | some c => cases c with
    | ins c fs =>
      by_cases hc : c ∈ cs
      · cases hl : fs.lookup f <;> simp [insAt, h, hc, hl]
      · simp [insAt, h, hc]
    | _ => simp [insAt, h]
@[simp] theorem wm_setF {cs : List Str} {f : Str} {n : Nat} {d : Dv} {S : Sto} {P : Rs Unit → Prop} : Wm (setF cs f (.ref n) d) S P ↔ wopt (insAt S[n]?) fun p => (p.1 ∈ cs ∧ p.2.length < 1000) ∧ P (.ok () (S.set n (.ins p.1 (putD f d p.2)))) := by
  unfold Wm setF
  cases h : S[n]? with
  | none => simp [insAt, h]
  | some c => cases c with
    | ins c fs => by_cases hc : c ∈ cs ∧ fs.length < 1000 <;> simp [insAt, h, hc]
    | _ => simp [insAt, h]
theorem wm_chkI {c m : Str} {n : Nat} {S : Sto} {P : Rs Unit → Prop} : Wm (chkI c m (.ref n)) S P ↔ wopt (insAt S[n]?) fun p => (p.1 = c ∧ (p.2.lookup m).isNone = true) ∧ P (.ok () S) := by
  have e : chkI c m (.ref n) S = match S[n]? with
    | some (.ins c' fs) => if c' = c ∧ (fs.lookup m).isNone = true then some (.ok () S) else none
    | _ => none := rfl
  unfold Wm
  rw [e]
  generalize S[n]? = o
  cases o with
  | none => simp [insAt]
  | some cc => cases cc with
    | ins c' fs =>
      by_cases hc : c' = c ∧ (fs.lookup m).isNone = true
      · simp only [if_pos hc, insAt, wopt_some]
        constructor
        · rintro ⟨r, e, p⟩
          cases e
          exact ⟨hc, p⟩
        · intro p
          exact ⟨_, rfl, p.2⟩
      · simp only [if_neg hc, insAt, wopt_some]
        constructor
        · rintro ⟨r, e, p⟩
          cases e
        · intro p
          exact absurd p.1 hc
    | _ => simp [insAt]
@[simp] theorem ws_fldM {cs : List Str} {f : Str} {fo fv : Env' → M Dv} {env : Env'} {S : Sto} {P : So → Prop} : Ws (sFldM cs f fo fv) env S P ↔ Wm (do let v ← fv env; let o ← fo env; setF cs f o v : M Unit) S (xk env P fun _ S' => P (.nx env S')) := by
  refine (exS_iff (m := (do let v ← fv env; let o ← fo env; setF cs f o v : M Unit))).trans (xk_congr fun u S' => ?_)
  simp
@[simp] theorem ws_augM {cs : List Str} {f : Str} {fo fv : Env' → M Dv} {env : Env'} {S : Sto} {P : So → Prop} : Ws (sAugM cs f fo fv) env S P ↔ Wm (do let o ← fo env; let x ← getF cs f o; let y ← fv env; let z ← addIM x y; setF cs f o z : M Unit) S (xk env P fun _ S' => P (.nx env S')) := by
  refine (exS_iff (m := (do let o ← fo env; let x ← getF cs f o; let y ← fv env; let z ← addIM x y; setF cs f o z : M Unit))).trans (xk_congr fun u S' => ?_)
  simp
@[simp] theorem wm_addI {i j : Int} {S : Sto} {P : Rs Dv → Prop} : Wm (addIM (.int i) (.int j)) S P ↔ P (.ok (.int (i + j)) S) := wm_pure
@[simp] theorem ws_raise {c : Str} {env : Env'} {S : Sto} {P : So → Prop} : Ws (sRaise c) env S P ↔ P (.er ⟨c, []⟩ env S) := by unfold Ws sRaise; simp
@[simp] theorem at_eMeth (c m : Str) (fo : Env' → M Dv) (fs : Env' → M (List Dv)) (code : List Dv → M Dv) (env : Env') : eMeth c m fo fs code env = (do let a ← fo env; chkI c m a; let ds ← fs env; code (a :: ds)) := rfl
/-- what a make hands on -/
def nk (n : Nat) (P : Rs Dv → Prop) : Rs Dv → Prop
  | .ok .non S' => P (.ok (.ref n) S')
  | .er x S' => P (.er x S')
  | _ => False
@[simp] theorem nk_ok {n : Nat} {P : Rs Dv → Prop} {S : Sto} : nk n P (.ok .non S) = P (.ok (.ref n) S) := rfl
@[simp] theorem nk_er {n : Nat} {P : Rs Dv → Prop} {S : Sto} {x : Exn} : nk n P (.er x S) = P (.er x S) := rfl
@[simp] theorem wm_newI {c : Str} {code : List Dv → M Dv} {ds : List Dv} {S : Sto} {P : Rs Dv → Prop} : Wm (newI c code ds) S P ↔ Wm (code (.ref S.length :: ds)) (S ++ [.ins c []]) (nk S.length P) := by
  unfold Wm newI
  cases code (.ref S.length :: ds) (S ++ [.ins c []]) with
  | none => simp
  | some r => cases r with
    | er x S' => simp
    | ok d S' => cases d <;> simp [nk]
@[simp] theorem wm_newDM {env : Env'} {S : Sto} {P : Rs Dv → Prop} : Wm (newDM env) S P ↔ P (.ok (.ref S.length) (S ++ [.dct []])) := by unfold Wm newDM; simp
/-- what a try hands on -/
def tk (tbl : List (Str × Bool)) (c0 : Str) (i : Nat) (fs : Nat → SF) (P : So → Prop) : So → Prop
  | .er e env1 S1 => match tbl.lookup e.cls with
    | some true => (e.cls = c0 ∧ e.fs = []) ∧ ∃ r, (∀ a, (fs a (env1.set i (some (.exc a))) S1).bind (goneS i) = some r) ∧ P r
    | some false => P (.er e env1 S1)
    | none => False
  | r => P r
@[simp] theorem tk_nx {tbl : List (Str × Bool)} {c0 : Str} {i : Nat} {fs : Nat → SF} {P : So → Prop} {env : Env'} {S : Sto} : tk tbl c0 i fs P (.nx env S) = P (.nx env S) := rfl
@[simp] theorem tk_rt {tbl : List (Str × Bool)} {c0 : Str} {i : Nat} {fs : Nat → SF} {P : So → Prop} {d : Dv} {S : Sto} : tk tbl c0 i fs P (.rt d S) = P (.rt d S) := rfl
theorem ws_tryAs {tbl : List (Str × Bool)} {c0 : Str} {i : Nat} {fb : SF} {fs : Nat → SF} {env : Env'} {S : Sto} {P : So → Prop} (h : Ws fb env S (tk tbl c0 i fs P)) : Ws (sTryAs tbl c0 i fb fs) env S P := by
  obtain ⟨o, e, p⟩ := h
  unfold Ws sTryAs
  rw [e]
  cases o with
  | er x env1 S1 =>
    unfold tk at p
    dsimp only at p ⊢
    cases hl : tbl.lookup x.cls with
    | none => rw [hl] at p; exact p.elim
    | some b =>
      rw [hl] at p
      cases b with
      | true =>
        obtain ⟨hc, r, hr, hp⟩ := p
        dsimp only
        rw [if_pos hc]
        exact ⟨r, uni_eq hr, hp⟩
      | false => exact ⟨_, rfl, p⟩
  | nx e s => exact ⟨_, rfl, p⟩
  | rt e s => exact ⟨_, rfl, p⟩
  | bk e s => exact ⟨_, rfl, p⟩
  | ct e s => exact ⟨_, rfl, p⟩
/-- the same where the suite has no name for it -/
def tk0 (tbl : List (Str × Bool)) (fs : SF) (P : So → Prop) : So → Prop
  | .er e env1 S1 => match tbl.lookup e.cls with
    | some true => wopt ((fs env1 S1).bind bareS) P
    | some false => P (.er e env1 S1)
    | none => False
  | r => P r
theorem ws_tryOnly {tbl : List (Str × Bool)} {fb fs : SF} {env : Env'} {S : Sto} {P : So → Prop} (h : Ws fb env S (tk0 tbl fs P)) : Ws (sTryOnly tbl fb fs) env S P := by
  obtain ⟨o, e, p⟩ := h
  unfold Ws sTryOnly
  rw [e]
  cases o with
  | er x env1 S1 =>
    unfold tk0 at p
    dsimp only at p ⊢
    cases hl : tbl.lookup x.cls with
    | none => rw [hl] at p; exact p.elim
    | some b =>
      rw [hl] at p
      cases b with
      | true => exact p
      | false => exact ⟨_, rfl, p⟩
  | nx e s => exact ⟨_, rfl, p⟩
  | rt e s => exact ⟨_, rfl, p⟩
  | bk e s => exact ⟨_, rfl, p⟩
  | ct e s => exact ⟨_, rfl, p⟩
@[simp] theorem wm_chain3 {o o' o2 : Sto → Dv → Dv → Option Dv} {fa fb fc fd : Env' → M Dv} {env : Env'} : chain3F o o' o2 fa fb fc fd env = (do let x ← fa env; let w ← fb env; let z ← op2 o x w; let k ← asB z; if k = true then (do let w2 ← fc env; let z ← op2 o' w w2; let k ← asB z; if k = true then (do let w3 ← fd env; op2 o2 w2 w3) else pure (.bl false)) else pure (.bl false)) := rfl
@[simp] theorem wm_inI {kvs : List (Int × Dv)} {z : Int} {S : Sto} {P : Rs Dv → Prop} : Wm (inKI kvs (.int z)) S P ↔ P (.ok (.bl (kvs.lookup z).isSome) S) := wm_pure
@[simp] theorem wm_getI {kvs : List (Int × Dv)} {z : Int} {S : Sto} {P : Rs Dv → Prop} : Wm (getKI kvs (.int z)) S P ↔ wopt (kvs.lookup z) fun d => P (.ok d S) := by
  unfold getKI
  dsimp only
  cases kvs.lookup z <;> simp
@[simp] theorem op_sum {S : Sto} {l : List Int} : sumD S [.lst (l.map .int)] = some (.int l.sum) := by
  have : intsOf (l.map .int) = some l := by
    induction l with
    | nil => rfl
    | cons a r ih => simp [intsOf, ih]
  simp [sumD, this]
@[simp] theorem op_pick {f : List Int → Int} {S : Sto} {l : List Int} : pickD f S [.lst (l.map .int)] = gd (0 < l.length) (some (.int (f l))) := by
  have : intsOf (l.map .int) = some l := by
    induction l with
    | nil => rfl
    | cons a r ih => simp [intsOf, ih]
  refine gd_if ?_
  simp [pickD, this]
@[simp] theorem wm_enumL {l : List Dv} {S : Sto} {P : Rs Sr → Prop} : Wm (enumM [.lst l]) S P ↔ P (.ok (fun _ => some (enumOf l)) S) := by unfold enumM; simp
/-! a walk over a source that stands still, turn by turn -/
theorem ws_forn {l0 : List Dv} {gf : Dv → Env' → M Env'} {body : SF} {env : Env'} {S : Sto} {P : So → Prop} : Ws (forL (fun _ => some l0) l0 gf body []) env S P ↔ P (.nx env S) := by
  unfold Ws forL
  rw [if_pos rfl]
  constructor
  · rintro ⟨o, e, p⟩
    cases e
    exact p
  · intro p
    exact ⟨_, rfl, p⟩
theorem ws_forc {l0 : List Dv} {d : Dv} {r : List Dv} {gf : Dv → Env' → M Env'} {body : SF} {env : Env'} {S : Sto} {P : So → Prop} : Ws (forL (fun _ => some l0) l0 gf body (d :: r)) env S P ↔
    Wm (gf d env) S (okK fun e s => Ws body e s (turn (fun e s => Ws (forL (fun _ => some l0) l0 gf body r) e s P) P)) := by
  unfold Ws Wm
  rw [forL]
  dsimp only
  rw [if_pos rfl]
  cases gf d env S with
  | none => simp
  | some q => cases q with
    | er x s => simp [okK]
    | ok e s =>
      dsimp only
      cases hb : body e s with
      | none => simp [hb]
      | some o => cases o <;> simp [hb, turn]
end ML

namespace ML
open PySem PySem.Spec PyProof.Rows L2

/-! ### properties -/
structure PrpE (P : Program) (w : World) (K : PySem.W.Frag) (mg : Str → Option Value) (base : Heap) (k : Nat) (c m : Str) (code : List Dv → M Dv) : Prop where
  ex : ∃ (C p f : Addr) (fd : FuncData) (ps : List Str), mg c = some (.ref C) ∧ Cls K C ∧ PropOf K C m p f ∧ ps.length = 1 ∧ Binds K fd ps [] ∧ FnOk P w K mg base (L2.CX P w) k f fd ps (spOf ⟨K, mg⟩ 1 code)
def noEr {α : Type} (m : M α) : M α := fun S => match m S with
  | some (.ok d S') => some (.ok d S')
  | _ => none
def eProp (c m : Str) (fo : Env' → M Dv) (code : List Dv → M Dv) (env : Env') : M Dv := do let a ← fo env; chkI c m a; noEr (code [a])
def EN : XK := fun _ _ _ => False
section
variable {X : Cx} {W : WX}
theorem de_prop {k : Nat} {c m : Str} {code : List Dv → M Dv} {o : Expr} {fo : Env' → M Dv} {pos : Pos} (F : PrpE X.prog X.w X.K X.mg X.base k c m code) (hr : Room (k + 1) X.A) (ho : DE X W o fo)
    (hab : attributeBase o m X.env (eval o X.env) = eval o X.env := by rfl) : DE X W (.Attribute o m pos) (eProp c m fo code) := by
  obtain ⟨C, p, f, fd, ps, hC, hc, hm, hps, hb, FO⟩ := F.ex
  obtain ⟨ta, pa, sa⟩ := ho
  have hx : Passes (L2.CX X.prog X.w) X.nox EN := by
    rintro pins σ H s u s' I ⟨_, _, _, _, _, _, _, _, _, _, _, _, z⟩
    exact z.elim
  refine ⟨_, pe_prop (E := EN) (dvs := []) (ds := []) pa hc hm FO hr hb .nil hx hab, fun g σ H env S r Q ok en e post => ?_⟩
  rcases bind_some (x := fo env) e with ⟨a, S1, e1, e2⟩ | ⟨x', S', e1, rfl⟩
  · refine sa g σ H env S _ _ ok en e1 fun g1 x H1 l1 ok1 r1 => ?_
    rcases bind_some (x := chkI c m a) e2 with ⟨_, S2, e3, e4⟩ | ⟨x', S', e3, rfl⟩
    · obtain ⟨er, q, dx, fs', rfl, q2, q3⟩ := chkI_at hC ok1 r1 e3
      cases er
      refine ⟨q, dx, fs', rfl, q2, ?_⟩
      unfold noEr at e4
      split at e4
      · rename_i d S3 hcode
        cases e4
        exact ⟨rfl, g1, [a], S1, .ok d S3, ok1, .cons r1 .nil, hcode, fun g2 b H2 l ok2 rb => post g2 b H2 (Gh.le_trans l1 l) ok2 rb⟩
      · cases e4
    · obtain ⟨er, _⟩ := chkI_at hC ok1 r1 e3
      cases er
  · exact sa g σ H env S _ _ ok en e1 post
end
/-! a + b of lists, as a new list that can be changed -/
def addCM (a b : Dv) : M Dv := fun S => match ownOf S a, ownOf S b with
  | some l, some r => if l.length + r.length ≤ sizeLine then some (.ok (.ref S.length) (S ++ [.lst (l ++ r)])) else none
  | _, _ => none
def eAddC (fa fb : Env' → M Dv) (env : Env') : M Dv := do let a ← fa env; let b ← fb env; addCM a b
section
variable {X : Cx} {W : WX}
theorem opC_add : ∃ r : R2, OpR X (binaryOp .Add) r ∧ ∀ (g : Gh) (H : Hp) (S : Sto) (a b : Dv) (x y : V) (res : Rs Dv) (Q : VK) (Wx : XK), Ok X.bs g H S → Rp X.K g a x → Rp X.K g b y → addCM a b S = some res → Post X.bs g (fun g => Rp X.K g) Q Wx res → r x y H Q := by
  refine ⟨_, op_cat, fun g H S a b x y res Q Wx ok ra rb e post => ?_⟩
  unfold addCM at e
  split at e
  · rename_i l r el er
    split at e
    · rename_i hc
      cases e
      obtain ⟨p, vs, rfl, h1, r1⟩ := own_at ok ra el
      obtain ⟨p2, vs2, rfl, h2, r2⟩ := own_at ok rb er
      refine ⟨p, p2, vs, vs2, rfl, rfl, h1, h2, by rw [← r1.length, ← r2.length]; exact hc, fun np hp => ?_⟩
      obtain ⟨hle, ok'⟩ := ok.newC (o := .lst (vs ++ vs2)) (c := .lst (l ++ r)) hp ⟨_, upd_same, (r1.append r2).mono Gh.cell_le⟩
      refine post _ _ _ hle ok' (.ref ?_)
      rw [← ok.len]
      exact Gh.cell_at
    · cases e
  · cases e
theorem de_addC {a b : Expr} {fa fb : Env' → M Dv} {pos : Pos} (ha : DE X W a fa) (hb : DE X W b fb) : DE X W (.BinOp a .Add b pos) (eAddC fa fb) := by
  obtain ⟨r, h1, h2⟩ := opC_add (X := X)
  obtain ⟨ta, pa, sa⟩ := ha
  obtain ⟨tb, pb, sb⟩ := hb
  refine ⟨_, pe_op h1 pa pb, ?_⟩
  show Sn X.bs W (Rv X) (tOp r ta tb) (eAddC fa fb)
  refine Sn.bind (t2 := fun x σ H1 Q => tb σ H1 fun y H2 => r x y H2 Q) (f2 := fun a env => do let b ← fb env; addCM a b) sa (Sn1.bind (t3 := fun x y σ H2 Q => r x y H2 Q) (f3 := fun a b _ => addCM a b) (fun _ _ _ _ l r => Rp.mono l r) sb ?_)
  intro g σ H env S a b res Q ok en ⟨r1, r2⟩ e post
  exact h2 g H S a.1 a.2 b.1 b.2 res Q _ ok r1 r2 e post
end
/-! reading -/
@[simp] theorem at_eAddC (fa fb : Env' → M Dv) (env : Env') : eAddC fa fb env = (do let a ← fa env; let b ← fb env; addCM a b) := rfl
@[simp] theorem wm_addC {a b : Dv} {S : Sto} {P : Rs Dv → Prop} : Wm (addCM a b) S P ↔ wopt (ownOf S a) fun l => wopt (ownOf S b) fun r => l.length + r.length ≤ sizeLine ∧ P (.ok (.ref S.length) (S ++ [.lst (l ++ r)])) := by
  unfold Wm addCM
  cases ownOf S a with
  | none => simp
  | some l =>
    cases ownOf S b with
    | none => simp
    | some r => by_cases h : l.length + r.length ≤ sizeLine <;> simp [h]
@[simp] theorem own_lst {S : Sto} {l : List Dv} : ownOf S (.lst l) = some l := rfl
@[simp] theorem own_ref {S : Sto} {n : Nat} : ownOf S (.ref n) = cellLst S[n]? := by
  have := list_ref (S := S) (n := n)
  exact this
@[simp] theorem at_eProp (c m : Str) (fo : Env' → M Dv) (code : List Dv → M Dv) (env : Env') : eProp c m fo code env = (do let a ← fo env; chkI c m a; noEr (code [a])) := rfl
@[simp] theorem wm_noEr {α : Type} {m : M α} {S : Sto} {P : Rs α → Prop} : Wm (noEr m) S P ↔ Wm m S (okK fun d S' => P (.ok d S')) := by
  unfold Wm noEr
  cases m S with
  | none => simp
  | some r => cases r <;> simp [okK]
end ML

namespace ML
open PySem PySem.Spec PyProof.Rows L2

/-! ### xs += ys, str of texts, f-strings -/
def extM (a b : Dv) : M Dv := fun S => match cellL S a, ownOf S b with
  | some (n, l), some r => if l.length + r.length ≤ sizeLine then some (.ok a (S.set n (.lst (l ++ r)))) else none
  | _, _ => none
def sAugL (i : Nat) (fe : Env' → M Dv) : SF := fun env S => match env[i]? with
  | some (some a) => exS env ((do let y ← fe env; extM a y : M Dv) S) fun d S' => some (.nx (env.set i (some d)) S')
  | _ => none
def strD2 : Sto → List Dv → Option Dv := fun S ds => match ds with
  | [.str x] => some (.str x)
  | ds => strD S ds
def fmtM (d : Dv) : M Dv := match d with
  | .str y => if y.length ≤ sizeLine then pure (.str y) else stuck
  | .int i => if i.natAbs.log2 < 1920 then pure (.str (toString i)) else stuck
  | _ => stuck
def eJs : List (Env' → M Dv) → Str → Env' → M Dv
  | [], acc, _ => pure (.str acc)
  | f :: r, acc, env => do
    let d ← f env
    match d with
    | .str y => if (acc ++ y).length ≤ sizeLine then eJs r (acc ++ y) env else stuck
    | _ => stuck
section
variable {X : Cx} {W : WX}
theorem ds_augL {i : Nat} {x : Str} {e : Expr} {fe : Env' → M Dv} {pos pos' : Pos} (c : Ct X W) (hi : X.N[i]? = some x) (hx : Loc X.env.scope x) (he : DE X W e fe)
    (hf : X.fn x = true ∨ X.env.scope.names.lookup x = some .local := by first | exact .inl rfl | exact .inr rfl | assumption) : DS X W (.AugAssign (.Name x pos') .Add e pos) (sAugL i fe) := by
  obtain ⟨t, p, s⟩ := he
  refine ⟨_, ps_aug c.nd hi hx p iop_ext hf, fun g σ H env S r D ok en e post => ?_⟩
  unfold sAugL at e
  split at e
  · rename_i a ha
    obtain ⟨va, hv, ra⟩ := en.at_ i a ha
    refine ⟨va, hv, ?_⟩
    rcases exS_cases e with ⟨d, S', e1, e2⟩ | ⟨x', S', e1, rfl⟩
    · cases e2
      rcases bind_some (x := fe env) e1 with ⟨b, S1, e3, e4⟩ | ⟨x', S', e3, q⟩
      · refine s g σ H env S _ _ ok en e3 fun g1 y H1 l1 ok1 r1 => ?_
        unfold extM at e4
        split at e4
        · rename_i n l rr el er
          split at e4
          · rename_i hc
            cases e4
            obtain ⟨pa, vs, rfl, h1, h2, h3, h4⟩ := cellL_at ok1 (ra.mono l1) el
            obtain ⟨pb, vs2, rfl, h5, h6⟩ := own_at ok1 r1 er
            refine ⟨pa, pb, vs, vs2, rfl, rfl, h3, h5, by rw [← h4.length, ← h6.length]; exact hc, ?_⟩
            exact post g1 _ _ l1 (ok1.setL h1 h2 (h4.append h6)) ((en.mono l1).set i (ra.mono l1))
          · cases e4
        · cases e4
      · cases q
    · rcases bind_some (x := fe env) e1 with ⟨b, S1, e3, e4⟩ | ⟨x2, S2, e3, q⟩
      · unfold extM at e4
        split at e4
        · split at e4
          · cases e4
          · cases e4
        · cases e4
      · cases q
        exact s g σ H env S _ _ ok en e3 fun g' c' dd H' l ok' xr => post g' c' dd σ H' l ok' (en.mono l) xr
  · cases e
theorem callR_or {f : Value} {r1 r2 : List V → Hp → VK → Prop} (h1 : CallR X f r1) (h2 : CallR X f r2) : CallR X f (fun xs H Q => r1 xs H Q ∨ r2 xs H Q) := by
  intro pins s σ H xs us Q I r h
  rcases h with h | h
  · exact h1 pins s σ H xs us Q I r h
  · exact h2 pins s σ H xs us Q I r h
theorem cd_str2 : CallD X (.type "str") (opA strD2) := by
  refine callD0 (callR_or call_str_int SkE.call_str_str) fun g H S ds vs d Q ok rr e q => ?_
  unfold strD2 at e
  split at e
  · cases e
    cases rr with
    | cons r1 r2 => cases r2; cases r1; exact .inr ⟨_, rfl, q _ (.str _)⟩
  · unfold strD at e
    split at e
    · split at e
      · rename_i hc
        cases e
        cases rr with
        | cons r1 r2 => cases r2; cases r1; exact .inl ⟨_, rfl, hc, q _ (.str _)⟩
      · cases e
    · cases e
theorem de_fmt {e : Expr} {fe : Env' → M Dv} {pos : Pos} (he : DE X W e fe) : DE X W (.FormattedValue e (-1) none pos) (eBnd fe fmtM) := by
  obtain ⟨t, p, s⟩ := he
  refine ⟨_, pe_fmt p, fun g σ H env S r Q ok en e post => ?_⟩
  rcases bind_some (x := fe env) e with ⟨d, S1, e1, e2⟩ | ⟨x', S', e1, rfl⟩
  · refine s g σ H env S _ _ ok en e1 fun g1 y H1 l1 ok1 r1 => ?_
    unfold fmtM at e2
    split at e2
    · split at e2
      · rename_i hz
        cases e2
        cases r1
        exact .inl ⟨_, rfl, hz, post g1 _ _ l1 ok1 (.str _)⟩
      · cases e2
    · split at e2
      · rename_i hz
        cases e2
        cases r1
        exact .inr ⟨_, rfl, hz, post g1 _ _ l1 ok1 (.str _)⟩
      · cases e2
    · cases e2
  · exact s g σ H env S _ _ ok en e1 post
def DJ (X : Cx) (W : WX) (es : List Expr) (fs : List (Env' → M Dv)) : Prop := ∃ ts, PJ X es ts ∧ ∀ (acc : Str) (g : Gh) (σ : L2.St) (H : Hp) (env : Env') (S : Sto) (r : Rs Dv) (Q : VK), Ok X.bs g H S → En X.bs g σ env → eJs fs acc env S = some r →
  Post X.bs g (fun g => Rp X.K g) Q (fun c dd H => W c dd σ H) r → tJs ts acc σ H fun out H1 => Q (.str out) H1
theorem dj_nil : DJ X W [] [] := ⟨[], .nil, fun acc g σ H env S r Q ok en e post => by
  cases e
  exact post g _ H (Gh.le_refl g) ok (.str _)⟩
theorem dj_cons {e : Expr} {es : List Expr} {f : Env' → M Dv} {fs : List (Env' → M Dv)} (he : DE X W e f) (h : DJ X W es fs) : DJ X W (e :: es) (f :: fs) := by
  obtain ⟨t, p, s⟩ := he
  obtain ⟨ts, ps, ss⟩ := h
  refine ⟨t :: ts, .cons p ps, fun acc g σ H env S r Q ok en e post => ?_⟩
  rcases bind_some (x := f env) e with ⟨d, S1, e1, e2⟩ | ⟨x', S', e1, rfl⟩
  · refine s g σ H env S _ _ ok en e1 fun g1 y H1 l1 ok1 r1 => ?_
    split at e2
    · rename_i y'
      split at e2
      · rename_i hz
        cases r1
        exact ⟨_, rfl, hz, ss _ g1 σ H1 env S1 r Q ok1 (en.mono l1) e2 (post.mono l1)⟩
      · cases e2
    · cases e2
  · exact s g σ H env S _ _ ok en e1 post
theorem de_joined {v1 v2 : Expr} {rest : List Expr} {fs : List (Env' → M Dv)} {pos : Pos} (h : DJ X W (v1 :: v2 :: rest) fs) : DE X W (.JoinedStr (v1 :: v2 :: rest) pos) (eJs fs Str.empty) := by
  obtain ⟨ts, ps, ss⟩ := h
  exact ⟨_, pe_joined ps, fun g σ H env S r Q ok en e post => ss _ g σ H env S r Q ok en e post⟩
end
/-! reading -/
@[simp] theorem wm_ext {n : Nat} {b : Dv} {S : Sto} {P : Rs Dv → Prop} : Wm (extM (.ref n) b) S P ↔ wopt (cellLst S[n]?) fun l => wopt (ownOf S b) fun r => l.length + r.length ≤ sizeLine ∧ P (.ok (.ref n) (S.set n (.lst (l ++ r)))) := by
  unfold Wm extM
  rw [cell_ref]
  cases cellLst S[n]? with
  | none => simp
  | some l =>
    cases ownOf S b with
    | none => simp
    | some r => by_cases h : l.length + r.length ≤ sizeLine <;> simp [h]
@[simp] theorem ws_augL {i : Nat} {fe : Env' → M Dv} {env : Env'} {S : Sto} {P : So → Prop} : Ws (sAugL i fe) env S P ↔ wopt env[i]? fun o => wopt o fun a => Wm (do let y ← fe env; extM a y : M Dv) S (xk env P fun d S' => P (.nx (env.set i (some d)) S')) := by
  unfold Ws sAugL
  cases env[i]? with
  | none => simp
  | some o =>
    cases o with
    | none => simp
    | some a =>
      simp only [wopt_some]
      refine (exS_iff (m := (do let y ← fe env; extM a y : M Dv))).trans (xk_congr fun u S' => ?_)
      simp
@[simp] theorem op_strS {S : Sto} {x : Str} : strD2 S [.str x] = some (.str x) := rfl
@[simp] theorem op_strI2 {S : Sto} {i : Int} : strD2 S [.int i] = gd (i.natAbs.log2 < 1920) (some (.str (toString i))) := gd_if rfl
@[simp] theorem wm_fmtS {y : Str} {S : Sto} {P : Rs Dv → Prop} : Wm (fmtM (.str y)) S P ↔ y.length ≤ sizeLine ∧ P (.ok (.str y) S) := by
  unfold fmtM
  by_cases h : y.length ≤ sizeLine <;> simp [h]
@[simp] theorem wm_fmtI {i : Int} {S : Sto} {P : Rs Dv → Prop} : Wm (fmtM (.int i)) S P ↔ i.natAbs.log2 < 1920 ∧ P (.ok (.str (toString i)) S) := by
  unfold fmtM
  by_cases h : i.natAbs.log2 < 1920 <;> simp [h]
@[simp] theorem at_eJs0 {acc : Str} {env : Env'} : eJs [] acc env = pure (.str acc) := rfl
def jsK (fs : List (Env' → M Dv)) (acc : Str) (env : Env') (d : Dv) : M Dv := match d with
  | .str y => if (acc ++ y).length ≤ sizeLine then eJs fs (acc ++ y) env else stuck
  | _ => stuck
@[simp] theorem at_eJs1 {f : Env' → M Dv} {fs : List (Env' → M Dv)} {acc : Str} {env : Env'} : eJs (f :: fs) acc env = (f env >>= fun d => jsK fs acc env d) := rfl
@[simp] theorem wm_jsK {fs : List (Env' → M Dv)} {acc y : Str} {env : Env'} {S : Sto} {P : Rs Dv → Prop} : Wm (jsK fs acc env (.str y)) S P ↔ (acc ++ y).length ≤ sizeLine ∧ Wm (eJs fs (acc ++ y) env) S P := by
  unfold jsK
  by_cases h : (acc ++ y).length ≤ sizeLine <;> simp [h]
end ML


namespace L05
open PySem PySem.Spec PyProof.Rows L2 ML
abbrev fn_ShapeCheck____init__ : Nat := 14
abbrev fn_ShapeCheck__require : Nat := 15
abbrev fn_is_byte : Nat := 16
abbrev fn_ShapeCheck__check_plain : Nat := 17
abbrev fn_bounds : Nat := 18
abbrev fn_ShapeCheck__check_uses : Nat := 19
abbrev fn_blocks_of : Nat := 20
abbrev fn_least_of : Nat := 21
abbrev fn_least_of_items : Nat := 22
abbrev fn_ShapeCheck__check_lengths : Nat := 23
abbrev fn_is_name : Nat := 3
abbrev fn_ShapeCheck__check_items : Nat := 24
abbrev fn_copied : Nat := 25
abbrev fn_copied_items : Nat := 26
abbrev fn_Shape____init__ : Nat := 27
abbrev fn__law_row : Nat := 0
abbrev fn__law_numbers : Nat := 1
abbrev fn__law_begin : Nat := 29
abbrev fn__law_next : Nat := 30
abbrev fn__law_use : Nat := 31
abbrev fn__law_number : Nat := 32
abbrev fn__law_block : Nat := 33
abbrev fn__law_nested : Nat := 34
abbrev fn__law_item : Nat := 35
abbrev fn__law_items : Nat := 36
abbrev fn_format_items : Nat := 45
abbrev fn_format_shape : Nat := 46
abbrev fn__law_lines : Nat := 47
abbrev fn__law_frozen : Nat := 48
abbrev fn_law : Nat := 13
def k_GREATEST : List (Int × Dv) := [(1, (.int 255)), (2, (.int 65535))]
def k_PARTS : List (Str × Dv) := [("number", (.int 6)), ("bytes", (.int 3)), ("text", (.int 4)), ("repeat", (.int 4)), ("either", (.int 3)), ("switch", (.int 4)), ("check", (.int 3)), ("pad", (.int 4))]
/-! ### mirrors -/
noncomputable def m_ShapeCheck____init__ (c : Nat → List Dv → M Dv) : SF :=
    sSeq (sFldM ["Shape", "ShapeCheck"] "names" (getv 0) (eArg aNil mkC))
    (sSeq (sFldM ["ShapeCheck"] "numbers" (getv 0) (newDM))
    (sFldM ["ShapeCheck"] "checks" (getv 0) (eC (.int 0))))
noncomputable def m_ShapeCheck__require (c : Nat → List Dv → M Dv) : SF :=
    sIf (tNot1 (tTru (getv 1))) (sRaise "InvalidShape") (sNil)
noncomputable def m_is_byte (c : Nat → List Dv → M Dv) : SF :=
    sRet (chainF leD leD (eC (.int 0)) (getv 0) (eC (.int 255)))
noncomputable def m_ShapeCheck__check_plain (c : Nat → List Dv → M Dv) : SF :=
    sSeq (sIf (tB (eOp eqD (eOp ixD (getv 1) (eC (.int 0))) (eC (.str "number")))) (sSeq (sExp (eMeth "ShapeCheck" "require" (getv 0) (aCons ((eAnd (eBnd (eOp ixD (getv 1) (eC (.int 2))) (inKI k_GREATEST)) (eOp inD (eOp ixD (getv 1) (eC (.int 3))) (eC (.tup [(.str "big"), (.str "little")]))))) aNil) (c fn_ShapeCheck__require)))
    (sExp (eMeth "ShapeCheck" "require" (getv 0) (aCons (chain3F leD leD leD (eC (.int 0)) (eOp ixD (getv 1) (eC (.int 4))) (eOp ixD (getv 1) (eC (.int 5))) (eBnd (eOp ixD (getv 1) (eC (.int 2))) (getKI k_GREATEST))) aNil) (c fn_ShapeCheck__require)))) (sNil))
    (sSeq (sIf (tB (eOp eqD (eOp ixD (getv 1) (eC (.int 0))) (eC (.str "text")))) (sExp (eMeth "ShapeCheck" "require" (getv 0) (aCons ((eAnd (eArg (aCons (eOp ixD (getv 1) (eC (.int 2))) aNil) (c fn_is_byte)) (chainF leD leD (eC (.int 0)) (eOp ixD (getv 1) (eC (.int 3))) (eC (.int 64))))) aNil) (c fn_ShapeCheck__require))) (sNil))
    (sSeq (sIf (tB (eOp eqD (eOp ixD (getv 1) (eC (.int 0))) (eC (.str "either")))) (sExp (eMeth "ShapeCheck" "require" (getv 0) (aCons (chainF leD leD (eC (.int 2)) (eArg (aCons (eOp ixD (getv 1) (eC (.int 2))) aNil) (opA lenD)) (eC (.int 4))) aNil) (c fn_ShapeCheck__require))) (sNil))
    (sSeq (sIf (tB (eOp eqD (eOp ixD (getv 1) (eC (.int 0))) (eC (.str "switch")))) (sSeq (sSet 2 (lcF (iVal (eOp ixD (getv 1) (eC (.int 3)))) [3, 4] (gTupM 2 (gsCons (gSet 3) (gsCons (gSet 4) gsNil))) tYes' (getv 3)))
    (sSeq (sExp (eMeth "ShapeCheck" "require" (getv 0) (aCons (chainF leD leD (eC (.int 1)) (eArg (aCons (getv 2) aNil) (opA lenD)) (eC (.int 8))) aNil) (c fn_ShapeCheck__require)))
    (sFor (iArg (aCons (getv 2) aNil) enumM) (gTupM 2 (gsCons (gSet 5) (gsCons (gSet 3) gsNil))) (sExp (eMeth "ShapeCheck" "require" (getv 0) (aCons ((eAnd (chainF leD leD (eC (.int 0)) (getv 3) (eBnd (eC (.int 2)) (getKI k_GREATEST))) (eOp ninD (getv 3) (eSl slD (getv 2) oNone (oSome (getv 5)))))) aNil) (c fn_ShapeCheck__require)))))) (sNil))
    (sSeq (sIf (tB (eOp eqD (eOp ixD (getv 1) (eC (.int 0))) (eC (.str "check")))) (sSeq (sExp (eMeth "ShapeCheck" "require" (getv 0) (aCons ((eAnd (chainF leD leD (eC (.int 1)) (eOp ixD (getv 1) (eC (.int 2))) (eC (.int 16))) (eOp eqD (eBnd (getv 0) (getF ["ShapeCheck"] "checks")) (eC (.int 0))))) aNil) (c fn_ShapeCheck__require)))
    (sAugM ["ShapeCheck"] "checks" (getv 0) (eC (.int 1)))) (sNil))
    (sIf (tB (eOp eqD (eOp ixD (getv 1) (eC (.int 0))) (eC (.str "pad")))) (sExp (eMeth "ShapeCheck" "require" (getv 0) (aCons ((eAnd (eOp inD (eOp ixD (getv 1) (eC (.int 2))) (eC (.tup [(.int 1), (.int 2), (.int 4), (.int 8), (.int 16)]))) (eArg (aCons (eOp ixD (getv 1) (eC (.int 3))) aNil) (c fn_is_byte)))) aNil) (c fn_ShapeCheck__require))) (sNil))))))
noncomputable def m_bounds (c : Nat → List Dv → M Dv) : SF :=
    sSeq (sIf (tTru (eArg (aCons (getv 0) (aCons (eC (.ty "int")) aNil)) (opA isiD))) (sRet (eArg (aCons (getv 0) (aCons (getv 0) aNil)) mkT)) (sNil))
    (sRet (eOp getDO (getv 1) (getv 0)))
noncomputable def m_ShapeCheck__check_uses (c : Nat → List Dv → M Dv) : SF :=
    sSeq (sIf (tB (eOp eqD (eOp ixD (getv 1) (eC (.int 0))) (eC (.str "switch")))) (sExp (eMeth "ShapeCheck" "require" (getv 0) (aCons (eOp inD (eOp ixD (getv 1) (eC (.int 2))) (getv 2)) aNil) (c fn_ShapeCheck__require))) (sNil))
    (sIf (tB (eOp inD (eOp ixD (getv 1) (eC (.int 0))) (eArg (aCons (eC (.str "bytes")) (aCons (eC (.str "repeat")) aNil)) mkT))) (sSeq (sExp (eMeth "ShapeCheck" "require" (getv 0) (aCons ((eOr (eArg (aCons (eOp ixD (getv 1) (eC (.int 2))) (aCons (eC (.ty "int")) aNil)) (opA isiD)) (eOp inD (eOp ixD (getv 1) (eC (.int 2))) (getv 2)))) aNil) (c fn_ShapeCheck__require)))
    (sSeq (sSet 3 (eC (.int 64)))
    (sSeq (sIf (tB (eOp eqD (eOp ixD (getv 1) (eC (.int 0))) (eC (.str "repeat")))) (sSet 3 (eC (.int 16))) (sNil))
    (sSeq (sAsg (gTupM 2 (gsCons (gSet 4) (gsCons (gSet 5) gsNil))) (eArg (aCons (eOp ixD (getv 1) (eC (.int 2))) (aCons (eBnd (getv 0) (getF ["ShapeCheck"] "numbers")) aNil)) (c fn_bounds)))
    (sExp (eMeth "ShapeCheck" "require" (getv 0) (aCons ((eAnd (eOp leD (eC (.int 0)) (getv 4)) (eOp leD (getv 5) (getv 3)))) aNil) (c fn_ShapeCheck__require))))))) (sNil))
noncomputable def m_blocks_of (c : Nat → List Dv → M Dv) : SF :=
    sSeq (sIf (tB (eOp eqD (eOp ixD (getv 0) (eC (.int 0))) (eC (.str "repeat")))) (sRet (eArg (aCons (eOp ixD (getv 0) (eC (.int 3))) aNil) mkL)) (sNil))
    (sSeq (sIf (tB (eOp eqD (eOp ixD (getv 0) (eC (.int 0))) (eC (.str "either")))) (sRet (eArg (aCons (eOp ixD (getv 0) (eC (.int 2))) aNil) (listL))) (sNil))
    (sSeq (sIf (tB (eOp eqD (eOp ixD (getv 0) (eC (.int 0))) (eC (.str "switch")))) (sRet (lcF (iVal (eOp ixD (getv 0) (eC (.int 3)))) [1, 2] (gTupM 2 (gsCons (gSet 1) (gsCons (gSet 2) gsNil))) tYes' (getv 2))) (sNil))
    (sRet (eArg aNil mkL))))
noncomputable def m_least_of (c : Nat → List Dv → M Dv) : SF :=
    sSeq (sIf (tB (eOp eqD (eOp ixD (getv 0) (eC (.int 0))) (eC (.str "number")))) (sRet (eOp ixD (getv 0) (eC (.int 2)))) (sNil))
    (sSeq (sIf (tB (eOp eqD (eOp ixD (getv 0) (eC (.int 0))) (eC (.str "bytes")))) (sRet (eOp ixD (eArg (aCons (eOp ixD (getv 0) (eC (.int 2))) (aCons (getv 1) aNil)) (c fn_bounds)) (eC (.int 0)))) (sNil))
    (sSeq (sIf (tB (eOp eqD (eOp ixD (getv 0) (eC (.int 0))) (eC (.str "repeat")))) (sRet (eOp mulD (eOp ixD (eArg (aCons (eOp ixD (getv 0) (eC (.int 2))) (aCons (getv 1) aNil)) (c fn_bounds)) (eC (.int 0))) (eArg (aCons (eOp ixD (getv 0) (eC (.int 3))) (aCons (getv 1) aNil)) (c fn_least_of_items)))) (sNil))
    (sSeq (sIf (tB (eOp inD (eOp ixD (getv 0) (eC (.int 0))) (eArg (aCons (eC (.str "either")) (aCons (eC (.str "switch")) aNil)) mkT))) (sRet (eArg (aCons (lcF (iVal (eArg (aCons (getv 0) aNil) (c fn_blocks_of))) [2] (gSet 2) tYes' (eArg (aCons (getv 2) (aCons (getv 1) aNil)) (c fn_least_of_items))) aNil) (opA (pickD minL)))) (sNil))
    (sRet (eArg (aCons (eOp neD (eOp ixD (getv 0) (eC (.int 0))) (eC (.str "pad"))) aNil) (opA intD))))))
noncomputable def m_least_of_items (c : Nat → List Dv → M Dv) : SF :=
    sRet (eArg (aCons (lcF (iVal (getv 0)) [2] (gSet 2) tYes' (eArg (aCons (getv 2) (aCons (getv 1) aNil)) (c fn_least_of))) aNil) (opA sumD))
noncomputable def m_ShapeCheck__check_lengths (c : Nat → List Dv → M Dv) : SF :=
    sSeq (sSet 2 (lcF (iVal (eArg (aCons (getv 1) aNil) (c fn_blocks_of))) [3] (gSet 3) tYes' (eArg (aCons (getv 3) (aCons (eBnd (getv 0) (getF ["ShapeCheck"] "numbers")) aNil)) (c fn_least_of_items))))
    (sSeq (sIf (tB (eOp eqD (eOp ixD (getv 1) (eC (.int 0))) (eC (.str "repeat")))) (sExp (eMeth "ShapeCheck" "require" (getv 0) (aCons (eOp gtD (eOp ixD (getv 2) (eC (.int 0))) (eC (.int 0))) aNil) (c fn_ShapeCheck__require))) (sNil))
    (sIf (tB (eOp eqD (eOp ixD (getv 1) (eC (.int 0))) (eC (.str "either")))) (sExp (eMeth "ShapeCheck" "require" (getv 0) (aCons (eOp leD (eMt "list" (getv 2) (aCons (eC (.int 0)) aNil) (opM countD)) (eC (.int 1))) aNil) (c fn_ShapeCheck__require))) (sNil)))
noncomputable def m_is_name (c : Nat → List Dv → M Dv) : SF :=
    sSeq (sIf ((tOr2 (tNot1 (tB (chainF leD leD (eC (.int 1)) (eArg (aCons (getv 0) aNil) (opA lenD)) (eC (.int 12))))) (tB (eOp inD (eOp ixD (getv 0) (eC (.int 0))) (eC (.str "0123456789")))))) (sRet (eC (.bl false))) (sNil))
    (sRet (eArg (aCons (lcF (iVal (getv 0)) [1] (gSet 1) tYes' (eOp inD (getv 1) (eC (.str "abcdefghijklmnopqrstuvwxyz0123456789")))) aNil) (opA allD)))
noncomputable def m_ShapeCheck__check_items (c : Nat → List Dv → M Dv) : SF :=
    sSeq (sExp (eMeth "ShapeCheck" "require" (getv 0) (aCons ((eAnd (eOp leD (eArg (aCons (getv 1) aNil) (opA lenD)) (eC (.int 12))) (eOp leD (getv 3) (eC (.int 3))))) aNil) (c fn_ShapeCheck__require)))
    (sSeq (sSet 4 (eArg (aCons (getv 2) aNil) (listC)))
    (sFor (iVal (getv 1)) (gSet 5) (sSeq (sExp (eMeth "ShapeCheck" "require" (getv 0) (aCons ((eAnd (eOp gtD (eArg (aCons (getv 5) aNil) (opA lenD)) (eC (.int 1))) (eAnd (eBnd (eOp ixD (getv 5) (eC (.int 0))) (inKM k_PARTS false)) (eOp eqD (eArg (aCons (getv 5) aNil) (opA lenD)) (eBnd (eOp ixD (getv 5) (eC (.int 0))) (getKM k_PARTS)))))) aNil) (c fn_ShapeCheck__require)))
    (sSeq (sExp (eMeth "ShapeCheck" "require" (getv 0) (aCons ((eAnd (eArg (aCons (eOp ixD (getv 5) (eC (.int 1))) aNil) (c fn_is_name)) (eAnd (eOp ninD (eOp ixD (getv 5) (eC (.int 1))) (eBnd (getv 0) (getF ["Shape", "ShapeCheck"] "names"))) (eOp ltD (eArg (aCons (eBnd (getv 0) (getF ["Shape", "ShapeCheck"] "names")) aNil) (opA lenD)) (eC (.int 30)))))) aNil) (c fn_ShapeCheck__require)))
    (sSeq (sExp (eMt "list" (eBnd (getv 0) (getF ["Shape", "ShapeCheck"] "names")) (aCons (eOp ixD (getv 5) (eC (.int 1))) aNil) (appendM)))
    (sSeq (sExp (eMeth "ShapeCheck" "check_plain" (getv 0) (aCons (getv 5) aNil) (c fn_ShapeCheck__check_plain)))
    (sSeq (sExp (eMeth "ShapeCheck" "check_uses" (getv 0) (aCons (getv 5) (aCons (getv 4) aNil)) (c fn_ShapeCheck__check_uses)))
    (sSeq (sFor (iVal (eArg (aCons (getv 5) aNil) (c fn_blocks_of))) (gSet 6) (sExp (eMeth "ShapeCheck" "check_items" (getv 0) (aCons (getv 6) (aCons (getv 4) (aCons (eOp addD (getv 3) (eC (.int 1))) aNil))) (c fn_ShapeCheck__check_items))))
    (sSeq (sExp (eMeth "ShapeCheck" "check_lengths" (getv 0) (aCons (getv 5) aNil) (c fn_ShapeCheck__check_lengths)))
    (sIf (tB (eOp eqD (eOp ixD (getv 5) (eC (.int 0))) (eC (.str "number")))) (sSeq (sAsg (gSubD (eBnd (getv 0) (getF ["ShapeCheck"] "numbers")) (eOp ixD (getv 5) (eC (.int 1)))) (eArg (aCons (eOp ixD (getv 5) (eC (.int 4))) (aCons (eOp ixD (getv 5) (eC (.int 5))) aNil)) mkT))
    (sExp (eMt "list" (getv 4) (aCons (eOp ixD (getv 5) (eC (.int 1))) aNil) (appendM)))) (sNil)))))))))))
noncomputable def m_copied (c : Nat → List Dv → M Dv) : SF :=
    sSeq (sIf (tB (eOp eqD (eOp ixD (getv 0) (eC (.int 0))) (eC (.str "repeat")))) (sRet (eArg (aCons (eOp ixD (getv 0) (eC (.int 0))) (aCons (eOp ixD (getv 0) (eC (.int 1))) (aCons (eOp ixD (getv 0) (eC (.int 2))) (aCons (eArg (aCons (eOp ixD (getv 0) (eC (.int 3))) aNil) (c fn_copied_items)) aNil)))) mkT)) (sNil))
    (sSeq (sIf (tB (eOp eqD (eOp ixD (getv 0) (eC (.int 0))) (eC (.str "either")))) (sRet (eArg (aCons (eOp ixD (getv 0) (eC (.int 0))) (aCons (eOp ixD (getv 0) (eC (.int 1))) (aCons (eArg (aCons (lcF (iVal (eOp ixD (getv 0) (eC (.int 2)))) [1] (gSet 1) tYes' (eArg (aCons (getv 1) aNil) (c fn_copied_items))) aNil) (tupleM)) aNil))) mkT)) (sNil))
    (sSeq (sIf (tB (eOp eqD (eOp ixD (getv 0) (eC (.int 0))) (eC (.str "switch")))) (sRet (eArg (aCons (eOp ixD (getv 0) (eC (.int 0))) (aCons (eOp ixD (getv 0) (eC (.int 1))) (aCons (eOp ixD (getv 0) (eC (.int 2))) (aCons (eArg (aCons (lcF (iVal (eOp ixD (getv 0) (eC (.int 3)))) [2, 1] (gTupM 2 (gsCons (gSet 2) (gsCons (gSet 1) gsNil))) tYes' (eArg (aCons (getv 2) (aCons (eArg (aCons (getv 1) aNil) (c fn_copied_items)) aNil)) mkT)) aNil) (tupleM)) aNil)))) mkT)) (sNil))
    (sRet (eArg (aCons (getv 0) aNil) (tupleM)))))
noncomputable def m_copied_items (c : Nat → List Dv → M Dv) : SF :=
    sRet (eArg (aCons (lcF (iVal (getv 0)) [1] (gSet 1) tYes' (eArg (aCons (getv 1) aNil) (c fn_copied))) aNil) (tupleM))
noncomputable def m_Shape____init__ (c : Nat → List Dv → M Dv) : SF :=
    sSeq (sSet 2 (eArg aNil (newI "ShapeCheck" (c fn_ShapeCheck____init__))))
    (sSeq (sExp (eMeth "ShapeCheck" "require" (getv 2) (aCons (eOp gtD (eArg (aCons (getv 1) aNil) (opA lenD)) (eC (.int 0))) aNil) (c fn_ShapeCheck__require)))
    (sSeq (sExp (eMeth "ShapeCheck" "check_items" (getv 2) (aCons (getv 1) (aCons (eArg aNil mkL) (aCons (eC (.int 0)) aNil))) (c fn_ShapeCheck__check_items)))
    (sSeq (sFldM ["Shape"] "parts" (getv 0) (eArg (aCons (getv 1) aNil) (c fn_copied_items)))
    (sSeq (sFldM ["Shape", "ShapeCheck"] "names" (getv 0) (eArg (aCons (eBnd (getv 2) (getF ["Shape", "ShapeCheck"] "names")) aNil) (tupleM)))
    (sFldM ["Shape"] "bounds" (getv 0) (eLock (lkF 2 "numbers") (dcM (iKeysL (eBnd (getv 2) (getF ["ShapeCheck"] "numbers"))) [3] (gSet 3) tYes' (getv 3) (eOp getDO (eBnd (getv 2) (getF ["ShapeCheck"] "numbers")) (getv 3)))))))))
noncomputable def m__law_row (c : Nat → List Dv → M Dv) : SF :=
    sSeq (sSet 2 (eArg aNil mkC))
    (sSeq (sSet 3 (eArg (aCons (getv 0) aNil) (opA absD)))
    (sSeq (sSet 4 (eOp modD (eArg (aCons (eOp addD (eOp mulD (getv 3) (eC (.int 48271))) (eC (.int 69621))) aNil) (opA intD)) (eC (.int 2147483647))))
    (sSeq (sFor (iArg (aCons (getv 1) aNil) rng1M) (gSet 5) (sSeq (sSet 4 (eOp modD (eArg (aCons (eOp addD (eOp mulD (getv 4) (eC (.int 16807))) (eOp mulD (eC (.int 271)) (eOp addD (getv 5) (eC (.int 3))))) aNil) (opA intD)) (eC (.int 2147483629))))
    (sIf (tB (eOp geD (eArg (aCons (getv 0) aNil) (opA absD)) (eOp powD (eC (.int 10)) (eC (.int 18))))) (sSeq (sExp (eMt "list" (getv 2) (aCons (eOp modD (eArg (aCons (getv 3) aNil) (opA intD)) (eC (.int 1009))) aNil) (appendM)))
    (sSet 3 (eOp fdivD (getv 3) (eC (.int 1009))))) (sExp (eMt "list" (getv 2) (aCons (eOp modD (eArg (aCons (eOp fdivD (getv 4) (eC (.int 7))) aNil) (opA intD)) (eC (.int 1009))) aNil) (appendM))))))
    (sRet (getv 2)))))
noncomputable def m__law_numbers (c : Nat → List Dv → M Dv) : SF :=
    sSeq (sSet 2 (eSl slD (getv 0) oNone (oSome (eC (.int 63)))))
    (sSeq (sSet 3 (eOp addD (eC (.int 1)) (eOp fdivD (getv 1) (eArg (aCons (eC (.int 1)) (aCons (eArg (aCons (getv 2) aNil) (opA lenD)) aNil)) (opA max2D)))))
    (sSeq (sSet 4 (eArg aNil mkC))
    (sSeq (sFor (iVal (getv 2)) (gSet 5) (sFor (iVal (eArg (aCons (getv 5) (aCons (getv 3) aNil)) (c fn__law_row))) (gSet 6) (sExp (eMt "list" (getv 4) (aCons (getv 6) aNil) (appendM)))))
    (sSeq (whileL (tB (eOp ltD (eArg (aCons (getv 4) aNil) (opA lenD)) (getv 1))) (sExp (eMt "list" (getv 4) (aCons (eC (.int 0)) aNil) (appendM))) 1000000)
    (sRet (eSl slD (getv 4) oNone (oSome (getv 1))))))))
noncomputable def m__law_begin (c : Nat → List Dv → M Dv) : SF :=
    sSeq (sSet 1 (eC (.str "abcdefghijklmnopqrstuvwxyz0123456789")))
    (sSeq (sSet 2 (eOp ixD (getv 1) (eOp modD (eArg (aCons (eOp ixD (getv 0) (eC (.int 0))) aNil) (opA intD)) (eC (.int 26)))))
    (sSeq (sFor (iArg (aCons (eOp modD (eArg (aCons (eOp ixD (getv 0) (eC (.int 1))) aNil) (opA intD)) (eC (.int 11))) aNil) rng1M) (gSet 3) (sSet 2 (eOp addD (getv 2) (eOp ixD (getv 1) (eOp modD (eArg (aCons (eOp addD (eOp ixD (getv 0) (eC (.int 2))) (eOp mulD (getv 3) (eOp ixD (getv 0) (eC (.int 3))))) aNil) (opA intD)) (eC (.int 36)))))))
    (sSeq (sSet 4 (eOp addD (eC (.int 1)) (eOp modD (eArg (aCons (eOp ixD (getv 0) (eC (.int 4))) aNil) (opA intD)) (eArg (aCons (getv 2) aNil) (opA lenD)))))
    (sSeq (sSet 5 (eArg (aCons (eOp ixD (getv 0) (eC (.int 5))) aNil) (opA intD)))
    (sSeq (sSet 6 (lcC (iArg (aCons (eC (.int 30)) aNil) rng1M) [3] (gSet 3) tYes' (eOp addD (eOp addD (eSl slD (getv 2) oNone (oSome (getv 4))) (eOp ixD (getv 1) (eOp modD (eArg (aCons (eOp addD (getv 5) (getv 3)) aNil) (opA intD)) (eC (.int 36))))) (eSl slD (getv 2) (oSome (getv 4)) oNone))))
    (sRet (eArg (aCons (getv 0) (aCons (eC (.int 6)) (aCons (getv 6) (aCons (eArg aNil mkC) aNil)))) mkC)))))))
noncomputable def m__law_next (c : Nat → List Dv → M Dv) : SF :=
    sSeq (sAsg (gSub (getv 0) (eC (.int 1))) (eOp addD (eOp ixD (getv 0) (eC (.int 1))) (eC (.int 1))))
    (sRet (eOp modD (eArg (aCons (eOp ixD (eOp ixD (getv 0) (eC (.int 0))) (eOp modD (eOp ixD (getv 0) (eC (.int 1))) (eArg (aCons (eOp ixD (getv 0) (eC (.int 0))) aNil) (opA lenD)))) aNil) (opA intD)) (getv 1)))
noncomputable def m__law_use (c : Nat → List Dv → M Dv) : SF :=
    sSeq (sSet 3 (lcF (iVal (getv 1)) [4] (gSet 4) (tB (eOp leD (eOp ixD (getv 4) (eC (.int 5))) (getv 2))) (eOp ixD (getv 4) (eC (.int 1)))))
    (sSeq (sIf ((tAnd2 (tB (eOp gtD (eArg (aCons (getv 3) aNil) (opA lenD)) (eC (.int 0)))) (tB (eOp eqD (eArg (aCons (getv 0) (aCons (eC (.int 2)) aNil)) (c fn__law_next)) (eC (.int 0)))))) (sRet (eOp ixD (getv 3) (eArg (aCons (getv 0) (aCons (eArg (aCons (getv 3) aNil) (opA lenD)) aNil)) (c fn__law_next)))) (sNil))
    (sRet (eOp ixD (eArg (aCons (eC (.int 0)) (aCons (getv 2) (aCons (eOp addD (eC (.int 1)) (eArg (aCons (getv 0) (aCons (eC (.int 4)) aNil)) (c fn__law_next))) aNil))) mkL) (eArg (aCons (getv 0) (aCons (eC (.int 3)) aNil)) (c fn__law_next)))))
noncomputable def m__law_number (c : Nat → List Dv → M Dv) : SF :=
    sSeq (sSet 2 (eOp addD (eC (.int 1)) (eArg (aCons (getv 0) (aCons (eC (.int 2)) aNil)) (c fn__law_next))))
    (sSeq (sSet 3 (eOp ixD (eArg (aCons (eC (.int 255)) (aCons (eC (.int 65535)) aNil)) mkL) (eOp subD (getv 2) (eC (.int 1)))))
    (sSeq (sSet 4 (eOp ixD (eArg (aCons (eC (.int 0)) (aCons (eArg (aCons (getv 0) (aCons (eC (.int 4)) aNil)) (c fn__law_next)) (aCons (eArg (aCons (getv 0) (aCons (eOp addD (getv 3) (eC (.int 1))) aNil)) (c fn__law_next)) aNil))) mkL) (eArg (aCons (getv 0) (aCons (eC (.int 3)) aNil)) (c fn__law_next))))
    (sSeq (sSet 5 (eOp ixD (eArg (aCons (getv 4) (aCons (getv 3) (aCons (eArg (aCons (getv 3) (aCons (eOp addD (getv 4) (eArg (aCons (getv 0) (aCons (eC (.int 16)) aNil)) (c fn__law_next))) aNil)) (opA min2D)) (aCons (eArg (aCons (eC (.int 64)) (aCons (eArg (aCons (getv 4) (aCons (eC (.int 64)) aNil)) (opA max2D)) aNil)) (opA min2D)) aNil)))) mkL) (eArg (aCons (getv 0) (aCons (eC (.int 4)) aNil)) (c fn__law_next))))
    (sRet (eArg (aCons (eC (.str "number")) (aCons (getv 1) (aCons (getv 2) (aCons (eOp ixD (eArg (aCons (eC (.str "big")) (aCons (eC (.str "little")) aNil)) mkL) (eArg (aCons (getv 0) (aCons (eC (.int 2)) aNil)) (c fn__law_next))) (aCons (getv 4) (aCons (eArg (aCons (getv 4) (aCons (getv 5) aNil)) (opA max2D)) aNil)))))) mkT)))))
noncomputable def m__law_block (c : Nat → List Dv → M Dv) : SF :=
    sSeq (sSet 4 (eArg (aCons (getv 0) (aCons (eC (.int 3)) aNil)) (c fn__law_next)))
    (sSeq (sIf (tB (eOp neD (getv 3) (eC (.str "")))) (sSeq (sSet 5 (eArg (aCons (getv 0) (aCons (getv 3) aNil)) (c fn__law_number)))
    (sRet (eOp addD (eArg (aCons (getv 5) aNil) mkL) (eArg (aCons (getv 0) (aCons (eOp addD (getv 1) (eArg (aCons (getv 5) aNil) mkL)) (aCons (getv 2) (aCons (getv 4) aNil)))) (c fn__law_items))))) (sNil))
    (sRet (eArg (aCons (getv 0) (aCons (getv 1) (aCons (getv 2) (aCons (getv 4) aNil)))) (c fn__law_items))))
noncomputable def m__law_nested (c : Nat → List Dv → M Dv) : SF :=
    sSeq (sSet 4 (eMt "list" (eOp ixD (getv 0) (eC (.int 2))) (aCons (eC (.int 0)) aNil) (popAtM)))
    (sSeq (sIf (tB (eOp eqD (getv 3) (eC (.int 5)))) (sSeq (sSet 5 (eMt "list" (eOp ixD (getv 0) (eC (.int 2))) (aCons (eC (.int 0)) aNil) (popAtM)))
    (sRet (eArg (aCons (eC (.str "repeat")) (aCons (getv 4) (aCons (eArg (aCons (getv 0) (aCons (getv 1) (aCons (eC (.int 16)) aNil))) (c fn__law_use)) (aCons (eArg (aCons (getv 0) (aCons (getv 1) (aCons (eOp addD (getv 2) (eC (.int 1))) (aCons (getv 5) aNil)))) (c fn__law_block)) aNil)))) mkT))) (sNil))
    (sSeq (sIf ((tOr2 (tB (eOp eqD (getv 3) (eC (.int 6)))) (tB (eOp eqD (eArg (aCons (getv 1) aNil) (opA lenD)) (eC (.int 0)))))) (sSeq (sSet 6 (lcF (iArg (aCons (eOp addD (eC (.int 1)) (eArg (aCons (getv 0) (aCons (eC (.int 3)) aNil)) (c fn__law_next))) aNil) rng1M) [7] (gSet 7) tYes' (eMt "list" (eOp ixD (getv 0) (eC (.int 2))) (aCons (eC (.int 0)) aNil) (popAtM))))
    (sSeq (sSet 8 (eArg (aCons (eArg (aCons (getv 0) (aCons (getv 1) (aCons (eOp addD (getv 2) (eC (.int 1))) (aCons (eC (.str "")) aNil)))) (c fn__law_block)) aNil) mkC))
    (sSeq (sFor (iVal (getv 6)) (gSet 5) (sExp (eMt "list" (getv 8) (aCons (eArg (aCons (getv 0) (aCons (getv 1) (aCons (eOp addD (getv 2) (eC (.int 1))) (aCons (getv 5) aNil)))) (c fn__law_block)) aNil) (appendM))))
    (sRet (eArg (aCons (eC (.str "either")) (aCons (getv 4) (aCons (getv 8) aNil))) mkT))))) (sNil))
    (sSeq (sSet 5 (eArg (aCons (getv 0) (aCons (eC (.int 1000)) aNil)) (c fn__law_next)))
    (sSeq (sSet 9 (eOp addD (eC (.int 1)) (eOp mulD (eC (.int 2)) (eArg (aCons (getv 0) (aCons (eC (.int 4)) aNil)) (c fn__law_next)))))
    (sSeq (sSet 10 (lcF (iArg (aCons (eOp addD (eC (.int 1)) (eArg (aCons (getv 0) (aCons (eC (.int 8)) aNil)) (c fn__law_next))) aNil) rng1M) [7] (gSet 7) tYes' (eArg (aCons (eOp addD (getv 5) (eOp mulD (eC (.int 8064)) (eOp modD (eArg (aCons (eOp mulD (getv 7) (getv 9)) aNil) (opA intD)) (eC (.int 8))))) (aCons (eArg (aCons (getv 0) (aCons (getv 1) (aCons (eOp addD (getv 2) (eC (.int 1))) (aCons (eC (.str "")) aNil)))) (c fn__law_block)) aNil)) mkT)))
    (sRet (eArg (aCons (eC (.str "switch")) (aCons (getv 4) (aCons (eOp ixD (eOp ixD (getv 1) (eArg (aCons (getv 0) (aCons (eArg (aCons (getv 1) aNil) (opA lenD)) aNil)) (c fn__law_next))) (eC (.int 1))) (aCons (getv 10) aNil)))) mkT)))))))
noncomputable def m__law_item (c : Nat → List Dv → M Dv) : SF :=
    sSeq (sSet 3 (eArg (aCons (getv 0) (aCons (eC (.int 10)) aNil)) (c fn__law_next)))
    (sSeq (sIf ((tOr2 (tB (eOp ltD (getv 3) (eC (.int 3)))) ((tAnd2 (tB (eOp eqD (getv 3) (eC (.int 8)))) (tB (eOp gtD (eArg (aCons (eOp ixD (getv 0) (eC (.int 3))) aNil) (opA lenD)) (eC (.int 0)))))))) (sRet (eArg (aCons (getv 0) (aCons (eMt "list" (eOp ixD (getv 0) (eC (.int 2))) (aCons (eC (.int 0)) aNil) (popAtM)) aNil)) (c fn__law_number))) (sNil))
    (sSeq (sIf (tB (eOp eqD (getv 3) (eC (.int 3)))) (sRet (eArg (aCons (eC (.str "bytes")) (aCons (eMt "list" (eOp ixD (getv 0) (eC (.int 2))) (aCons (eC (.int 0)) aNil) (popAtM)) (aCons (eArg (aCons (getv 0) (aCons (getv 1) (aCons (eC (.int 64)) aNil))) (c fn__law_use)) aNil))) mkT)) (sNil))
    (sSeq (sIf (tB (eOp eqD (getv 3) (eC (.int 4)))) (sRet (eArg (aCons (eC (.str "text")) (aCons (eMt "list" (eOp ixD (getv 0) (eC (.int 2))) (aCons (eC (.int 0)) aNil) (popAtM)) (aCons (eOp ixD (eArg (aCons (eC (.int 0)) (aCons (eC (.int 255)) (aCons (eC (.int 10)) aNil))) mkL) (eArg (aCons (getv 0) (aCons (eC (.int 3)) aNil)) (c fn__law_next))) (aCons (eOp ixD (eArg (aCons (eC (.int 0)) (aCons (eC (.int 64)) (aCons (eArg (aCons (getv 0) (aCons (eC (.int 9)) aNil)) (c fn__law_next)) aNil))) mkL) (eArg (aCons (getv 0) (aCons (eC (.int 3)) aNil)) (c fn__law_next))) aNil)))) mkT)) (sNil))
    (sSeq (sIf (tB (eOp eqD (getv 3) (eC (.int 8)))) (sSeq (sExp (eMt "list" (eOp ixD (getv 0) (eC (.int 3))) (aCons (eC (.int 1)) aNil) (appendM)))
    (sRet (eArg (aCons (eC (.str "check")) (aCons (eMt "list" (eOp ixD (getv 0) (eC (.int 2))) (aCons (eC (.int 0)) aNil) (popAtM)) (aCons (eOp ixD (eArg (aCons (eC (.int 1)) (aCons (eC (.int 16)) (aCons (eOp addD (eC (.int 1)) (eArg (aCons (getv 0) (aCons (eC (.int 16)) aNil)) (c fn__law_next))) aNil))) mkL) (eArg (aCons (getv 0) (aCons (eC (.int 3)) aNil)) (c fn__law_next))) aNil))) mkT))) (sNil))
    (sSeq (sIf (tB (eOp eqD (getv 3) (eC (.int 9)))) (sRet (eArg (aCons (eC (.str "pad")) (aCons (eMt "list" (eOp ixD (getv 0) (eC (.int 2))) (aCons (eC (.int 0)) aNil) (popAtM)) (aCons (eOp ixD (eArg (aCons (eC (.int 1)) (aCons (eC (.int 2)) (aCons (eC (.int 4)) (aCons (eC (.int 8)) (aCons (eC (.int 16)) aNil))))) mkL) (eArg (aCons (getv 0) (aCons (eC (.int 5)) aNil)) (c fn__law_next))) (aCons (eOp ixD (eArg (aCons (eC (.int 0)) (aCons (eC (.int 255)) (aCons (eArg (aCons (getv 0) (aCons (eC (.int 256)) aNil)) (c fn__law_next)) aNil))) mkL) (eArg (aCons (getv 0) (aCons (eC (.int 3)) aNil)) (c fn__law_next))) aNil)))) mkT)) (sNil))
    (sSeq (sIf ((tOr2 (tB (eOp eqD (getv 2) (eC (.int 3)))) (tB (eOp ltD (eArg (aCons (eOp ixD (getv 0) (eC (.int 2))) aNil) (opA lenD)) (eC (.int 14)))))) (sRet (eArg (aCons (getv 0) (aCons (eMt "list" (eOp ixD (getv 0) (eC (.int 2))) (aCons (eC (.int 0)) aNil) (popAtM)) aNil)) (c fn__law_number))) (sNil))
    (sRet (eArg (aCons (getv 0) (aCons (getv 1) (aCons (getv 2) (aCons (getv 3) aNil)))) (c fn__law_nested)))))))))
noncomputable def m__law_items (c : Nat → List Dv → M Dv) : SF :=
    sSeq (sSet 4 (eArg aNil mkC))
    (sSeq (sSet 5 (eArg (aCons (getv 1) aNil) (listC)))
    (sSeq (sFor (iArg (aCons (getv 3) aNil) rng1M) (gSet 6) (sIf (tB (eOp gtD (eArg (aCons (eOp ixD (getv 0) (eC (.int 2))) aNil) (opA lenD)) (eC (.int 0)))) (sSeq (sSet 7 (eArg (aCons (getv 0) (aCons (getv 5) (aCons (getv 2) aNil))) (c fn__law_item)))
    (sSeq (sExp (eMt "list" (getv 4) (aCons (getv 7) aNil) (appendM)))
    (sIf (tB (eOp eqD (eOp ixD (getv 7) (eC (.int 0))) (eC (.str "number")))) (sExp (eMt "list" (getv 5) (aCons (getv 7) aNil) (appendM))) (sNil)))) (sNil)))
    (sRet (getv 4))))
noncomputable def m_format_items (c : Nat → List Dv → M Dv) : SF :=
    sSeq (sSet 1 (eArg aNil mkC))
    (sSeq (sFor (iVal (getv 0)) (gSet 2) (sSeq (sIf (tB (eOp eqD (eOp ixD (getv 2) (eC (.int 0))) (eC (.str "repeat")))) (sSeq (sExp (eMt "list" (getv 1) (aCons (eJs [(eC (.str "repeat ")), (eBnd (eOp ixD (getv 2) (eC (.int 1))) fmtM), (eC (.str " ")), (eBnd (eOp ixD (getv 2) (eC (.int 2))) fmtM)] Str.empty) aNil) (appendM)))
    (sAugL 1 (eArg (aCons (eOp ixD (getv 2) (eC (.int 3))) aNil) (c fn_format_items)))) (sIf (tB (eOp eqD (eOp ixD (getv 2) (eC (.int 0))) (eC (.str "either")))) (sSeq (sExp (eMt "list" (getv 1) (aCons (eJs [(eC (.str "either ")), (eBnd (eOp ixD (getv 2) (eC (.int 1))) fmtM)] Str.empty) aNil) (appendM)))
    (sFor (iVal (eOp ixD (getv 2) (eC (.int 2)))) (gSet 3) (sAugL 1 (eOp addD (eArg (aCons (eC (.str "choice")) aNil) mkL) (eArg (aCons (getv 3) aNil) (c fn_format_items)))))) (sIf (tB (eOp eqD (eOp ixD (getv 2) (eC (.int 0))) (eC (.str "switch")))) (sSeq (sExp (eMt "list" (getv 1) (aCons (eJs [(eC (.str "switch ")), (eBnd (eOp ixD (getv 2) (eC (.int 1))) fmtM), (eC (.str " ")), (eBnd (eOp ixD (getv 2) (eC (.int 2))) fmtM)] Str.empty) aNil) (appendM)))
    (sFor (iVal (eOp ixD (getv 2) (eC (.int 3)))) (gTupM 2 (gsCons (gSet 4) (gsCons (gSet 3) gsNil))) (sAugL 1 (eOp addD (eArg (aCons (eJs [(eC (.str "case ")), (eBnd (getv 4) fmtM)] Str.empty) aNil) mkL) (eArg (aCons (getv 3) aNil) (c fn_format_items)))))) (sExp (eMt "list" (getv 1) (aCons (eMt "str" (eC (.str " ")) (aCons (lcF (iVal (getv 2)) [5] (gSet 5) tYes' (eArg (aCons (getv 5) aNil) (opA strD2))) aNil) (opM joinD)) aNil) (appendM))))))
    (sIf (tB (eOp inD (eOp ixD (getv 2) (eC (.int 0))) (eArg (aCons (eC (.str "repeat")) (aCons (eC (.str "either")) (aCons (eC (.str "switch")) aNil))) mkT))) (sExp (eMt "list" (getv 1) (aCons (eC (.str "end")) aNil) (appendM))) (sNil))))
    (sRet (getv 1)))
noncomputable def m_format_shape (c : Nat → List Dv → M Dv) : SF :=
    sRet (eMt "str" (eC (.str "\n")) (aCons (eArg (aCons (eBnd (getv 0) (getF ["Shape"] "parts")) aNil) (c fn_format_items)) aNil) (opM joinD))
noncomputable def m__law_lines (c : Nat → List Dv → M Dv) : SF :=
    sSeq (sSet 1 (eArg aNil mkC))
    (sSeq (sFor (iVal (getv 0)) (gSet 2) (sSeq (sSet 3 (eOp addD (eOp addD (eOp ixD (getv 2) (eC (.int 0))) (eC (.str " "))) (eOp ixD (getv 2) (eC (.int 1)))))
    (sIf (tB (eOp eqD (eOp ixD (getv 2) (eC (.int 0))) (eC (.str "repeat")))) (sSet 1 (eAddC (eOp addD (eOp addD (getv 1) (eArg (aCons (eOp addD (eOp addD (getv 3) (eC (.str " "))) (eArg (aCons (eOp ixD (getv 2) (eC (.int 2))) aNil) (opA strD2))) aNil) mkL)) (eArg (aCons (eOp ixD (getv 2) (eC (.int 3))) aNil) (c fn__law_lines))) (eArg (aCons (eC (.str "end")) aNil) mkL))) (sIf (tB (eOp eqD (eOp ixD (getv 2) (eC (.int 0))) (eC (.str "either")))) (sSeq (sExp (eMt "list" (getv 1) (aCons (getv 3) aNil) (appendM)))
    (sSeq (sFor (iVal (eOp ixD (getv 2) (eC (.int 2)))) (gSet 4) (sSet 1 (eAddC (eOp addD (getv 1) (eArg (aCons (eC (.str "choice")) aNil) mkL)) (eArg (aCons (getv 4) aNil) (c fn__law_lines)))))
    (sExp (eMt "list" (getv 1) (aCons (eC (.str "end")) aNil) (appendM))))) (sIf (tB (eOp eqD (eOp ixD (getv 2) (eC (.int 0))) (eC (.str "switch")))) (sSeq (sExp (eMt "list" (getv 1) (aCons (eOp addD (eOp addD (getv 3) (eC (.str " "))) (eOp ixD (getv 2) (eC (.int 2)))) aNil) (appendM)))
    (sSeq (sFor (iVal (eOp ixD (getv 2) (eC (.int 3)))) (gSet 5) (sSet 1 (eAddC (eOp addD (getv 1) (eArg (aCons (eOp addD (eC (.str "case ")) (eArg (aCons (eOp ixD (getv 5) (eC (.int 0))) aNil) (opA strD2))) aNil) mkL)) (eArg (aCons (eOp ixD (getv 5) (eC (.int 1))) aNil) (c fn__law_lines)))))
    (sExp (eMt "list" (getv 1) (aCons (eC (.str "end")) aNil) (appendM))))) (sSeq (sFor (iVal (eSl slD (getv 2) (oSome (eC (.int 2))) oNone)) (gSet 6) (sSet 3 (eOp addD (eOp addD (getv 3) (eC (.str " "))) (eArg (aCons (getv 6) aNil) (opA strD2)))))
    (sExp (eMt "list" (getv 1) (aCons (getv 3) aNil) (appendM)))))))))
    (sRet (getv 1)))
noncomputable def m__law_frozen (c : Nat → List Dv → M Dv) : SF :=
    sSeq (sSet 1 (eArg aNil mkC))
    (sSeq (sFor (iVal (getv 0)) (gSet 2) (sIf (tB (eOp eqD (eOp ixD (getv 2) (eC (.int 0))) (eC (.str "repeat")))) (sExp (eMt "list" (getv 1) (aCons (eArg (aCons (eOp ixD (getv 2) (eC (.int 0))) (aCons (eOp ixD (getv 2) (eC (.int 1))) (aCons (eOp ixD (getv 2) (eC (.int 2))) (aCons (eArg (aCons (eOp ixD (getv 2) (eC (.int 3))) aNil) (c fn__law_frozen)) aNil)))) mkT) aNil) (appendM))) (sIf (tB (eOp eqD (eOp ixD (getv 2) (eC (.int 0))) (eC (.str "either")))) (sExp (eMt "list" (getv 1) (aCons (eArg (aCons (eOp ixD (getv 2) (eC (.int 0))) (aCons (eOp ixD (getv 2) (eC (.int 1))) (aCons (eArg (aCons (lcF (iVal (eOp ixD (getv 2) (eC (.int 2)))) [3] (gSet 3) tYes' (eArg (aCons (getv 3) aNil) (c fn__law_frozen))) aNil) (tupleM)) aNil))) mkT) aNil) (appendM))) (sIf (tB (eOp eqD (eOp ixD (getv 2) (eC (.int 0))) (eC (.str "switch")))) (sExp (eMt "list" (getv 1) (aCons (eArg (aCons (eOp ixD (getv 2) (eC (.int 0))) (aCons (eOp ixD (getv 2) (eC (.int 1))) (aCons (eOp ixD (getv 2) (eC (.int 2))) (aCons (eArg (aCons (lcF (iVal (eOp ixD (getv 2) (eC (.int 3)))) [4] (gSet 4) tYes' (eArg (aCons (eOp ixD (getv 4) (eC (.int 0))) (aCons (eArg (aCons (eOp ixD (getv 4) (eC (.int 1))) aNil) (c fn__law_frozen)) aNil)) mkT)) aNil) (tupleM)) aNil)))) mkT) aNil) (appendM))) (sExp (eMt "list" (getv 1) (aCons (getv 2) aNil) (appendM)))))))
    (sRet (eArg (aCons (getv 1) aNil) (tupleM))))
noncomputable def m_law (c : Nat → List Dv → M Dv) : SF :=
    sSeq (sSet 1 (eArg (aCons (getv 0) (aCons (eC (.int 160)) aNil)) (c fn__law_numbers)))
    (sSeq (sSet 2 (eArg (aCons (getv 1) aNil) (c fn__law_begin)))
    (sSeq (sSet 3 (eArg (aCons (getv 2) (aCons (eArg aNil mkL) (aCons (eC (.int 0)) (aCons (eOp addD (eC (.int 1)) (eOp modD (eArg (aCons (eOp ixD (getv 1) (eC (.int 6))) aNil) (opA intD)) (eC (.int 12)))) aNil)))) (c fn__law_items)))
    (sSeq (sSet 4 (eMt "str" (eC (.str "\n")) (aCons (eArg (aCons (getv 3) aNil) (c fn__law_lines)) aNil) (opM joinD)))
    (sSeq (sSet 5 (eArg (aCons (getv 3) aNil) (newI "Shape" (c fn_Shape____init__))))
    (sSeq (sSet 6 (eArg (aCons (getv 5) aNil) (c fn_format_shape)))
    (sSeq (sIf ((tOr2 (tNot1 (tTru (eArg (aCons (getv 6) (aCons (eC (.ty "str")) aNil)) (opA isiD)))) (tB (eOp neD (getv 6) (getv 4))))) (sRet (eC (.bl false))) (sNil))
    (sSeq (sIf (tB (eOp neD (eArg (aCons (eArg (aCons (eSl slD (getv 3) oNone (oSome (eC (.int 1)))) aNil) (newI "Shape" (c fn_Shape____init__))) aNil) (c fn_format_shape)) (eMt "str" (eC (.str "\n")) (aCons (eArg (aCons (eSl slD (getv 3) oNone (oSome (eC (.int 1)))) aNil) (c fn__law_lines)) aNil) (opM joinD)))) (sRet (eC (.bl false))) (sNil))
    (sRet ((eAnd (eOp eqD (eArg (aCons (getv 5) aNil) (c fn_format_shape)) (getv 4)) (eOp eqD (eBnd (getv 5) (getF ["Shape"] "parts")) (eArg (aCons (getv 3) aNil) (c fn__law_frozen)))))))))))))
noncomputable def run : Nat → Nat → List Dv → M Dv
  | 0, _ => fun _ => stuck
  | k + 1, n => match n with
    | 14 => defM true 1 (m_ShapeCheck____init__ (run k))
    | 15 => defM true 2 (m_ShapeCheck__require (run k))
    | 16 => defM true 1 (m_is_byte (run k))
    | 17 => defM true 6 (m_ShapeCheck__check_plain (run k))
    | 18 => defM true 2 (m_bounds (run k))
    | 19 => defM true 6 (m_ShapeCheck__check_uses (run k))
    | 20 => defM true 3 (m_blocks_of (run k))
    | 21 => defM true 3 (m_least_of (run k))
    | 22 => defM true 3 (m_least_of_items (run k))
    | 23 => defM true 4 (m_ShapeCheck__check_lengths (run k))
    | 3 => defM true 2 (m_is_name (run k))
    | 24 => defM true 7 (m_ShapeCheck__check_items (run k))
    | 25 => defM true 3 (m_copied (run k))
    | 26 => defM true 2 (m_copied_items (run k))
    | 27 => defM true 4 (m_Shape____init__ (run k))
    | 0 => defM true 6 (m__law_row (run k))
    | 1 => defM true 7 (m__law_numbers (run k))
    | 29 => defM false 7 (m__law_begin (run k))
    | 30 => defM true 2 (m__law_next (run k))
    | 31 => defM true 5 (m__law_use (run k))
    | 32 => defM true 6 (m__law_number (run k))
    | 33 => defM true 6 (m__law_block (run k))
    | 34 => defM true 11 (m__law_nested (run k))
    | 35 => defM true 4 (m__law_item (run k))
    | 36 => defM true 8 (m__law_items (run k))
    | 45 => defM true 6 (m_format_items (run k))
    | 46 => defM true 1 (m_format_shape (run k))
    | 47 => defM true 7 (m__law_lines (run k))
    | 48 => defM true 5 (m__law_frozen (run k))
    | 13 => defM true 7 (m_law (run k))
    | _ => fun _ => stuck

end L05

namespace L05
open PySem PySem.Spec PyProof.Rows L2 ML
def topS (i : Nat) : Stmt := PySem.Challenge.pw_byteshape_k05_written_form.main.body.getD i (.Pass ⟨0, 0, 0, 0⟩)
abbrev s_ShapeCheck____init__ : Stmt := inClass (topS 28) 0
abbrev s_ShapeCheck__require : Stmt := inClass (topS 28) 1
abbrev s_is_byte : Stmt := topS 21
abbrev s_ShapeCheck__check_plain : Stmt := inClass (topS 28) 3
abbrev s_bounds : Stmt := topS 25
abbrev s_ShapeCheck__check_uses : Stmt := inClass (topS 28) 4
abbrev s_blocks_of : Stmt := topS 22
abbrev s_least_of : Stmt := topS 26
abbrev s_least_of_items : Stmt := topS 27
abbrev s_ShapeCheck__check_lengths : Stmt := inClass (topS 28) 5
abbrev s_is_name : Stmt := topS 20
abbrev s_ShapeCheck__check_items : Stmt := inClass (topS 28) 2
abbrev s_copied : Stmt := topS 23
abbrev s_copied_items : Stmt := topS 24
abbrev s_Shape____init__ : Stmt := inClass (topS 29) 0
abbrev s__law_row : Stmt := topS 34
abbrev s__law_numbers : Stmt := topS 35
abbrev s__law_begin : Stmt := topS 37
abbrev s__law_next : Stmt := topS 36
abbrev s__law_use : Stmt := topS 39
abbrev s__law_number : Stmt := topS 38
abbrev s__law_block : Stmt := topS 40
abbrev s__law_nested : Stmt := topS 41
abbrev s__law_item : Stmt := topS 42
abbrev s__law_items : Stmt := topS 43
abbrev s_format_items : Stmt := topS 31
abbrev s_format_shape : Stmt := topS 32
abbrev s__law_lines : Stmt := topS 47
abbrev s__law_frozen : Stmt := topS 45
abbrev s_law : Stmt := topS 48
/-- what the walks ask of the module -/
structure Txt (K : PySem.W.Frag) (mg : Str → Option Value) (w : World) : Prop where
  n_abs : mg "abs" = none
  n_all : mg "all" = none
  n_enumerate : mg "enumerate" = none
  n_int : mg "int" = none
  n_isinstance : mg "isinstance" = none
  n_len : mg "len" = none
  n_list : mg "list" = none
  n_max : mg "max" = none
  n_min : mg "min" = none
  n_range : mg "range" = none
  n_str : mg "str" = none
  n_sum : mg "sum" = none
  n_tuple : mg "tuple" = none
  c_MOST_CASES : KC K mg "MOST_CASES" (.int 8)
  c_MOST_CHOICES : KC K mg "MOST_CHOICES" (.int 4)
  c_MOST_COUNT : KC K mg "MOST_COUNT" (.int 16)
  c_MOST_DEPTH : KC K mg "MOST_DEPTH" (.int 3)
  c_MOST_ITEMS : KC K mg "MOST_ITEMS" (.int 12)
  c_MOST_LENGTH : KC K mg "MOST_LENGTH" (.int 64)
  c_MOST_MODULUS : KC K mg "MOST_MODULUS" (.int 16)
  c_MOST_NAMES : KC K mg "MOST_NAMES" (.int 30)
  c_MOST_NAME_CHARS : KC K mg "MOST_NAME_CHARS" (.int 12)
  c_MULTIPLES : KC K mg "MULTIPLES" (.tup [(.int 1), (.int 2), (.int 4), (.int 8), (.int 16)])
  c_NAME_CHARS : KC K mg "NAME_CHARS" (.str "abcdefghijklmnopqrstuvwxyz0123456789")
  c_ORDERS : KC K mg "ORDERS" (.tup [(.str "big"), (.str "little")])
  d_PARTS : KTab K mg w "PARTS" k_PARTS
  d_GREATEST : KTabI K mg "GREATEST" k_GREATEST
  f_bounds : ∀ c ∈ (["Shape"] : List Str), ClsF K mg "bounds" c
  f_checks : ∀ c ∈ (["ShapeCheck"] : List Str), ClsF K mg "checks" c
  f_names : ∀ c ∈ (["Shape", "ShapeCheck"] : List Str), ClsF K mg "names" c
  f_numbers : ∀ c ∈ (["ShapeCheck"] : List Str), ClsF K mg "numbers" c
  f_parts : ∀ c ∈ (["Shape"] : List Str), ClsF K mg "parts" c
  x_InvalidShape : ExcE K mg "InvalidShape"
structure Tab (P : Program) (w : World) (K : PySem.W.Frag) (mg : Str → Option Value) (base : Heap) (j : Nat) (c : Nat → List Dv → M Dv) : Prop where
  mk_ShapeCheck : MakE P w K mg base j "ShapeCheck" 1 (c fn_ShapeCheck____init__)
  ShapeCheck__require : MthE P w K mg base j "ShapeCheck" "require" 2 (c fn_ShapeCheck__require)
  is_byte : FnE P w K mg base j "is_byte" 1 (c fn_is_byte)
  ShapeCheck__check_plain : MthE P w K mg base j "ShapeCheck" "check_plain" 2 (c fn_ShapeCheck__check_plain)
  bounds : FnE P w K mg base j "bounds" 2 (c fn_bounds)
  ShapeCheck__check_uses : MthE P w K mg base j "ShapeCheck" "check_uses" 3 (c fn_ShapeCheck__check_uses)
  blocks_of : FnE P w K mg base j "blocks_of" 1 (c fn_blocks_of)
  least_of : FnE P w K mg base j "least_of" 2 (c fn_least_of)
  least_of_items : FnE P w K mg base j "least_of_items" 2 (c fn_least_of_items)
  ShapeCheck__check_lengths : MthE P w K mg base j "ShapeCheck" "check_lengths" 2 (c fn_ShapeCheck__check_lengths)
  is_name : FnE P w K mg base j "is_name" 1 (c fn_is_name)
  ShapeCheck__check_items : MthE P w K mg base j "ShapeCheck" "check_items" 4 (c fn_ShapeCheck__check_items)
  copied : FnE P w K mg base j "copied" 1 (c fn_copied)
  copied_items : FnE P w K mg base j "copied_items" 1 (c fn_copied_items)
  mk_Shape : MakE P w K mg base j "Shape" 2 (c fn_Shape____init__)
  _law_row : FnE P w K mg base j "_law_row" 2 (c fn__law_row)
  _law_numbers : FnE P w K mg base j "_law_numbers" 2 (c fn__law_numbers)
  _law_begin : FnE P w K mg base j "_law_begin" 1 (c fn__law_begin)
  _law_next : FnE P w K mg base j "_law_next" 2 (c fn__law_next)
  _law_use : FnE P w K mg base j "_law_use" 3 (c fn__law_use)
  _law_number : FnE P w K mg base j "_law_number" 2 (c fn__law_number)
  _law_block : FnE P w K mg base j "_law_block" 4 (c fn__law_block)
  _law_nested : FnE P w K mg base j "_law_nested" 4 (c fn__law_nested)
  _law_item : FnE P w K mg base j "_law_item" 3 (c fn__law_item)
  _law_items : FnE P w K mg base j "_law_items" 4 (c fn__law_items)
  format_items : FnE P w K mg base j "format_items" 1 (c fn_format_items)
  format_shape : FnE P w K mg base j "format_shape" 1 (c fn_format_shape)
  _law_lines : FnE P w K mg base j "_law_lines" 1 (c fn__law_lines)
  _law_frozen : FnE P w K mg base j "_law_frozen" 1 (c fn__law_frozen)
  law : FnE P w K mg base j "law" 1 (c fn_law)
section
variable {P : Program} {w : World} {K : PySem.W.Frag} {mg : Str → Option Value} {base : Heap}
theorem sc_ShapeCheck____init__ : FnScope ["self"] ["self"] (defScope s_ShapeCheck____init__) := ⟨rfl, rfl, rfl, by decide +kernel, rfl, by decide +kernel, by decide +kernel⟩
theorem ok_ShapeCheck____init__ {f : Addr} {fd : FuncData} (F : Fun K "__init__" "ShapeCheck.__init__" s_ShapeCheck____init__ f fd) (T : Txt K mg w) {j : Nat} {c : Nat → List Dv → M Dv} (C : Tab P w K mg base j c) : FnOk P w K mg base (L2.CX P w) (j + 2) f fd ["self"] (spOf ⟨K, mg⟩ 1 (defM true 1 (m_ShapeCheck____init__ c))) :=
  fn_ok (k := j + 1) F sc_ShapeCheck____init__ fun cdv A outer s H E hr ct hp => have hc : Room j _ := hr.mono (Nat.le_succ j)
    dss_cons (ds_fld T.f_names (de_lstC da_nil) (dv 0))
    (dss_cons (ds_fld T.f_numbers (de_dnew) (dv 0))
    (dss_one (ds_fld T.f_checks (de_int) (dv 0))))
theorem sc_ShapeCheck__require : FnScope ["self", "holds"] ["self", "holds"] (defScope s_ShapeCheck__require) := ⟨rfl, rfl, rfl, by decide +kernel, rfl, by decide +kernel, by decide +kernel⟩
theorem ok_ShapeCheck__require {f : Addr} {fd : FuncData} (F : Fun K "require" "ShapeCheck.require" s_ShapeCheck__require f fd) (T : Txt K mg w) {j : Nat} {c : Nat → List Dv → M Dv} (C : Tab P w K mg base j c) : FnOk P w K mg base (L2.CX P w) (j + 2) f fd ["self", "holds"] (spOf ⟨K, mg⟩ 2 (defM true 2 (m_ShapeCheck__require c))) :=
  fn_ok (k := j + 1) F sc_ShapeCheck__require fun cdv A outer s H E hr ct hp => have hc : Room j _ := hr.mono (Nat.le_succ j)
    dss_one (ds_if (dt_not (dt_truth (dv 1))) (dss_one (ds_raise ct T.x_InvalidShape)) (dss_nil))
theorem sc_is_byte : FnScope ["number"] ["number"] (defScope s_is_byte) := ⟨rfl, rfl, rfl, by decide +kernel, rfl, by decide +kernel, by decide +kernel⟩
theorem ok_is_byte {f : Addr} {fd : FuncData} (F : Fun K "is_byte" "is_byte" s_is_byte f fd) (T : Txt K mg w) {j : Nat} {c : Nat → List Dv → M Dv} (C : Tab P w K mg base j c) : FnOk P w K mg base (L2.CX P w) (j + 2) f fd ["number"] (spOf ⟨K, mg⟩ 1 (defM true 1 (m_is_byte c))) :=
  fn_ok (k := j + 1) F sc_is_byte fun cdv A outer s H E hr ct hp => have hc : Room j _ := hr.mono (Nat.le_succ j)
    dss_one (ds_ret (de_chain2 od_le od_le (de_int) (dv 0) (de_int)))
theorem sc_ShapeCheck__check_plain : FnScope ["self", "item", "values", "value", "_", "number"] ["self", "item"] (defScope s_ShapeCheck__check_plain) := ⟨rfl, rfl, rfl, by decide +kernel, rfl, by decide +kernel, by decide +kernel⟩
theorem ok_ShapeCheck__check_plain {f : Addr} {fd : FuncData} (F : Fun K "check_plain" "ShapeCheck.check_plain" s_ShapeCheck__check_plain f fd) (T : Txt K mg w) {j : Nat} {c : Nat → List Dv → M Dv} (C : Tab P w K mg base j c) : FnOk P w K mg base (L2.CX P w) (j + 2) f fd ["self", "item"] (spOf ⟨K, mg⟩ 2 (defM true 6 (m_ShapeCheck__check_plain c))) :=
  fn_ok (k := j + 1) F sc_ShapeCheck__check_plain fun cdv A outer s H E hr ct hp => have hc : Room j _ := hr.mono (Nat.le_succ j)
    dss_cons (ds_if (dt_cmp (od_eq ct) (de_ix id_seq (dv 1) (de_int)) (de_str) (nomark _)) (dss_cons (ds_expr (de_meth ct C.ShapeCheck__require hc (dv 0) (da_cons ((de_and (de_inI T.d_GREATEST (de_ix id_seq (dv 1) (de_int))) (de_one (de_cmp od_in (de_ix id_seq (dv 1) (de_int)) (de_kc T.c_ORDERS) (by rfl))))) da_nil)))
    (dss_one (ds_expr (de_meth ct C.ShapeCheck__require hc (dv 0) (da_cons (de_chain3 od_le od_le od_le (de_int) (de_ix id_seq (dv 1) (de_int)) (de_ix id_seq (dv 1) (de_int)) (de_ixI T.d_GREATEST (de_ix id_seq (dv 1) (de_int)))) da_nil))))) (dss_nil))
    (dss_cons (ds_if (dt_cmp (od_eq ct) (de_ix id_seq (dv 1) (de_int)) (de_str) (nomark _)) (dss_one (ds_expr (de_meth ct C.ShapeCheck__require hc (dv 0) (da_cons ((de_and (de_call ct C.is_byte hc (da_cons (de_ix id_seq (dv 1) (de_int)) da_nil)) (de_one (de_chain2 od_le od_le (de_int) (de_ix id_seq (dv 1) (de_int)) (de_kc T.c_MOST_LENGTH))))) da_nil)))) (dss_nil))
    (dss_cons (ds_if (dt_cmp (od_eq ct) (de_ix id_seq (dv 1) (de_int)) (de_str) (nomark _)) (dss_one (ds_expr (de_meth ct C.ShapeCheck__require hc (dv 0) (da_cons (de_chain2 od_le od_le (de_int) (de_callB cd_len T.n_len (by decide +kernel) (da_cons (de_ix id_seq (dv 1) (de_int)) da_nil)) (de_kc T.c_MOST_CHOICES)) da_nil)))) (dss_nil))
    (dss_cons (ds_if (dt_cmp (od_eq ct) (de_ix id_seq (dv 1) (de_int)) (de_str) (nomark _)) (dss_cons (ds_setLc (own := [("value", 3), ("_", 4)]) ct rfl rfl (sw_true rfl rfl rfl (by decide +kernel)) (di_val (de_ix id_seq (dv 1) (de_int))) (blk_of (fun s1 H1 C1 l1 p1 => (dg_tup (ct.blk s1 H1 _ _ p1).calm (dgs_cons (dg_name (ct.blk s1 H1 _ _ p1).nd rfl (by first | exact Or.inl rfl | exact Or.inr rfl)) (dgs_cons (dg_name (ct.blk s1 H1 _ _ p1).nd rfl (by first | exact Or.inl rfl | exact Or.inr rfl)) dgs_nil)))) (fun s1 H1 C1 l1 p1 => dts_nil) (fun s1 H1 C1 l1 p1 => (dv 3))) (by show blkC ["self", "item", "values", "value", "_", "number"] (defScope s_ShapeCheck__check_plain) _ [("value", 3), ("_", 4)] = true; decide +kernel))
    (dss_cons (ds_expr (de_meth ct C.ShapeCheck__require hc (dv 0) (da_cons (de_chain2 od_le od_le (de_int) (de_callB cd_len T.n_len (by decide +kernel) (da_cons (dv 2) da_nil)) (de_kc T.c_MOST_CASES)) da_nil)))
    (dss_one (ds_for ct hp (di_enum T.n_enumerate (da_cons (dv 2) da_nil)) (dg_tup ct.calm (dgs_cons (dg_name ct.nd rfl (by first | exact Or.inl rfl | exact Or.inr rfl)) (dgs_cons (dg_name ct.nd rfl (by first | exact Or.inl rfl | exact Or.inr rfl)) dgs_nil))) (dss_one (ds_expr (de_meth ct C.ShapeCheck__require hc (dv 0) (da_cons ((de_and (de_chain2 od_le od_le (de_int) (dv 3) (de_ixI T.d_GREATEST (de_int))) (de_one (de_cmp od_nin (dv 3) (de_slice sd_sl (dv 2) do_none (do_some (dv 5))) (by rfl))))) da_nil)))))))) (dss_nil))
    (dss_cons (ds_if (dt_cmp (od_eq ct) (de_ix id_seq (dv 1) (de_int)) (de_str) (nomark _)) (dss_cons (ds_expr (de_meth ct C.ShapeCheck__require hc (dv 0) (da_cons ((de_and (de_chain2 od_le od_le (de_int) (de_ix id_seq (dv 1) (de_int)) (de_kc T.c_MOST_MODULUS)) (de_one (de_cmp (od_eq ct) (de_fld T.f_checks (dv 0)) (de_int) (nomark _))))) da_nil)))
    (dss_one (ds_fldaug T.f_checks (dv 0) (de_int)))) (dss_nil))
    (dss_one (ds_if (dt_cmp (od_eq ct) (de_ix id_seq (dv 1) (de_int)) (de_str) (nomark _)) (dss_one (ds_expr (de_meth ct C.ShapeCheck__require hc (dv 0) (da_cons ((de_and (de_cmp od_in (de_ix id_seq (dv 1) (de_int)) (de_kc T.c_MULTIPLES) (by rfl)) (de_one (de_call ct C.is_byte hc (da_cons (de_ix id_seq (dv 1) (de_int)) da_nil))))) da_nil)))) (dss_nil)))))))
theorem sc_bounds : FnScope ["value", "numbers"] ["value", "numbers"] (defScope s_bounds) := ⟨rfl, rfl, rfl, by decide +kernel, rfl, by decide +kernel, by decide +kernel⟩
theorem ok_bounds {f : Addr} {fd : FuncData} (F : Fun K "bounds" "bounds" s_bounds f fd) (T : Txt K mg w) {j : Nat} {c : Nat → List Dv → M Dv} (C : Tab P w K mg base j c) : FnOk P w K mg base (L2.CX P w) (j + 2) f fd ["value", "numbers"] (spOf ⟨K, mg⟩ 2 (defM true 2 (m_bounds c))) :=
  fn_ok (k := j + 1) F sc_bounds fun cdv A outer s H E hr ct hp => have hc : Room j _ := hr.mono (Nat.le_succ j)
    dss_cons (ds_if (dt_truth (de_callB cd_isi T.n_isinstance (by decide +kernel) (da_cons (dv 0) (da_cons (de_ty T.n_int (by decide +kernel)) da_nil)))) (dss_one (ds_ret (de_tup (da_cons (dv 0) (da_cons (dv 0) da_nil))))) (dss_nil))
    (dss_one (ds_ret (de_dget ct (dv 1) (dv 0))))
theorem sc_ShapeCheck__check_uses : FnScope ["self", "item", "visible", "most", "least", "greatest"] ["self", "item", "visible"] (defScope s_ShapeCheck__check_uses) := ⟨rfl, rfl, rfl, by decide +kernel, rfl, by decide +kernel, by decide +kernel⟩
theorem ok_ShapeCheck__check_uses {f : Addr} {fd : FuncData} (F : Fun K "check_uses" "ShapeCheck.check_uses" s_ShapeCheck__check_uses f fd) (T : Txt K mg w) {j : Nat} {c : Nat → List Dv → M Dv} (C : Tab P w K mg base j c) : FnOk P w K mg base (L2.CX P w) (j + 2) f fd ["self", "item", "visible"] (spOf ⟨K, mg⟩ 3 (defM true 6 (m_ShapeCheck__check_uses c))) :=
  fn_ok (k := j + 1) F sc_ShapeCheck__check_uses fun cdv A outer s H E hr ct hp => have hc : Room j _ := hr.mono (Nat.le_succ j)
    dss_cons (ds_if (dt_cmp (od_eq ct) (de_ix id_seq (dv 1) (de_int)) (de_str) (nomark _)) (dss_one (ds_expr (de_meth ct C.ShapeCheck__require hc (dv 0) (da_cons (de_cmp od_in (de_ix id_seq (dv 1) (de_int)) (dv 2) (by rfl)) da_nil)))) (dss_nil))
    (dss_one (ds_if (dt_cmp od_in (de_ix id_seq (dv 1) (de_int)) (de_tup (da_cons (de_str) (da_cons (de_str) da_nil))) (by rfl)) (dss_cons (ds_expr (de_meth ct C.ShapeCheck__require hc (dv 0) (da_cons ((de_or (de_callB cd_isi T.n_isinstance (by decide +kernel) (da_cons (de_ix id_seq (dv 1) (de_int)) (da_cons (de_ty T.n_int (by decide +kernel)) da_nil))) (de_one (de_cmp od_in (de_ix id_seq (dv 1) (de_int)) (dv 2) (by rfl))))) da_nil)))
    (dss_cons (ds_set ct rfl (by first | exact Or.inl rfl | exact Or.inr rfl) (de_kc T.c_MOST_LENGTH))
    (dss_cons (ds_if (dt_cmp (od_eq ct) (de_ix id_seq (dv 1) (de_int)) (de_str) (nomark _)) (dss_one (ds_set ct rfl (by first | exact Or.inl rfl | exact Or.inr rfl) (de_kc T.c_MOST_COUNT))) (dss_nil))
    (dss_cons (ds_asg (de_call ct C.bounds hc (da_cons (de_ix id_seq (dv 1) (de_int)) (da_cons (de_fld T.f_numbers (dv 0)) da_nil))) (dg_tup ct.calm (dgs_cons (dg_name ct.nd rfl (by first | exact Or.inl rfl | exact Or.inr rfl)) (dgs_cons (dg_name ct.nd rfl (by first | exact Or.inl rfl | exact Or.inr rfl)) dgs_nil))))
    (dss_one (ds_expr (de_meth ct C.ShapeCheck__require hc (dv 0) (da_cons ((de_and (de_cmp od_le (de_int) (dv 4) (nomark _)) (de_one (de_cmp od_le (dv 5) (dv 3) (nomark _))))) da_nil)))))))) (dss_nil)))
theorem sc_blocks_of : FnScope ["item", "_", "items"] ["item"] (defScope s_blocks_of) := ⟨rfl, rfl, rfl, by decide +kernel, rfl, by decide +kernel, by decide +kernel⟩
theorem ok_blocks_of {f : Addr} {fd : FuncData} (F : Fun K "blocks_of" "blocks_of" s_blocks_of f fd) (T : Txt K mg w) {j : Nat} {c : Nat → List Dv → M Dv} (C : Tab P w K mg base j c) : FnOk P w K mg base (L2.CX P w) (j + 2) f fd ["item"] (spOf ⟨K, mg⟩ 1 (defM true 3 (m_blocks_of c))) :=
  fn_ok (k := j + 1) F sc_blocks_of fun cdv A outer s H E hr ct hp => have hc : Room j _ := hr.mono (Nat.le_succ j)
    dss_cons (ds_if (dt_cmp (od_eq ct) (de_ix id_seq (dv 0) (de_int)) (de_str) (nomark _)) (dss_one (ds_ret (de_lst (da_cons (de_ix id_seq (dv 0) (de_int)) da_nil)))) (dss_nil))
    (dss_cons (ds_if (dt_cmp (od_eq ct) (de_ix id_seq (dv 0) (de_int)) (de_str) (nomark _)) (dss_one (ds_ret (de_callTy cd_listL T.n_list (by decide +kernel) (da_cons (de_ix id_seq (dv 0) (de_int)) da_nil)))) (dss_nil))
    (dss_cons (ds_if (dt_cmp (od_eq ct) (de_ix id_seq (dv 0) (de_int)) (de_str) (nomark _)) (dss_one (ds_ret (de_lc (own := [("_", 1), ("items", 2)]) ct (di_val (de_ix id_seq (dv 0) (de_int))) (blk_of (fun s1 H1 C1 l1 p1 => (dg_tup (ct.blk s1 H1 _ _ p1).calm (dgs_cons (dg_name (ct.blk s1 H1 _ _ p1).nd rfl (by first | exact Or.inl rfl | exact Or.inr rfl)) (dgs_cons (dg_name (ct.blk s1 H1 _ _ p1).nd rfl (by first | exact Or.inl rfl | exact Or.inr rfl)) dgs_nil)))) (fun s1 H1 C1 l1 p1 => dts_nil) (fun s1 H1 C1 l1 p1 => (dv 2))) (by show blkC ["item", "_", "items"] (defScope s_blocks_of) _ [("_", 1), ("items", 2)] = true; decide +kernel)))) (dss_nil))
    (dss_one (ds_ret (de_lst da_nil)))))
theorem sc_least_of : FnScope ["item", "numbers", "items"] ["item", "numbers"] (defScope s_least_of) := ⟨rfl, rfl, rfl, by decide +kernel, rfl, by decide +kernel, by decide +kernel⟩
theorem ok_least_of {f : Addr} {fd : FuncData} (F : Fun K "least_of" "least_of" s_least_of f fd) (T : Txt K mg w) {j : Nat} {c : Nat → List Dv → M Dv} (C : Tab P w K mg base j c) : FnOk P w K mg base (L2.CX P w) (j + 2) f fd ["item", "numbers"] (spOf ⟨K, mg⟩ 2 (defM true 3 (m_least_of c))) :=
  fn_ok (k := j + 1) F sc_least_of fun cdv A outer s H E hr ct hp => have hc : Room j _ := hr.mono (Nat.le_succ j)
    dss_cons (ds_if (dt_cmp (od_eq ct) (de_ix id_seq (dv 0) (de_int)) (de_str) (nomark _)) (dss_one (ds_ret (de_ix id_seq (dv 0) (de_int)))) (dss_nil))
    (dss_cons (ds_if (dt_cmp (od_eq ct) (de_ix id_seq (dv 0) (de_int)) (de_str) (nomark _)) (dss_one (ds_ret (de_ix id_seq (de_call ct C.bounds hc (da_cons (de_ix id_seq (dv 0) (de_int)) (da_cons (dv 1) da_nil))) (de_int)))) (dss_nil))
    (dss_cons (ds_if (dt_cmp (od_eq ct) (de_ix id_seq (dv 0) (de_int)) (de_str) (nomark _)) (dss_one (ds_ret (de_op od_mul (de_ix id_seq (de_call ct C.bounds hc (da_cons (de_ix id_seq (dv 0) (de_int)) (da_cons (dv 1) da_nil))) (de_int)) (de_call ct C.least_of_items hc (da_cons (de_ix id_seq (dv 0) (de_int)) (da_cons (dv 1) da_nil)))))) (dss_nil))
    (dss_cons (ds_if (dt_cmp od_in (de_ix id_seq (dv 0) (de_int)) (de_tup (da_cons (de_str) (da_cons (de_str) da_nil))) (by rfl)) (dss_one (ds_ret (de_callB (cd_min1 ct) T.n_min (by decide +kernel) (da_cons (de_lc (own := [("items", 2)]) ct (di_val (de_call ct C.blocks_of hc (da_cons (dv 0) da_nil))) (blk_of (fun s1 H1 C1 l1 p1 => (dg_name (ct.blk s1 H1 _ _ p1).nd rfl (by first | exact Or.inl rfl | exact Or.inr rfl))) (fun s1 H1 C1 l1 p1 => dts_nil) (fun s1 H1 C1 l1 p1 => (de_call (ct.blk s1 H1 _ _ p1) C.least_of_items hc (da_cons (dv 2) (da_cons (dv 1) da_nil))))) (by show blkC ["item", "numbers", "items"] (defScope s_least_of) _ [("items", 2)] = true; decide +kernel)) da_nil)))) (dss_nil))
    (dss_one (ds_ret (de_callTy cd_int T.n_int (by decide +kernel) (da_cons (de_cmp (od_ne ct) (de_ix id_seq (dv 0) (de_int)) (de_str) (nomark _)) da_nil)))))))
theorem sc_least_of_items : FnScope ["items", "numbers", "item"] ["items", "numbers"] (defScope s_least_of_items) := ⟨rfl, rfl, rfl, by decide +kernel, rfl, by decide +kernel, by decide +kernel⟩
theorem ok_least_of_items {f : Addr} {fd : FuncData} (F : Fun K "least_of_items" "least_of_items" s_least_of_items f fd) (T : Txt K mg w) {j : Nat} {c : Nat → List Dv → M Dv} (C : Tab P w K mg base j c) : FnOk P w K mg base (L2.CX P w) (j + 2) f fd ["items", "numbers"] (spOf ⟨K, mg⟩ 2 (defM true 3 (m_least_of_items c))) :=
  fn_ok (k := j + 1) F sc_least_of_items fun cdv A outer s H E hr ct hp => have hc : Room j _ := hr.mono (Nat.le_succ j)
    dss_one (ds_ret (de_callB (cd_sum ct) T.n_sum (by decide +kernel) (da_cons (de_lc (own := [("item", 2)]) ct (di_val (dv 0)) (blk_of (fun s1 H1 C1 l1 p1 => (dg_name (ct.blk s1 H1 _ _ p1).nd rfl (by first | exact Or.inl rfl | exact Or.inr rfl))) (fun s1 H1 C1 l1 p1 => dts_nil) (fun s1 H1 C1 l1 p1 => (de_call (ct.blk s1 H1 _ _ p1) C.least_of hc (da_cons (dv 2) (da_cons (dv 1) da_nil))))) (by show blkC ["items", "numbers", "item"] (defScope s_least_of_items) _ [("item", 2)] = true; decide +kernel)) da_nil)))
theorem sc_ShapeCheck__check_lengths : FnScope ["self", "item", "lengths", "block"] ["self", "item"] (defScope s_ShapeCheck__check_lengths) := ⟨rfl, rfl, rfl, by decide +kernel, rfl, by decide +kernel, by decide +kernel⟩
theorem ok_ShapeCheck__check_lengths {f : Addr} {fd : FuncData} (F : Fun K "check_lengths" "ShapeCheck.check_lengths" s_ShapeCheck__check_lengths f fd) (T : Txt K mg w) {j : Nat} {c : Nat → List Dv → M Dv} (C : Tab P w K mg base j c) : FnOk P w K mg base (L2.CX P w) (j + 2) f fd ["self", "item"] (spOf ⟨K, mg⟩ 2 (defM true 4 (m_ShapeCheck__check_lengths c))) :=
  fn_ok (k := j + 1) F sc_ShapeCheck__check_lengths fun cdv A outer s H E hr ct hp => have hc : Room j _ := hr.mono (Nat.le_succ j)
    dss_cons (ds_setLc (own := [("block", 3)]) ct rfl rfl (sw_true rfl rfl rfl (by decide +kernel)) (di_val (de_call ct C.blocks_of hc (da_cons (dv 1) da_nil))) (blk_of (fun s1 H1 C1 l1 p1 => (dg_name (ct.blk s1 H1 _ _ p1).nd rfl (by first | exact Or.inl rfl | exact Or.inr rfl))) (fun s1 H1 C1 l1 p1 => dts_nil) (fun s1 H1 C1 l1 p1 => (de_call (ct.blk s1 H1 _ _ p1) C.least_of_items hc (da_cons (dv 3) (da_cons (de_fld T.f_numbers (dv 0)) da_nil))))) (by show blkC ["self", "item", "lengths", "block"] (defScope s_ShapeCheck__check_lengths) _ [("block", 3)] = true; decide +kernel))
    (dss_cons (ds_if (dt_cmp (od_eq ct) (de_ix id_seq (dv 1) (de_int)) (de_str) (nomark _)) (dss_one (ds_expr (de_meth ct C.ShapeCheck__require hc (dv 0) (da_cons (de_cmp od_gt (de_ix id_seq (dv 2) (de_int)) (de_int) (nomark _)) da_nil)))) (dss_nil))
    (dss_one (ds_if (dt_cmp (od_eq ct) (de_ix id_seq (dv 1) (de_int)) (de_str) (nomark _)) (dss_one (ds_expr (de_meth ct C.ShapeCheck__require hc (dv 0) (da_cons (de_cmp od_le (de_bm PySem.F.plainAttrs_list PySem.F.slot_list_count PySem.F.type_list_count md_count (dv 2) (da_cons (de_int) da_nil)) (de_int) (nomark _)) da_nil)))) (dss_nil))))
theorem sc_is_name : FnScope ["text", "char"] ["text"] (defScope s_is_name) := ⟨rfl, rfl, rfl, by decide +kernel, rfl, by decide +kernel, by decide +kernel⟩
theorem ok_is_name {f : Addr} {fd : FuncData} (F : Fun K "is_name" "is_name" s_is_name f fd) (T : Txt K mg w) {j : Nat} {c : Nat → List Dv → M Dv} (C : Tab P w K mg base j c) : FnOk P w K mg base (L2.CX P w) (j + 2) f fd ["text"] (spOf ⟨K, mg⟩ 1 (defM true 2 (m_is_name c))) :=
  fn_ok (k := j + 1) F sc_is_name fun cdv A outer s H E hr ct hp => have hc : Room j _ := hr.mono (Nat.le_succ j)
    dss_cons (ds_if (dt_w (dw_or (dt_not (dt_chain2 od_le od_le (de_int) (de_callB cd_len T.n_len (by decide +kernel) (da_cons (dv 0) da_nil)) (de_kc T.c_MOST_NAME_CHARS))) (dw_or1 (dt_cmp od_in (de_ix id_seq (dv 0) (de_int)) (de_str) (by rfl))))) (dss_one (ds_ret (de_bl))) (dss_nil))
    (dss_one (ds_ret (de_callB (cd_all ct) T.n_all (by decide +kernel) (da_cons (de_lc (own := [("char", 1)]) ct (di_val (dv 0)) (blk_of (fun s1 H1 C1 l1 p1 => (dg_name (ct.blk s1 H1 _ _ p1).nd rfl (by first | exact Or.inl rfl | exact Or.inr rfl))) (fun s1 H1 C1 l1 p1 => dts_nil) (fun s1 H1 C1 l1 p1 => (de_cmp od_in (dv 1) (de_kc T.c_NAME_CHARS) (by rfl)))) (by show blkC ["text", "char"] (defScope s_is_name) _ [("char", 1)] = true; decide +kernel)) da_nil))))
theorem sc_ShapeCheck__check_items : FnScope ["self", "items", "visible", "depth", "inner", "item", "block"] ["self", "items", "visible", "depth"] (defScope s_ShapeCheck__check_items) := ⟨rfl, rfl, rfl, by decide +kernel, rfl, by decide +kernel, by decide +kernel⟩
theorem ok_ShapeCheck__check_items {f : Addr} {fd : FuncData} (F : Fun K "check_items" "ShapeCheck.check_items" s_ShapeCheck__check_items f fd) (T : Txt K mg w) {j : Nat} {c : Nat → List Dv → M Dv} (C : Tab P w K mg base j c) : FnOk P w K mg base (L2.CX P w) (j + 2) f fd ["self", "items", "visible", "depth"] (spOf ⟨K, mg⟩ 4 (defM true 7 (m_ShapeCheck__check_items c))) :=
  fn_ok (k := j + 1) F sc_ShapeCheck__check_items fun cdv A outer s H E hr ct hp => have hc : Room j _ := hr.mono (Nat.le_succ j)
    dss_cons (ds_expr (de_meth ct C.ShapeCheck__require hc (dv 0) (da_cons ((de_and (de_cmp od_le (de_callB cd_len T.n_len (by decide +kernel) (da_cons (dv 1) da_nil)) (de_kc T.c_MOST_ITEMS) (nomark _)) (de_one (de_cmp od_le (dv 3) (de_kc T.c_MOST_DEPTH) (nomark _))))) da_nil)))
    (dss_cons (ds_set ct rfl (by first | exact Or.inl rfl | exact Or.inr rfl) (de_callTy cd_listC T.n_list (by decide +kernel) (da_cons (dv 2) da_nil)))
    (dss_one (ds_for ct hp (di_val (dv 1)) (dg_name ct.nd rfl (by first | exact Or.inl rfl | exact Or.inr rfl)) (dss_cons (ds_expr (de_meth ct C.ShapeCheck__require hc (dv 0) (da_cons ((de_and (de_cmp od_gt (de_callB cd_len T.n_len (by decide +kernel) (da_cons (dv 5) da_nil)) (de_int) (nomark _)) (de_and (de_inK T.d_PARTS (de_ix id_seq (dv 5) (de_int))) (de_one (de_cmp (od_eq ct) (de_callB cd_len T.n_len (by decide +kernel) (da_cons (dv 5) da_nil)) (de_ixK T.d_PARTS (de_ix id_seq (dv 5) (de_int))) (nomark _)))))) da_nil)))
    (dss_cons (ds_expr (de_meth ct C.ShapeCheck__require hc (dv 0) (da_cons ((de_and (de_call ct C.is_name hc (da_cons (de_ix id_seq (dv 5) (de_int)) da_nil)) (de_and (de_cmp od_nin (de_ix id_seq (dv 5) (de_int)) (de_fld T.f_names (dv 0)) (by rfl)) (de_one (de_cmp od_lt (de_callB cd_len T.n_len (by decide +kernel) (da_cons (de_fld T.f_names (dv 0)) da_nil)) (de_kc T.c_MOST_NAMES) (nomark _)))))) da_nil)))
    (dss_cons (ds_expr (de_bm PySem.F.plainAttrs_list PySem.F.slot_list_append PySem.F.type_list_append md_append (de_fld T.f_names (dv 0)) (da_cons (de_ix id_seq (dv 5) (de_int)) da_nil)))
    (dss_cons (ds_expr (de_meth ct C.ShapeCheck__check_plain hc (dv 0) (da_cons (dv 5) da_nil)))
    (dss_cons (ds_expr (de_meth ct C.ShapeCheck__check_uses hc (dv 0) (da_cons (dv 5) (da_cons (dv 4) da_nil))))
    (dss_cons (ds_for ct hp (di_val (de_call ct C.blocks_of hc (da_cons (dv 5) da_nil))) (dg_name ct.nd rfl (by first | exact Or.inl rfl | exact Or.inr rfl)) (dss_one (ds_expr (de_meth ct C.ShapeCheck__check_items hc (dv 0) (da_cons (dv 6) (da_cons (dv 4) (da_cons (de_op od_add (dv 3) (de_int)) da_nil)))))))
    (dss_cons (ds_expr (de_meth ct C.ShapeCheck__check_lengths hc (dv 0) (da_cons (dv 5) da_nil)))
    (dss_one (ds_if (dt_cmp (od_eq ct) (de_ix id_seq (dv 5) (de_int)) (de_str) (nomark _)) (dss_cons (ds_asg (de_tup (da_cons (de_ix id_seq (dv 5) (de_int)) (da_cons (de_ix id_seq (dv 5) (de_int)) da_nil))) (dg_subD ct (de_fld T.f_numbers (dv 0)) (de_ix id_seq (dv 5) (de_int))))
    (dss_one (ds_expr (de_bm PySem.F.plainAttrs_list PySem.F.slot_list_append PySem.F.type_list_append md_append (dv 4) (da_cons (de_ix id_seq (dv 5) (de_int)) da_nil))))) (dss_nil)))))))))))))
theorem sc_copied : FnScope ["item", "items", "value"] ["item"] (defScope s_copied) := ⟨rfl, rfl, rfl, by decide +kernel, rfl, by decide +kernel, by decide +kernel⟩
theorem ok_copied {f : Addr} {fd : FuncData} (F : Fun K "copied" "copied" s_copied f fd) (T : Txt K mg w) {j : Nat} {c : Nat → List Dv → M Dv} (C : Tab P w K mg base j c) : FnOk P w K mg base (L2.CX P w) (j + 2) f fd ["item"] (spOf ⟨K, mg⟩ 1 (defM true 3 (m_copied c))) :=
  fn_ok (k := j + 1) F sc_copied fun cdv A outer s H E hr ct hp => have hc : Room j _ := hr.mono (Nat.le_succ j)
    dss_cons (ds_if (dt_cmp (od_eq ct) (de_ix id_seq (dv 0) (de_int)) (de_str) (nomark _)) (dss_one (ds_ret (de_tup (da_cons (de_ix id_seq (dv 0) (de_int)) (da_cons (de_ix id_seq (dv 0) (de_int)) (da_cons (de_ix id_seq (dv 0) (de_int)) (da_cons (de_call ct C.copied_items hc (da_cons (de_ix id_seq (dv 0) (de_int)) da_nil)) da_nil))))))) (dss_nil))
    (dss_cons (ds_if (dt_cmp (od_eq ct) (de_ix id_seq (dv 0) (de_int)) (de_str) (nomark _)) (dss_one (ds_ret (de_tup (da_cons (de_ix id_seq (dv 0) (de_int)) (da_cons (de_ix id_seq (dv 0) (de_int)) (da_cons (de_callTy cd_tuple T.n_tuple (by decide +kernel) (da_cons (de_lc (own := [("items", 1)]) ct (di_val (de_ix id_seq (dv 0) (de_int))) (blk_of (fun s1 H1 C1 l1 p1 => (dg_name (ct.blk s1 H1 _ _ p1).nd rfl (by first | exact Or.inl rfl | exact Or.inr rfl))) (fun s1 H1 C1 l1 p1 => dts_nil) (fun s1 H1 C1 l1 p1 => (de_call (ct.blk s1 H1 _ _ p1) C.copied_items hc (da_cons (dv 1) da_nil)))) (by show blkC ["item", "items", "value"] (defScope s_copied) _ [("items", 1)] = true; decide +kernel)) da_nil)) da_nil)))))) (dss_nil))
    (dss_cons (ds_if (dt_cmp (od_eq ct) (de_ix id_seq (dv 0) (de_int)) (de_str) (nomark _)) (dss_one (ds_ret (de_tup (da_cons (de_ix id_seq (dv 0) (de_int)) (da_cons (de_ix id_seq (dv 0) (de_int)) (da_cons (de_ix id_seq (dv 0) (de_int)) (da_cons (de_callTy cd_tuple T.n_tuple (by decide +kernel) (da_cons (de_lc (own := [("value", 2), ("items", 1)]) ct (di_val (de_ix id_seq (dv 0) (de_int))) (blk_of (fun s1 H1 C1 l1 p1 => (dg_tup (ct.blk s1 H1 _ _ p1).calm (dgs_cons (dg_name (ct.blk s1 H1 _ _ p1).nd rfl (by first | exact Or.inl rfl | exact Or.inr rfl)) (dgs_cons (dg_name (ct.blk s1 H1 _ _ p1).nd rfl (by first | exact Or.inl rfl | exact Or.inr rfl)) dgs_nil)))) (fun s1 H1 C1 l1 p1 => dts_nil) (fun s1 H1 C1 l1 p1 => (de_tup (da_cons (dv 2) (da_cons (de_call (ct.blk s1 H1 _ _ p1) C.copied_items hc (da_cons (dv 1) da_nil)) da_nil))))) (by show blkC ["item", "items", "value"] (defScope s_copied) _ [("value", 2), ("items", 1)] = true; decide +kernel)) da_nil)) da_nil))))))) (dss_nil))
    (dss_one (ds_ret (de_callTy cd_tuple T.n_tuple (by decide +kernel) (da_cons (dv 0) da_nil))))))
theorem sc_copied_items : FnScope ["items", "item"] ["items"] (defScope s_copied_items) := ⟨rfl, rfl, rfl, by decide +kernel, rfl, by decide +kernel, by decide +kernel⟩
theorem ok_copied_items {f : Addr} {fd : FuncData} (F : Fun K "copied_items" "copied_items" s_copied_items f fd) (T : Txt K mg w) {j : Nat} {c : Nat → List Dv → M Dv} (C : Tab P w K mg base j c) : FnOk P w K mg base (L2.CX P w) (j + 2) f fd ["items"] (spOf ⟨K, mg⟩ 1 (defM true 2 (m_copied_items c))) :=
  fn_ok (k := j + 1) F sc_copied_items fun cdv A outer s H E hr ct hp => have hc : Room j _ := hr.mono (Nat.le_succ j)
    dss_one (ds_ret (de_callTy cd_tuple T.n_tuple (by decide +kernel) (da_cons (de_lc (own := [("item", 1)]) ct (di_val (dv 0)) (blk_of (fun s1 H1 C1 l1 p1 => (dg_name (ct.blk s1 H1 _ _ p1).nd rfl (by first | exact Or.inl rfl | exact Or.inr rfl))) (fun s1 H1 C1 l1 p1 => dts_nil) (fun s1 H1 C1 l1 p1 => (de_call (ct.blk s1 H1 _ _ p1) C.copied hc (da_cons (dv 1) da_nil)))) (by show blkC ["items", "item"] (defScope s_copied_items) _ [("item", 1)] = true; decide +kernel)) da_nil)))
theorem sc_Shape____init__ : FnScope ["self", "items", "check", "name"] ["self", "items"] (defScope s_Shape____init__) := ⟨rfl, rfl, rfl, by decide +kernel, rfl, by decide +kernel, by decide +kernel⟩
theorem ok_Shape____init__ {f : Addr} {fd : FuncData} (F : Fun K "__init__" "Shape.__init__" s_Shape____init__ f fd) (T : Txt K mg w) {j : Nat} {c : Nat → List Dv → M Dv} (C : Tab P w K mg base j c) : FnOk P w K mg base (L2.CX P w) (j + 2) f fd ["self", "items"] (spOf ⟨K, mg⟩ 2 (defM true 4 (m_Shape____init__ c))) :=
  fn_ok (k := j + 1) F sc_Shape____init__ fun cdv A outer s H E hr ct hp => have hc : Room j _ := hr.mono (Nat.le_succ j)
    dss_cons (ds_set ct rfl (by first | exact Or.inl rfl | exact Or.inr rfl) (de_make0 ct C.mk_ShapeCheck hr))
    (dss_cons (ds_expr (de_meth ct C.ShapeCheck__require hc (dv 2) (da_cons (de_cmp od_gt (de_callB cd_len T.n_len (by decide +kernel) (da_cons (dv 1) da_nil)) (de_int) (nomark _)) da_nil)))
    (dss_cons (ds_expr (de_meth ct C.ShapeCheck__check_items hc (dv 2) (da_cons (dv 1) (da_cons (de_lst da_nil) (da_cons (de_int) da_nil)))))
    (dss_cons (ds_fld T.f_parts (de_call ct C.copied_items hc (da_cons (dv 1) da_nil)) (dv 0))
    (dss_cons (ds_fld T.f_names (de_callTy cd_tuple T.n_tuple (by decide +kernel) (da_cons (de_fld T.f_names (dv 2)) da_nil)) (dv 0))
    (dss_one (ds_fld T.f_bounds (de_lock (lkF 2 "numbers") (de_dc (own := [("name", 3)]) (is := [3]) ct (di_keys (de_fld T.f_numbers (dv 2))) (fun s1 H1 C1 l1 p1 => (dg_name (ct.blk s1 H1 _ _ p1).nd rfl (by first | exact Or.inl rfl | exact Or.inr rfl))) (fun s1 H1 C1 l1 p1 => dts_nil) (fun s1 H1 C1 l1 p1 => (dv 3)) (fun s1 H1 C1 l1 p1 => (de_dget (ct.blk s1 H1 _ _ p1) (de_fld T.f_numbers (dv 2)) (dv 3))) (by show blkC ["self", "items", "check", "name"] (defScope s_Shape____init__) _ [("name", 3)] = true; decide +kernel))) (dv 0)))))))
theorem sc__law_row : FnScope ["_law_cell", "_law_many", "_law_row_here", "_law_rest", "_law_mixed", "_law_k"] ["_law_cell", "_law_many"] (defScope s__law_row) := ⟨rfl, rfl, rfl, by decide +kernel, rfl, by decide +kernel, by decide +kernel⟩
theorem ok__law_row {f : Addr} {fd : FuncData} (F : Fun K "_law_row" "_law_row" s__law_row f fd) (T : Txt K mg w) {j : Nat} {c : Nat → List Dv → M Dv} (C : Tab P w K mg base j c) : FnOk P w K mg base (L2.CX P w) (j + 2) f fd ["_law_cell", "_law_many"] (spOf ⟨K, mg⟩ 2 (defM true 6 (m__law_row c))) :=
  fn_ok (k := j + 1) F sc__law_row fun cdv A outer s H E hr ct hp => have hc : Room j _ := hr.mono (Nat.le_succ j)
    dss_cons (ds_set ct rfl (by first | exact Or.inl rfl | exact Or.inr rfl) (de_lstC da_nil))
    (dss_cons (ds_set ct rfl (by first | exact Or.inl rfl | exact Or.inr rfl) (de_callB cd_abs T.n_abs (by decide +kernel) (da_cons (dv 0) da_nil)))
    (dss_cons (ds_set ct rfl (by first | exact Or.inl rfl | exact Or.inr rfl) (de_op od_mod (de_callTy cd_int T.n_int (by decide +kernel) (da_cons (de_op od_add (de_op od_mul (dv 3) (de_int)) (de_int)) da_nil)) (de_int)))
    (dss_cons (ds_for ct hp (di_range1 T.n_range (da_cons (dv 1) da_nil)) (dg_name ct.nd rfl (by first | exact Or.inl rfl | exact Or.inr rfl)) (dss_cons (ds_set ct rfl (by first | exact Or.inl rfl | exact Or.inr rfl) (de_op od_mod (de_callTy cd_int T.n_int (by decide +kernel) (da_cons (de_op od_add (de_op od_mul (dv 4) (de_int)) (de_op od_mul (de_int) (de_op od_add (dv 5) (de_int)))) da_nil)) (de_int)))
    (dss_one (ds_if (dt_cmp od_ge (de_callB cd_abs T.n_abs (by decide +kernel) (da_cons (dv 0) da_nil)) (de_op od_pow (de_int) (de_int)) (nomark _)) (dss_cons (ds_expr (de_bm PySem.F.plainAttrs_list PySem.F.slot_list_append PySem.F.type_list_append md_append (dv 2) (da_cons (de_op od_mod (de_callTy cd_int T.n_int (by decide +kernel) (da_cons (dv 3) da_nil)) (de_int)) da_nil)))
    (dss_one (ds_set ct rfl (by first | exact Or.inl rfl | exact Or.inr rfl) (de_op od_fdiv (dv 3) (de_int))))) (dss_one (ds_expr (de_bm PySem.F.plainAttrs_list PySem.F.slot_list_append PySem.F.type_list_append md_append (dv 2) (da_cons (de_op od_mod (de_callTy cd_int T.n_int (by decide +kernel) (da_cons (de_op od_fdiv (dv 4) (de_int)) da_nil)) (de_int)) da_nil))))))))
    (dss_one (ds_ret (dv 2))))))
theorem sc__law_numbers : FnScope ["_law_script", "_law_many", "_law_cells", "_law_each", "_law_numbers_here", "_law_cell", "_law_number_here"] ["_law_script", "_law_many"] (defScope s__law_numbers) := ⟨rfl, rfl, rfl, by decide +kernel, rfl, by decide +kernel, by decide +kernel⟩
theorem ok__law_numbers {f : Addr} {fd : FuncData} (F : Fun K "_law_numbers" "_law_numbers" s__law_numbers f fd) (T : Txt K mg w) {j : Nat} {c : Nat → List Dv → M Dv} (C : Tab P w K mg base j c) : FnOk P w K mg base (L2.CX P w) (j + 2) f fd ["_law_script", "_law_many"] (spOf ⟨K, mg⟩ 2 (defM true 7 (m__law_numbers c))) :=
  fn_ok (k := j + 1) F sc__law_numbers fun cdv A outer s H E hr ct hp => have hc : Room j _ := hr.mono (Nat.le_succ j)
    dss_cons (ds_set ct rfl (by first | exact Or.inl rfl | exact Or.inr rfl) (de_slice sd_sl (dv 0) do_none (do_some (de_int))))
    (dss_cons (ds_set ct rfl (by first | exact Or.inl rfl | exact Or.inr rfl) (de_op od_add (de_int) (de_op od_fdiv (dv 1) (de_callB (cd_max2 ct) T.n_max (by decide +kernel) (da_cons (de_int) (da_cons (de_callB cd_len T.n_len (by decide +kernel) (da_cons (dv 2) da_nil)) da_nil))))))
    (dss_cons (ds_set ct rfl (by first | exact Or.inl rfl | exact Or.inr rfl) (de_lstC da_nil))
    (dss_cons (ds_for ct hp (di_val (dv 2)) (dg_name ct.nd rfl (by first | exact Or.inl rfl | exact Or.inr rfl)) (dss_one (ds_for ct hp (di_val (de_call ct C._law_row hc (da_cons (dv 5) (da_cons (dv 3) da_nil)))) (dg_name ct.nd rfl (by first | exact Or.inl rfl | exact Or.inr rfl)) (dss_one (ds_expr (de_bm PySem.F.plainAttrs_list PySem.F.slot_list_append PySem.F.type_list_append md_append (dv 4) (da_cons (dv 6) da_nil)))))))
    (dss_cons (ds_while 1000000 hp (dt_cmp od_lt (de_callB cd_len T.n_len (by decide +kernel) (da_cons (dv 4) da_nil)) (dv 1) (nomark _)) (dss_one (ds_expr (de_bm PySem.F.plainAttrs_list PySem.F.slot_list_append PySem.F.type_list_append md_append (dv 4) (da_cons (de_int) da_nil)))))
    (dss_one (ds_ret (de_slice sd_sl (dv 4) do_none (do_some (dv 1)))))))))
theorem sc__law_begin : FnScope ["_law_numbers_here", "_law_chars", "_law_prefix", "_law_k", "_law_place", "_law_shift", "_law_names"] ["_law_numbers_here"] (defScope s__law_begin) := ⟨rfl, rfl, rfl, by decide +kernel, rfl, by decide +kernel, by decide +kernel⟩
theorem ok__law_begin {f : Addr} {fd : FuncData} (F : Fun K "_law_begin" "_law_begin" s__law_begin f fd) (T : Txt K mg w) {j : Nat} {c : Nat → List Dv → M Dv} (C : Tab P w K mg base j c) : FnOk P w K mg base (L2.CX P w) (j + 2) f fd ["_law_numbers_here"] (spOf ⟨K, mg⟩ 1 (defM false 7 (m__law_begin c))) :=
  fn_ok (k := j + 1) F sc__law_begin fun cdv A outer s H E hr ct hp => have hc : Room j _ := hr.mono (Nat.le_succ j)
    dss_cons (ds_set ct rfl (by first | exact Or.inl rfl | exact Or.inr rfl) (de_str))
    (dss_cons (ds_set ct rfl (by first | exact Or.inl rfl | exact Or.inr rfl) (de_ix id_seq (dv 1) (de_op od_mod (de_callTy cd_int T.n_int (by decide +kernel) (da_cons (de_ix id_seq (dv 0) (de_int)) da_nil)) (de_int))))
    (dss_cons (ds_for ct hp (di_range1 T.n_range (da_cons (de_op od_mod (de_callTy cd_int T.n_int (by decide +kernel) (da_cons (de_ix id_seq (dv 0) (de_int)) da_nil)) (de_int)) da_nil)) (dg_name ct.nd rfl (by first | exact Or.inl rfl | exact Or.inr rfl)) (dss_one (ds_set ct rfl (by first | exact Or.inl rfl | exact Or.inr rfl) (de_op od_add (dv 2) (de_ix id_seq (dv 1) (de_op od_mod (de_callTy cd_int T.n_int (by decide +kernel) (da_cons (de_op od_add (de_ix id_seq (dv 0) (de_int)) (de_op od_mul (dv 3) (de_ix id_seq (dv 0) (de_int)))) da_nil)) (de_int)))))))
    (dss_cons (ds_set ct rfl (by first | exact Or.inl rfl | exact Or.inr rfl) (de_op od_add (de_int) (de_op od_mod (de_callTy cd_int T.n_int (by decide +kernel) (da_cons (de_ix id_seq (dv 0) (de_int)) da_nil)) (de_callB cd_len T.n_len (by decide +kernel) (da_cons (dv 2) da_nil)))))
    (dss_cons (ds_set ct rfl (by first | exact Or.inl rfl | exact Or.inr rfl) (de_callTy cd_int T.n_int (by decide +kernel) (da_cons (de_ix id_seq (dv 0) (de_int)) da_nil)))
    (dss_cons (ds_setLcC (own := [("_law_k", 3)]) ct rfl rfl (sw_true rfl rfl rfl (by decide +kernel)) (di_range1 T.n_range (da_cons (de_int) da_nil)) (blk_of (fun s1 H1 C1 l1 p1 => (dg_name (ct.blk s1 H1 _ _ p1).nd rfl (by first | exact Or.inl rfl | exact Or.inr rfl))) (fun s1 H1 C1 l1 p1 => dts_nil) (fun s1 H1 C1 l1 p1 => (de_op od_add (de_op od_add (de_slice sd_sl (dv 2) do_none (do_some (dv 4))) (de_ix id_seq (dv 1) (de_op od_mod (de_callTy cd_int T.n_int (by decide +kernel) (da_cons (de_op od_add (dv 5) (dv 3)) da_nil)) (de_int)))) (de_slice sd_sl (dv 2) (do_some (dv 4)) do_none)))) (by show blkC ["_law_numbers_here", "_law_chars", "_law_prefix", "_law_k", "_law_place", "_law_shift", "_law_names"] (defScope s__law_begin) _ [("_law_k", 3)] = true; decide +kernel))
    (dss_one (ds_ret (de_lstC (da_cons (dv 0) (da_cons (de_int) (da_cons (dv 6) (da_cons (de_lstC da_nil) da_nil))))))))))))
theorem sc__law_next : FnScope ["_law_draw", "_law_many"] ["_law_draw", "_law_many"] (defScope s__law_next) := ⟨rfl, rfl, rfl, by decide +kernel, rfl, by decide +kernel, by decide +kernel⟩
theorem ok__law_next {f : Addr} {fd : FuncData} (F : Fun K "_law_next" "_law_next" s__law_next f fd) (T : Txt K mg w) {j : Nat} {c : Nat → List Dv → M Dv} (C : Tab P w K mg base j c) : FnOk P w K mg base (L2.CX P w) (j + 2) f fd ["_law_draw", "_law_many"] (spOf ⟨K, mg⟩ 2 (defM true 2 (m__law_next c))) :=
  fn_ok (k := j + 1) F sc__law_next fun cdv A outer s H E hr ct hp => have hc : Room j _ := hr.mono (Nat.le_succ j)
    dss_cons (ds_asg (de_op od_add (de_ix id_seq (dv 0) (de_int)) (de_int)) (dg_sub (dv 0) (de_int)))
    (dss_one (ds_ret (de_op od_mod (de_callTy cd_int T.n_int (by decide +kernel) (da_cons (de_ix id_seq (de_ix id_seq (dv 0) (de_int)) (de_op od_mod (de_ix id_seq (dv 0) (de_int)) (de_callB cd_len T.n_len (by decide +kernel) (da_cons (de_ix id_seq (dv 0) (de_int)) da_nil)))) da_nil)) (dv 1))))
theorem sc__law_use : FnScope ["_law_draw", "_law_ahead", "_law_most", "_law_fit", "_law_number_here"] ["_law_draw", "_law_ahead", "_law_most"] (defScope s__law_use) := ⟨rfl, rfl, rfl, by decide +kernel, rfl, by decide +kernel, by decide +kernel⟩
theorem ok__law_use {f : Addr} {fd : FuncData} (F : Fun K "_law_use" "_law_use" s__law_use f fd) (T : Txt K mg w) {j : Nat} {c : Nat → List Dv → M Dv} (C : Tab P w K mg base j c) : FnOk P w K mg base (L2.CX P w) (j + 2) f fd ["_law_draw", "_law_ahead", "_law_most"] (spOf ⟨K, mg⟩ 3 (defM true 5 (m__law_use c))) :=
  fn_ok (k := j + 1) F sc__law_use fun cdv A outer s H E hr ct hp => have hc : Room j _ := hr.mono (Nat.le_succ j)
    dss_cons (ds_setLc (own := [("_law_number_here", 4)]) ct rfl rfl (sw_true rfl rfl rfl (by decide +kernel)) (di_val (dv 1)) (blk_of (fun s1 H1 C1 l1 p1 => (dg_name (ct.blk s1 H1 _ _ p1).nd rfl (by first | exact Or.inl rfl | exact Or.inr rfl))) (fun s1 H1 C1 l1 p1 => (dts_one (dt_cmp od_le (de_ix id_seq (dv 4) (de_int)) (dv 2) (nomark _)))) (fun s1 H1 C1 l1 p1 => (de_ix id_seq (dv 4) (de_int)))) (by show blkC ["_law_draw", "_law_ahead", "_law_most", "_law_fit", "_law_number_here"] (defScope s__law_use) _ [("_law_number_here", 4)] = true; decide +kernel))
    (dss_cons (ds_if (dt_w (dw_and (dt_cmp od_gt (de_callB cd_len T.n_len (by decide +kernel) (da_cons (dv 3) da_nil)) (de_int) (nomark _)) (dw_and1 (dt_cmp (od_eq ct) (de_call ct C._law_next hc (da_cons (dv 0) (da_cons (de_int) da_nil))) (de_int) (nomark _))))) (dss_one (ds_ret (de_ix id_seq (dv 3) (de_call ct C._law_next hc (da_cons (dv 0) (da_cons (de_callB cd_len T.n_len (by decide +kernel) (da_cons (dv 3) da_nil)) da_nil)))))) (dss_nil))
    (dss_one (ds_ret (de_ix id_seq (de_lst (da_cons (de_int) (da_cons (dv 2) (da_cons (de_op od_add (de_int) (de_call ct C._law_next hc (da_cons (dv 0) (da_cons (de_int) da_nil)))) da_nil)))) (de_call ct C._law_next hc (da_cons (dv 0) (da_cons (de_int) da_nil)))))))
theorem sc__law_number : FnScope ["_law_draw", "_law_name", "_law_size", "_law_most", "_law_low", "_law_high"] ["_law_draw", "_law_name"] (defScope s__law_number) := ⟨rfl, rfl, rfl, by decide +kernel, rfl, by decide +kernel, by decide +kernel⟩
theorem ok__law_number {f : Addr} {fd : FuncData} (F : Fun K "_law_number" "_law_number" s__law_number f fd) (T : Txt K mg w) {j : Nat} {c : Nat → List Dv → M Dv} (C : Tab P w K mg base j c) : FnOk P w K mg base (L2.CX P w) (j + 2) f fd ["_law_draw", "_law_name"] (spOf ⟨K, mg⟩ 2 (defM true 6 (m__law_number c))) :=
  fn_ok (k := j + 1) F sc__law_number fun cdv A outer s H E hr ct hp => have hc : Room j _ := hr.mono (Nat.le_succ j)
    dss_cons (ds_set ct rfl (by first | exact Or.inl rfl | exact Or.inr rfl) (de_op od_add (de_int) (de_call ct C._law_next hc (da_cons (dv 0) (da_cons (de_int) da_nil)))))
    (dss_cons (ds_set ct rfl (by first | exact Or.inl rfl | exact Or.inr rfl) (de_ix id_seq (de_lst (da_cons (de_int) (da_cons (de_int) da_nil))) (de_op od_sub (dv 2) (de_int))))
    (dss_cons (ds_set ct rfl (by first | exact Or.inl rfl | exact Or.inr rfl) (de_ix id_seq (de_lst (da_cons (de_int) (da_cons (de_call ct C._law_next hc (da_cons (dv 0) (da_cons (de_int) da_nil))) (da_cons (de_call ct C._law_next hc (da_cons (dv 0) (da_cons (de_op od_add (dv 3) (de_int)) da_nil))) da_nil)))) (de_call ct C._law_next hc (da_cons (dv 0) (da_cons (de_int) da_nil)))))
    (dss_cons (ds_set ct rfl (by first | exact Or.inl rfl | exact Or.inr rfl) (de_ix id_seq (de_lst (da_cons (dv 4) (da_cons (dv 3) (da_cons (de_callB (cd_min2 ct) T.n_min (by decide +kernel) (da_cons (dv 3) (da_cons (de_op od_add (dv 4) (de_call ct C._law_next hc (da_cons (dv 0) (da_cons (de_int) da_nil)))) da_nil))) (da_cons (de_callB (cd_min2 ct) T.n_min (by decide +kernel) (da_cons (de_int) (da_cons (de_callB (cd_max2 ct) T.n_max (by decide +kernel) (da_cons (dv 4) (da_cons (de_int) da_nil))) da_nil))) da_nil))))) (de_call ct C._law_next hc (da_cons (dv 0) (da_cons (de_int) da_nil)))))
    (dss_one (ds_ret (de_tup (da_cons (de_str) (da_cons (dv 1) (da_cons (dv 2) (da_cons (de_ix id_seq (de_lst (da_cons (de_str) (da_cons (de_str) da_nil))) (de_call ct C._law_next hc (da_cons (dv 0) (da_cons (de_int) da_nil)))) (da_cons (dv 4) (da_cons (de_callB (cd_max2 ct) T.n_max (by decide +kernel) (da_cons (dv 4) (da_cons (dv 5) da_nil))) da_nil))))))))))))
theorem sc__law_block : FnScope ["_law_draw", "_law_ahead", "_law_depth", "_law_name", "_law_many", "_law_number_here"] ["_law_draw", "_law_ahead", "_law_depth", "_law_name"] (defScope s__law_block) := ⟨rfl, rfl, rfl, by decide +kernel, rfl, by decide +kernel, by decide +kernel⟩
theorem ok__law_block {f : Addr} {fd : FuncData} (F : Fun K "_law_block" "_law_block" s__law_block f fd) (T : Txt K mg w) {j : Nat} {c : Nat → List Dv → M Dv} (C : Tab P w K mg base j c) : FnOk P w K mg base (L2.CX P w) (j + 2) f fd ["_law_draw", "_law_ahead", "_law_depth", "_law_name"] (spOf ⟨K, mg⟩ 4 (defM true 6 (m__law_block c))) :=
  fn_ok (k := j + 1) F sc__law_block fun cdv A outer s H E hr ct hp => have hc : Room j _ := hr.mono (Nat.le_succ j)
    dss_cons (ds_set ct rfl (by first | exact Or.inl rfl | exact Or.inr rfl) (de_call ct C._law_next hc (da_cons (dv 0) (da_cons (de_int) da_nil))))
    (dss_cons (ds_if (dt_cmp (od_ne ct) (dv 3) (de_str) (nomark _)) (dss_cons (ds_set ct rfl (by first | exact Or.inl rfl | exact Or.inr rfl) (de_call ct C._law_number hc (da_cons (dv 0) (da_cons (dv 3) da_nil))))
    (dss_one (ds_ret (de_op od_add (de_lst (da_cons (dv 5) da_nil)) (de_call ct C._law_items hc (da_cons (dv 0) (da_cons (de_op od_add (dv 1) (de_lst (da_cons (dv 5) da_nil))) (da_cons (dv 2) (da_cons (dv 4) da_nil))))))))) (dss_nil))
    (dss_one (ds_ret (de_call ct C._law_items hc (da_cons (dv 0) (da_cons (dv 1) (da_cons (dv 2) (da_cons (dv 4) da_nil))))))))
theorem sc__law_nested : FnScope ["_law_draw", "_law_ahead", "_law_depth", "_law_kind", "_law_name", "_law_first", "_law_firsts", "_law_k", "_law_choices", "_law_step", "_law_cases"] ["_law_draw", "_law_ahead", "_law_depth", "_law_kind"] (defScope s__law_nested) := ⟨rfl, rfl, rfl, by decide +kernel, rfl, by decide +kernel, by decide +kernel⟩
theorem ok__law_nested {f : Addr} {fd : FuncData} (F : Fun K "_law_nested" "_law_nested" s__law_nested f fd) (T : Txt K mg w) {j : Nat} {c : Nat → List Dv → M Dv} (C : Tab P w K mg base j c) : FnOk P w K mg base (L2.CX P w) (j + 2) f fd ["_law_draw", "_law_ahead", "_law_depth", "_law_kind"] (spOf ⟨K, mg⟩ 4 (defM true 11 (m__law_nested c))) :=
  fn_ok (k := j + 1) F sc__law_nested fun cdv A outer s H E hr ct hp => have hc : Room j _ := hr.mono (Nat.le_succ j)
    dss_cons (ds_set ct rfl (by first | exact Or.inl rfl | exact Or.inr rfl) (de_bm PySem.F.plainAttrs_list PySem.F.slot_list_pop PySem.F.type_list_pop md_popAt (de_ix id_seq (dv 0) (de_int)) (da_cons (de_int) da_nil)))
    (dss_cons (ds_if (dt_cmp (od_eq ct) (dv 3) (de_int) (nomark _)) (dss_cons (ds_set ct rfl (by first | exact Or.inl rfl | exact Or.inr rfl) (de_bm PySem.F.plainAttrs_list PySem.F.slot_list_pop PySem.F.type_list_pop md_popAt (de_ix id_seq (dv 0) (de_int)) (da_cons (de_int) da_nil)))
    (dss_one (ds_ret (de_tup (da_cons (de_str) (da_cons (dv 4) (da_cons (de_call ct C._law_use hc (da_cons (dv 0) (da_cons (dv 1) (da_cons (de_int) da_nil)))) (da_cons (de_call ct C._law_block hc (da_cons (dv 0) (da_cons (dv 1) (da_cons (de_op od_add (dv 2) (de_int)) (da_cons (dv 5) da_nil))))) da_nil)))))))) (dss_nil))
    (dss_cons (ds_if (dt_w (dw_or (dt_cmp (od_eq ct) (dv 3) (de_int) (nomark _)) (dw_or1 (dt_cmp (od_eq ct) (de_callB cd_len T.n_len (by decide +kernel) (da_cons (dv 1) da_nil)) (de_int) (nomark _))))) (dss_cons (ds_setLc (own := [("_law_k", 7)]) ct rfl rfl (sw_true rfl rfl rfl (by decide +kernel)) (di_range1 T.n_range (da_cons (de_op od_add (de_int) (de_call ct C._law_next hc (da_cons (dv 0) (da_cons (de_int) da_nil)))) da_nil)) (blk_of (fun s1 H1 C1 l1 p1 => (dg_name (ct.blk s1 H1 _ _ p1).nd rfl (by first | exact Or.inl rfl | exact Or.inr rfl))) (fun s1 H1 C1 l1 p1 => dts_nil) (fun s1 H1 C1 l1 p1 => (de_bm PySem.F.plainAttrs_list PySem.F.slot_list_pop PySem.F.type_list_pop md_popAt (de_ix id_seq (dv 0) (de_int)) (da_cons (de_int) da_nil)))) (by show blkC ["_law_draw", "_law_ahead", "_law_depth", "_law_kind", "_law_name", "_law_first", "_law_firsts", "_law_k", "_law_choices", "_law_step", "_law_cases"] (defScope s__law_nested) _ [("_law_k", 7)] = true; decide +kernel))
    (dss_cons (ds_set ct rfl (by first | exact Or.inl rfl | exact Or.inr rfl) (de_lstC (da_cons (de_call ct C._law_block hc (da_cons (dv 0) (da_cons (dv 1) (da_cons (de_op od_add (dv 2) (de_int)) (da_cons (de_str) da_nil))))) da_nil)))
    (dss_cons (ds_for ct hp (di_val (dv 6)) (dg_name ct.nd rfl (by first | exact Or.inl rfl | exact Or.inr rfl)) (dss_one (ds_expr (de_bm PySem.F.plainAttrs_list PySem.F.slot_list_append PySem.F.type_list_append md_append (dv 8) (da_cons (de_call ct C._law_block hc (da_cons (dv 0) (da_cons (dv 1) (da_cons (de_op od_add (dv 2) (de_int)) (da_cons (dv 5) da_nil))))) da_nil)))))
    (dss_one (ds_ret (de_tup (da_cons (de_str) (da_cons (dv 4) (da_cons (dv 8) da_nil))))))))) (dss_nil))
    (dss_cons (ds_set ct rfl (by first | exact Or.inl rfl | exact Or.inr rfl) (de_call ct C._law_next hc (da_cons (dv 0) (da_cons (de_int) da_nil))))
    (dss_cons (ds_set ct rfl (by first | exact Or.inl rfl | exact Or.inr rfl) (de_op od_add (de_int) (de_op od_mul (de_int) (de_call ct C._law_next hc (da_cons (dv 0) (da_cons (de_int) da_nil))))))
    (dss_cons (ds_setLc (own := [("_law_k", 7)]) ct rfl rfl (sw_true rfl rfl rfl (by decide +kernel)) (di_range1 T.n_range (da_cons (de_op od_add (de_int) (de_call ct C._law_next hc (da_cons (dv 0) (da_cons (de_int) da_nil)))) da_nil)) (blk_of (fun s1 H1 C1 l1 p1 => (dg_name (ct.blk s1 H1 _ _ p1).nd rfl (by first | exact Or.inl rfl | exact Or.inr rfl))) (fun s1 H1 C1 l1 p1 => dts_nil) (fun s1 H1 C1 l1 p1 => (de_tup (da_cons (de_op od_add (dv 5) (de_op od_mul (de_int) (de_op od_mod (de_callTy cd_int T.n_int (by decide +kernel) (da_cons (de_op od_mul (dv 7) (dv 9)) da_nil)) (de_int)))) (da_cons (de_call (ct.blk s1 H1 _ _ p1) C._law_block hc (da_cons (dv 0) (da_cons (dv 1) (da_cons (de_op od_add (dv 2) (de_int)) (da_cons (de_str) da_nil))))) da_nil))))) (by show blkC ["_law_draw", "_law_ahead", "_law_depth", "_law_kind", "_law_name", "_law_first", "_law_firsts", "_law_k", "_law_choices", "_law_step", "_law_cases"] (defScope s__law_nested) _ [("_law_k", 7)] = true; decide +kernel))
    (dss_one (ds_ret (de_tup (da_cons (de_str) (da_cons (dv 4) (da_cons (de_ix id_seq (de_ix id_seq (dv 1) (de_call ct C._law_next hc (da_cons (dv 0) (da_cons (de_callB cd_len T.n_len (by decide +kernel) (da_cons (dv 1) da_nil)) da_nil)))) (de_int)) (da_cons (dv 10) da_nil))))))))))))
theorem sc__law_item : FnScope ["_law_draw", "_law_ahead", "_law_depth", "_law_kind"] ["_law_draw", "_law_ahead", "_law_depth"] (defScope s__law_item) := ⟨rfl, rfl, rfl, by decide +kernel, rfl, by decide +kernel, by decide +kernel⟩
theorem ok__law_item {f : Addr} {fd : FuncData} (F : Fun K "_law_item" "_law_item" s__law_item f fd) (T : Txt K mg w) {j : Nat} {c : Nat → List Dv → M Dv} (C : Tab P w K mg base j c) : FnOk P w K mg base (L2.CX P w) (j + 2) f fd ["_law_draw", "_law_ahead", "_law_depth"] (spOf ⟨K, mg⟩ 3 (defM true 4 (m__law_item c))) :=
  fn_ok (k := j + 1) F sc__law_item fun cdv A outer s H E hr ct hp => have hc : Room j _ := hr.mono (Nat.le_succ j)
    dss_cons (ds_set ct rfl (by first | exact Or.inl rfl | exact Or.inr rfl) (de_call ct C._law_next hc (da_cons (dv 0) (da_cons (de_int) da_nil))))
    (dss_cons (ds_if (dt_w (dw_or (dt_cmp od_lt (dv 3) (de_int) (nomark _)) (dw_or1 (dt_w (dw_and (dt_cmp (od_eq ct) (dv 3) (de_int) (nomark _)) (dw_and1 (dt_cmp od_gt (de_callB cd_len T.n_len (by decide +kernel) (da_cons (de_ix id_seq (dv 0) (de_int)) da_nil)) (de_int) (nomark _)))))))) (dss_one (ds_ret (de_call ct C._law_number hc (da_cons (dv 0) (da_cons (de_bm PySem.F.plainAttrs_list PySem.F.slot_list_pop PySem.F.type_list_pop md_popAt (de_ix id_seq (dv 0) (de_int)) (da_cons (de_int) da_nil)) da_nil))))) (dss_nil))
    (dss_cons (ds_if (dt_cmp (od_eq ct) (dv 3) (de_int) (nomark _)) (dss_one (ds_ret (de_tup (da_cons (de_str) (da_cons (de_bm PySem.F.plainAttrs_list PySem.F.slot_list_pop PySem.F.type_list_pop md_popAt (de_ix id_seq (dv 0) (de_int)) (da_cons (de_int) da_nil)) (da_cons (de_call ct C._law_use hc (da_cons (dv 0) (da_cons (dv 1) (da_cons (de_int) da_nil)))) da_nil)))))) (dss_nil))
    (dss_cons (ds_if (dt_cmp (od_eq ct) (dv 3) (de_int) (nomark _)) (dss_one (ds_ret (de_tup (da_cons (de_str) (da_cons (de_bm PySem.F.plainAttrs_list PySem.F.slot_list_pop PySem.F.type_list_pop md_popAt (de_ix id_seq (dv 0) (de_int)) (da_cons (de_int) da_nil)) (da_cons (de_ix id_seq (de_lst (da_cons (de_int) (da_cons (de_int) (da_cons (de_int) da_nil)))) (de_call ct C._law_next hc (da_cons (dv 0) (da_cons (de_int) da_nil)))) (da_cons (de_ix id_seq (de_lst (da_cons (de_int) (da_cons (de_int) (da_cons (de_call ct C._law_next hc (da_cons (dv 0) (da_cons (de_int) da_nil))) da_nil)))) (de_call ct C._law_next hc (da_cons (dv 0) (da_cons (de_int) da_nil)))) da_nil))))))) (dss_nil))
    (dss_cons (ds_if (dt_cmp (od_eq ct) (dv 3) (de_int) (nomark _)) (dss_cons (ds_expr (de_bm PySem.F.plainAttrs_list PySem.F.slot_list_append PySem.F.type_list_append md_append (de_ix id_seq (dv 0) (de_int)) (da_cons (de_int) da_nil)))
    (dss_one (ds_ret (de_tup (da_cons (de_str) (da_cons (de_bm PySem.F.plainAttrs_list PySem.F.slot_list_pop PySem.F.type_list_pop md_popAt (de_ix id_seq (dv 0) (de_int)) (da_cons (de_int) da_nil)) (da_cons (de_ix id_seq (de_lst (da_cons (de_int) (da_cons (de_int) (da_cons (de_op od_add (de_int) (de_call ct C._law_next hc (da_cons (dv 0) (da_cons (de_int) da_nil)))) da_nil)))) (de_call ct C._law_next hc (da_cons (dv 0) (da_cons (de_int) da_nil)))) da_nil))))))) (dss_nil))
    (dss_cons (ds_if (dt_cmp (od_eq ct) (dv 3) (de_int) (nomark _)) (dss_one (ds_ret (de_tup (da_cons (de_str) (da_cons (de_bm PySem.F.plainAttrs_list PySem.F.slot_list_pop PySem.F.type_list_pop md_popAt (de_ix id_seq (dv 0) (de_int)) (da_cons (de_int) da_nil)) (da_cons (de_ix id_seq (de_lst (da_cons (de_int) (da_cons (de_int) (da_cons (de_int) (da_cons (de_int) (da_cons (de_int) da_nil)))))) (de_call ct C._law_next hc (da_cons (dv 0) (da_cons (de_int) da_nil)))) (da_cons (de_ix id_seq (de_lst (da_cons (de_int) (da_cons (de_int) (da_cons (de_call ct C._law_next hc (da_cons (dv 0) (da_cons (de_int) da_nil))) da_nil)))) (de_call ct C._law_next hc (da_cons (dv 0) (da_cons (de_int) da_nil)))) da_nil))))))) (dss_nil))
    (dss_cons (ds_if (dt_w (dw_or (dt_cmp (od_eq ct) (dv 2) (de_int) (nomark _)) (dw_or1 (dt_cmp od_lt (de_callB cd_len T.n_len (by decide +kernel) (da_cons (de_ix id_seq (dv 0) (de_int)) da_nil)) (de_int) (nomark _))))) (dss_one (ds_ret (de_call ct C._law_number hc (da_cons (dv 0) (da_cons (de_bm PySem.F.plainAttrs_list PySem.F.slot_list_pop PySem.F.type_list_pop md_popAt (de_ix id_seq (dv 0) (de_int)) (da_cons (de_int) da_nil)) da_nil))))) (dss_nil))
    (dss_one (ds_ret (de_call ct C._law_nested hc (da_cons (dv 0) (da_cons (dv 1) (da_cons (dv 2) (da_cons (dv 3) da_nil)))))))))))))
theorem sc__law_items : FnScope ["_law_draw", "_law_ahead", "_law_depth", "_law_many", "_law_items_here", "_law_visible", "_law_k", "_law_item_here"] ["_law_draw", "_law_ahead", "_law_depth", "_law_many"] (defScope s__law_items) := ⟨rfl, rfl, rfl, by decide +kernel, rfl, by decide +kernel, by decide +kernel⟩
theorem ok__law_items {f : Addr} {fd : FuncData} (F : Fun K "_law_items" "_law_items" s__law_items f fd) (T : Txt K mg w) {j : Nat} {c : Nat → List Dv → M Dv} (C : Tab P w K mg base j c) : FnOk P w K mg base (L2.CX P w) (j + 2) f fd ["_law_draw", "_law_ahead", "_law_depth", "_law_many"] (spOf ⟨K, mg⟩ 4 (defM true 8 (m__law_items c))) :=
  fn_ok (k := j + 1) F sc__law_items fun cdv A outer s H E hr ct hp => have hc : Room j _ := hr.mono (Nat.le_succ j)
    dss_cons (ds_set ct rfl (by first | exact Or.inl rfl | exact Or.inr rfl) (de_lstC da_nil))
    (dss_cons (ds_set ct rfl (by first | exact Or.inl rfl | exact Or.inr rfl) (de_callTy cd_listC T.n_list (by decide +kernel) (da_cons (dv 1) da_nil)))
    (dss_cons (ds_for ct hp (di_range1 T.n_range (da_cons (dv 3) da_nil)) (dg_name ct.nd rfl (by first | exact Or.inl rfl | exact Or.inr rfl)) (dss_one (ds_if (dt_cmp od_gt (de_callB cd_len T.n_len (by decide +kernel) (da_cons (de_ix id_seq (dv 0) (de_int)) da_nil)) (de_int) (nomark _)) (dss_cons (ds_set ct rfl (by first | exact Or.inl rfl | exact Or.inr rfl) (de_call ct C._law_item hc (da_cons (dv 0) (da_cons (dv 5) (da_cons (dv 2) da_nil)))))
    (dss_cons (ds_expr (de_bm PySem.F.plainAttrs_list PySem.F.slot_list_append PySem.F.type_list_append md_append (dv 4) (da_cons (dv 7) da_nil)))
    (dss_one (ds_if (dt_cmp (od_eq ct) (de_ix id_seq (dv 7) (de_int)) (de_str) (nomark _)) (dss_one (ds_expr (de_bm PySem.F.plainAttrs_list PySem.F.slot_list_append PySem.F.type_list_append md_append (dv 5) (da_cons (dv 7) da_nil)))) (dss_nil))))) (dss_nil))))
    (dss_one (ds_ret (dv 4)))))
theorem sc_format_items : FnScope ["items", "lines", "item", "block", "value", "part"] ["items"] (defScope s_format_items) := ⟨rfl, rfl, rfl, by decide +kernel, rfl, by decide +kernel, by decide +kernel⟩
theorem ok_format_items {f : Addr} {fd : FuncData} (F : Fun K "format_items" "format_items" s_format_items f fd) (T : Txt K mg w) {j : Nat} {c : Nat → List Dv → M Dv} (C : Tab P w K mg base j c) : FnOk P w K mg base (L2.CX P w) (j + 2) f fd ["items"] (spOf ⟨K, mg⟩ 1 (defM true 6 (m_format_items c))) :=
  fn_ok (k := j + 1) F sc_format_items fun cdv A outer s H E hr ct hp => have hc : Room j _ := hr.mono (Nat.le_succ j)
    dss_cons (ds_set ct rfl (by first | exact Or.inl rfl | exact Or.inr rfl) (de_lstC da_nil))
    (dss_cons (ds_for ct hp (di_val (dv 0)) (dg_name ct.nd rfl (by first | exact Or.inl rfl | exact Or.inr rfl)) (dss_cons (ds_if (dt_cmp (od_eq ct) (de_ix id_seq (dv 2) (de_int)) (de_str) (nomark _)) (dss_cons (ds_expr (de_bm PySem.F.plainAttrs_list PySem.F.slot_list_append PySem.F.type_list_append md_append (dv 1) (da_cons (de_joined (dj_cons (de_str) (dj_cons (de_fmt (de_ix id_seq (dv 2) (de_int))) (dj_cons (de_str) (dj_cons (de_fmt (de_ix id_seq (dv 2) (de_int))) dj_nil))))) da_nil)))
    (dss_one (ds_augL ct rfl (by first | exact Or.inl rfl | exact Or.inr rfl) (de_call ct C.format_items hc (da_cons (de_ix id_seq (dv 2) (de_int)) da_nil))))) (dss_one (ds_if (dt_cmp (od_eq ct) (de_ix id_seq (dv 2) (de_int)) (de_str) (nomark _)) (dss_cons (ds_expr (de_bm PySem.F.plainAttrs_list PySem.F.slot_list_append PySem.F.type_list_append md_append (dv 1) (da_cons (de_joined (dj_cons (de_str) (dj_cons (de_fmt (de_ix id_seq (dv 2) (de_int))) dj_nil))) da_nil)))
    (dss_one (ds_for ct hp (di_val (de_ix id_seq (dv 2) (de_int))) (dg_name ct.nd rfl (by first | exact Or.inl rfl | exact Or.inr rfl)) (dss_one (ds_augL ct rfl (by first | exact Or.inl rfl | exact Or.inr rfl) (de_op od_add (de_lst (da_cons (de_str) da_nil)) (de_call ct C.format_items hc (da_cons (dv 3) da_nil)))))))) (dss_one (ds_if (dt_cmp (od_eq ct) (de_ix id_seq (dv 2) (de_int)) (de_str) (nomark _)) (dss_cons (ds_expr (de_bm PySem.F.plainAttrs_list PySem.F.slot_list_append PySem.F.type_list_append md_append (dv 1) (da_cons (de_joined (dj_cons (de_str) (dj_cons (de_fmt (de_ix id_seq (dv 2) (de_int))) (dj_cons (de_str) (dj_cons (de_fmt (de_ix id_seq (dv 2) (de_int))) dj_nil))))) da_nil)))
    (dss_one (ds_for ct hp (di_val (de_ix id_seq (dv 2) (de_int))) (dg_tup ct.calm (dgs_cons (dg_name ct.nd rfl (by first | exact Or.inl rfl | exact Or.inr rfl)) (dgs_cons (dg_name ct.nd rfl (by first | exact Or.inl rfl | exact Or.inr rfl)) dgs_nil))) (dss_one (ds_augL ct rfl (by first | exact Or.inl rfl | exact Or.inr rfl) (de_op od_add (de_lst (da_cons (de_joined (dj_cons (de_str) (dj_cons (de_fmt (dv 4)) dj_nil))) da_nil)) (de_call ct C.format_items hc (da_cons (dv 3) da_nil)))))))) (dss_one (ds_expr (de_bm PySem.F.plainAttrs_list PySem.F.slot_list_append PySem.F.type_list_append md_append (dv 1) (da_cons (de_bm PySem.F.plainAttrs_str PySem.F.slot_str_join PySem.F.type_str_join md_join (de_str) (da_cons (de_lc (own := [("part", 5)]) ct (di_val (dv 2)) (blk_of (fun s1 H1 C1 l1 p1 => (dg_name (ct.blk s1 H1 _ _ p1).nd rfl (by first | exact Or.inl rfl | exact Or.inr rfl))) (fun s1 H1 C1 l1 p1 => dts_nil) (fun s1 H1 C1 l1 p1 => (de_callTy cd_str2 T.n_str (by decide +kernel) (da_cons (dv 5) da_nil)))) (by show blkC ["items", "lines", "item", "block", "value", "part"] (defScope s_format_items) _ [("part", 5)] = true; decide +kernel)) da_nil)) da_nil)))))))))
    (dss_one (ds_if (dt_cmp od_in (de_ix id_seq (dv 2) (de_int)) (de_tup (da_cons (de_str) (da_cons (de_str) (da_cons (de_str) da_nil)))) (by rfl)) (dss_one (ds_expr (de_bm PySem.F.plainAttrs_list PySem.F.slot_list_append PySem.F.type_list_append md_append (dv 1) (da_cons (de_str) da_nil)))) (dss_nil)))))
    (dss_one (ds_ret (dv 1))))
theorem sc_format_shape : FnScope ["shape"] ["shape"] (defScope s_format_shape) := ⟨rfl, rfl, rfl, by decide +kernel, rfl, by decide +kernel, by decide +kernel⟩
theorem ok_format_shape {f : Addr} {fd : FuncData} (F : Fun K "format_shape" "format_shape" s_format_shape f fd) (T : Txt K mg w) {j : Nat} {c : Nat → List Dv → M Dv} (C : Tab P w K mg base j c) : FnOk P w K mg base (L2.CX P w) (j + 2) f fd ["shape"] (spOf ⟨K, mg⟩ 1 (defM true 1 (m_format_shape c))) :=
  fn_ok (k := j + 1) F sc_format_shape fun cdv A outer s H E hr ct hp => have hc : Room j _ := hr.mono (Nat.le_succ j)
    dss_one (ds_ret (de_bm PySem.F.plainAttrs_str PySem.F.slot_str_join PySem.F.type_str_join md_join (de_str) (da_cons (de_call ct C.format_items hc (da_cons (de_fld T.f_parts (dv 0)) da_nil)) da_nil)))
theorem sc__law_lines : FnScope ["_law_items_here", "_law_lines_here", "_law_item_here", "_law_words", "_law_block_here", "_law_case", "_law_part"] ["_law_items_here"] (defScope s__law_lines) := ⟨rfl, rfl, rfl, by decide +kernel, rfl, by decide +kernel, by decide +kernel⟩
theorem ok__law_lines {f : Addr} {fd : FuncData} (F : Fun K "_law_lines" "_law_lines" s__law_lines f fd) (T : Txt K mg w) {j : Nat} {c : Nat → List Dv → M Dv} (C : Tab P w K mg base j c) : FnOk P w K mg base (L2.CX P w) (j + 2) f fd ["_law_items_here"] (spOf ⟨K, mg⟩ 1 (defM true 7 (m__law_lines c))) :=
  fn_ok (k := j + 1) F sc__law_lines fun cdv A outer s H E hr ct hp => have hc : Room j _ := hr.mono (Nat.le_succ j)
    dss_cons (ds_set ct rfl (by first | exact Or.inl rfl | exact Or.inr rfl) (de_lstC da_nil))
    (dss_cons (ds_for ct hp (di_val (dv 0)) (dg_name ct.nd rfl (by first | exact Or.inl rfl | exact Or.inr rfl)) (dss_cons (ds_set ct rfl (by first | exact Or.inl rfl | exact Or.inr rfl) (de_op od_add (de_op od_add (de_ix id_seq (dv 2) (de_int)) (de_str)) (de_ix id_seq (dv 2) (de_int))))
    (dss_one (ds_if (dt_cmp (od_eq ct) (de_ix id_seq (dv 2) (de_int)) (de_str) (nomark _)) (dss_one (ds_set ct rfl (by first | exact Or.inl rfl | exact Or.inr rfl) (de_addC (de_op od_add (de_op od_add (dv 1) (de_lst (da_cons (de_op od_add (de_op od_add (dv 3) (de_str)) (de_callTy cd_str2 T.n_str (by decide +kernel) (da_cons (de_ix id_seq (dv 2) (de_int)) da_nil))) da_nil))) (de_call ct C._law_lines hc (da_cons (de_ix id_seq (dv 2) (de_int)) da_nil))) (de_lst (da_cons (de_str) da_nil))))) (dss_one (ds_if (dt_cmp (od_eq ct) (de_ix id_seq (dv 2) (de_int)) (de_str) (nomark _)) (dss_cons (ds_expr (de_bm PySem.F.plainAttrs_list PySem.F.slot_list_append PySem.F.type_list_append md_append (dv 1) (da_cons (dv 3) da_nil)))
    (dss_cons (ds_for ct hp (di_val (de_ix id_seq (dv 2) (de_int))) (dg_name ct.nd rfl (by first | exact Or.inl rfl | exact Or.inr rfl)) (dss_one (ds_set ct rfl (by first | exact Or.inl rfl | exact Or.inr rfl) (de_addC (de_op od_add (dv 1) (de_lst (da_cons (de_str) da_nil))) (de_call ct C._law_lines hc (da_cons (dv 4) da_nil))))))
    (dss_one (ds_expr (de_bm PySem.F.plainAttrs_list PySem.F.slot_list_append PySem.F.type_list_append md_append (dv 1) (da_cons (de_str) da_nil)))))) (dss_one (ds_if (dt_cmp (od_eq ct) (de_ix id_seq (dv 2) (de_int)) (de_str) (nomark _)) (dss_cons (ds_expr (de_bm PySem.F.plainAttrs_list PySem.F.slot_list_append PySem.F.type_list_append md_append (dv 1) (da_cons (de_op od_add (de_op od_add (dv 3) (de_str)) (de_ix id_seq (dv 2) (de_int))) da_nil)))
    (dss_cons (ds_for ct hp (di_val (de_ix id_seq (dv 2) (de_int))) (dg_name ct.nd rfl (by first | exact Or.inl rfl | exact Or.inr rfl)) (dss_one (ds_set ct rfl (by first | exact Or.inl rfl | exact Or.inr rfl) (de_addC (de_op od_add (dv 1) (de_lst (da_cons (de_op od_add (de_str) (de_callTy cd_str2 T.n_str (by decide +kernel) (da_cons (de_ix id_seq (dv 5) (de_int)) da_nil))) da_nil))) (de_call ct C._law_lines hc (da_cons (de_ix id_seq (dv 5) (de_int)) da_nil))))))
    (dss_one (ds_expr (de_bm PySem.F.plainAttrs_list PySem.F.slot_list_append PySem.F.type_list_append md_append (dv 1) (da_cons (de_str) da_nil)))))) (dss_cons (ds_for ct hp (di_val (de_slice sd_sl (dv 2) (do_some (de_int)) do_none)) (dg_name ct.nd rfl (by first | exact Or.inl rfl | exact Or.inr rfl)) (dss_one (ds_set ct rfl (by first | exact Or.inl rfl | exact Or.inr rfl) (de_op od_add (de_op od_add (dv 3) (de_str)) (de_callTy cd_str2 T.n_str (by decide +kernel) (da_cons (dv 6) da_nil))))))
    (dss_one (ds_expr (de_bm PySem.F.plainAttrs_list PySem.F.slot_list_append PySem.F.type_list_append md_append (dv 1) (da_cons (dv 3) da_nil)))))))))))))
    (dss_one (ds_ret (dv 1))))
theorem sc__law_frozen : FnScope ["_law_items_here", "_law_found", "_law_item_here", "_law_block_here", "_law_case"] ["_law_items_here"] (defScope s__law_frozen) := ⟨rfl, rfl, rfl, by decide +kernel, rfl, by decide +kernel, by decide +kernel⟩
theorem ok__law_frozen {f : Addr} {fd : FuncData} (F : Fun K "_law_frozen" "_law_frozen" s__law_frozen f fd) (T : Txt K mg w) {j : Nat} {c : Nat → List Dv → M Dv} (C : Tab P w K mg base j c) : FnOk P w K mg base (L2.CX P w) (j + 2) f fd ["_law_items_here"] (spOf ⟨K, mg⟩ 1 (defM true 5 (m__law_frozen c))) :=
  fn_ok (k := j + 1) F sc__law_frozen fun cdv A outer s H E hr ct hp => have hc : Room j _ := hr.mono (Nat.le_succ j)
    dss_cons (ds_set ct rfl (by first | exact Or.inl rfl | exact Or.inr rfl) (de_lstC da_nil))
    (dss_cons (ds_for ct hp (di_val (dv 0)) (dg_name ct.nd rfl (by first | exact Or.inl rfl | exact Or.inr rfl)) (dss_one (ds_if (dt_cmp (od_eq ct) (de_ix id_seq (dv 2) (de_int)) (de_str) (nomark _)) (dss_one (ds_expr (de_bm PySem.F.plainAttrs_list PySem.F.slot_list_append PySem.F.type_list_append md_append (dv 1) (da_cons (de_tup (da_cons (de_ix id_seq (dv 2) (de_int)) (da_cons (de_ix id_seq (dv 2) (de_int)) (da_cons (de_ix id_seq (dv 2) (de_int)) (da_cons (de_call ct C._law_frozen hc (da_cons (de_ix id_seq (dv 2) (de_int)) da_nil)) da_nil))))) da_nil)))) (dss_one (ds_if (dt_cmp (od_eq ct) (de_ix id_seq (dv 2) (de_int)) (de_str) (nomark _)) (dss_one (ds_expr (de_bm PySem.F.plainAttrs_list PySem.F.slot_list_append PySem.F.type_list_append md_append (dv 1) (da_cons (de_tup (da_cons (de_ix id_seq (dv 2) (de_int)) (da_cons (de_ix id_seq (dv 2) (de_int)) (da_cons (de_callTy cd_tuple T.n_tuple (by decide +kernel) (da_cons (de_lc (own := [("_law_block_here", 3)]) ct (di_val (de_ix id_seq (dv 2) (de_int))) (blk_of (fun s1 H1 C1 l1 p1 => (dg_name (ct.blk s1 H1 _ _ p1).nd rfl (by first | exact Or.inl rfl | exact Or.inr rfl))) (fun s1 H1 C1 l1 p1 => dts_nil) (fun s1 H1 C1 l1 p1 => (de_call (ct.blk s1 H1 _ _ p1) C._law_frozen hc (da_cons (dv 3) da_nil)))) (by show blkC ["_law_items_here", "_law_found", "_law_item_here", "_law_block_here", "_law_case"] (defScope s__law_frozen) _ [("_law_block_here", 3)] = true; decide +kernel)) da_nil)) da_nil)))) da_nil)))) (dss_one (ds_if (dt_cmp (od_eq ct) (de_ix id_seq (dv 2) (de_int)) (de_str) (nomark _)) (dss_one (ds_expr (de_bm PySem.F.plainAttrs_list PySem.F.slot_list_append PySem.F.type_list_append md_append (dv 1) (da_cons (de_tup (da_cons (de_ix id_seq (dv 2) (de_int)) (da_cons (de_ix id_seq (dv 2) (de_int)) (da_cons (de_ix id_seq (dv 2) (de_int)) (da_cons (de_callTy cd_tuple T.n_tuple (by decide +kernel) (da_cons (de_lc (own := [("_law_case", 4)]) ct (di_val (de_ix id_seq (dv 2) (de_int))) (blk_of (fun s1 H1 C1 l1 p1 => (dg_name (ct.blk s1 H1 _ _ p1).nd rfl (by first | exact Or.inl rfl | exact Or.inr rfl))) (fun s1 H1 C1 l1 p1 => dts_nil) (fun s1 H1 C1 l1 p1 => (de_tup (da_cons (de_ix id_seq (dv 4) (de_int)) (da_cons (de_call (ct.blk s1 H1 _ _ p1) C._law_frozen hc (da_cons (de_ix id_seq (dv 4) (de_int)) da_nil)) da_nil))))) (by show blkC ["_law_items_here", "_law_found", "_law_item_here", "_law_block_here", "_law_case"] (defScope s__law_frozen) _ [("_law_case", 4)] = true; decide +kernel)) da_nil)) da_nil))))) da_nil)))) (dss_one (ds_expr (de_bm PySem.F.plainAttrs_list PySem.F.slot_list_append PySem.F.type_list_append md_append (dv 1) (da_cons (dv 2) da_nil)))))))))))
    (dss_one (ds_ret (de_callTy cd_tuple T.n_tuple (by decide +kernel) (da_cons (dv 1) da_nil)))))
theorem sc_law : FnScope ["_law_script", "_law_numbers_here", "_law_draw", "_law_items_here", "_law_due", "_law_shape", "_law_actual"] ["_law_script"] (defScope s_law) := ⟨rfl, rfl, rfl, by decide +kernel, rfl, by decide +kernel, by decide +kernel⟩
theorem ok_law {f : Addr} {fd : FuncData} (F : Fun K "law" "law" s_law f fd) (T : Txt K mg w) {j : Nat} {c : Nat → List Dv → M Dv} (C : Tab P w K mg base j c) : FnOk P w K mg base (L2.CX P w) (j + 2) f fd ["_law_script"] (spOf ⟨K, mg⟩ 1 (defM true 7 (m_law c))) :=
  fn_ok (k := j + 1) F sc_law fun cdv A outer s H E hr ct hp => have hc : Room j _ := hr.mono (Nat.le_succ j)
    dss_cons (ds_set ct rfl (by first | exact Or.inl rfl | exact Or.inr rfl) (de_call ct C._law_numbers hc (da_cons (dv 0) (da_cons (de_int) da_nil))))
    (dss_cons (ds_set ct rfl (by first | exact Or.inl rfl | exact Or.inr rfl) (de_call ct C._law_begin hc (da_cons (dv 1) da_nil)))
    (dss_cons (ds_set ct rfl (by first | exact Or.inl rfl | exact Or.inr rfl) (de_call ct C._law_items hc (da_cons (dv 2) (da_cons (de_lst da_nil) (da_cons (de_int) (da_cons (de_op od_add (de_int) (de_op od_mod (de_callTy cd_int T.n_int (by decide +kernel) (da_cons (de_ix id_seq (dv 1) (de_int)) da_nil)) (de_int))) da_nil))))))
    (dss_cons (ds_set ct rfl (by first | exact Or.inl rfl | exact Or.inr rfl) (de_bm PySem.F.plainAttrs_str PySem.F.slot_str_join PySem.F.type_str_join md_join (de_str) (da_cons (de_call ct C._law_lines hc (da_cons (dv 3) da_nil)) da_nil)))
    (dss_cons (ds_set ct rfl (by first | exact Or.inl rfl | exact Or.inr rfl) (de_make ct C.mk_Shape hr (da_cons (dv 3) da_nil)))
    (dss_cons (ds_set ct rfl (by first | exact Or.inl rfl | exact Or.inr rfl) (de_call ct C.format_shape hc (da_cons (dv 5) da_nil)))
    (dss_cons (ds_if (dt_w (dw_or (dt_not (dt_truth (de_callB cd_isi T.n_isinstance (by decide +kernel) (da_cons (dv 6) (da_cons (de_ty T.n_str (by decide +kernel)) da_nil))))) (dw_or1 (dt_cmp (od_ne ct) (dv 6) (dv 4) (nomark _))))) (dss_one (ds_ret (de_bl))) (dss_nil))
    (dss_cons (ds_if (dt_cmp (od_ne ct) (de_call ct C.format_shape hc (da_cons (de_make ct C.mk_Shape hr (da_cons (de_slice sd_sl (dv 3) do_none (do_some (de_int))) da_nil)) da_nil)) (de_bm PySem.F.plainAttrs_str PySem.F.slot_str_join PySem.F.type_str_join md_join (de_str) (da_cons (de_call ct C._law_lines hc (da_cons (de_slice sd_sl (dv 3) do_none (do_some (de_int))) da_nil)) da_nil)) (nomark _)) (dss_one (ds_ret (de_bl))) (dss_nil))
    (dss_one (ds_ret ((de_and (de_cmp (od_eq ct) (de_call ct C.format_shape hc (da_cons (dv 5) da_nil)) (dv 4) (nomark _)) (de_one (de_cmp (od_eq ct) (de_fld T.f_parts (dv 5)) (de_call ct C._law_frozen hc (da_cons (dv 3) da_nil)) (nomark _))))))))))))))
structure Defs (K : PySem.W.Frag) (mg : Str → Option Value) : Prop where
  d_ShapeCheck____init__ : ∃ C f fd, mg "ShapeCheck" = some (.ref C) ∧ Mk K C f ∧ Fun K "__init__" "ShapeCheck.__init__" s_ShapeCheck____init__ f fd
  d_ShapeCheck__require : ∃ C f fd, mg "ShapeCheck" = some (.ref C) ∧ Cls K C ∧ Meth K C "require" f ∧ Fun K "require" "ShapeCheck.require" s_ShapeCheck__require f fd
  d_is_byte : ∃ f fd, mg "is_byte" = some (.ref f) ∧ Fun K "is_byte" "is_byte" s_is_byte f fd
  d_ShapeCheck__check_plain : ∃ C f fd, mg "ShapeCheck" = some (.ref C) ∧ Cls K C ∧ Meth K C "check_plain" f ∧ Fun K "check_plain" "ShapeCheck.check_plain" s_ShapeCheck__check_plain f fd
  d_bounds : ∃ f fd, mg "bounds" = some (.ref f) ∧ Fun K "bounds" "bounds" s_bounds f fd
  d_ShapeCheck__check_uses : ∃ C f fd, mg "ShapeCheck" = some (.ref C) ∧ Cls K C ∧ Meth K C "check_uses" f ∧ Fun K "check_uses" "ShapeCheck.check_uses" s_ShapeCheck__check_uses f fd
  d_blocks_of : ∃ f fd, mg "blocks_of" = some (.ref f) ∧ Fun K "blocks_of" "blocks_of" s_blocks_of f fd
  d_least_of : ∃ f fd, mg "least_of" = some (.ref f) ∧ Fun K "least_of" "least_of" s_least_of f fd
  d_least_of_items : ∃ f fd, mg "least_of_items" = some (.ref f) ∧ Fun K "least_of_items" "least_of_items" s_least_of_items f fd
  d_ShapeCheck__check_lengths : ∃ C f fd, mg "ShapeCheck" = some (.ref C) ∧ Cls K C ∧ Meth K C "check_lengths" f ∧ Fun K "check_lengths" "ShapeCheck.check_lengths" s_ShapeCheck__check_lengths f fd
  d_is_name : ∃ f fd, mg "is_name" = some (.ref f) ∧ Fun K "is_name" "is_name" s_is_name f fd
  d_ShapeCheck__check_items : ∃ C f fd, mg "ShapeCheck" = some (.ref C) ∧ Cls K C ∧ Meth K C "check_items" f ∧ Fun K "check_items" "ShapeCheck.check_items" s_ShapeCheck__check_items f fd
  d_copied : ∃ f fd, mg "copied" = some (.ref f) ∧ Fun K "copied" "copied" s_copied f fd
  d_copied_items : ∃ f fd, mg "copied_items" = some (.ref f) ∧ Fun K "copied_items" "copied_items" s_copied_items f fd
  d_Shape____init__ : ∃ C f fd, mg "Shape" = some (.ref C) ∧ Mk K C f ∧ Fun K "__init__" "Shape.__init__" s_Shape____init__ f fd
  d__law_row : ∃ f fd, mg "_law_row" = some (.ref f) ∧ Fun K "_law_row" "_law_row" s__law_row f fd
  d__law_numbers : ∃ f fd, mg "_law_numbers" = some (.ref f) ∧ Fun K "_law_numbers" "_law_numbers" s__law_numbers f fd
  d__law_begin : ∃ f fd, mg "_law_begin" = some (.ref f) ∧ Fun K "_law_begin" "_law_begin" s__law_begin f fd
  d__law_next : ∃ f fd, mg "_law_next" = some (.ref f) ∧ Fun K "_law_next" "_law_next" s__law_next f fd
  d__law_use : ∃ f fd, mg "_law_use" = some (.ref f) ∧ Fun K "_law_use" "_law_use" s__law_use f fd
  d__law_number : ∃ f fd, mg "_law_number" = some (.ref f) ∧ Fun K "_law_number" "_law_number" s__law_number f fd
  d__law_block : ∃ f fd, mg "_law_block" = some (.ref f) ∧ Fun K "_law_block" "_law_block" s__law_block f fd
  d__law_nested : ∃ f fd, mg "_law_nested" = some (.ref f) ∧ Fun K "_law_nested" "_law_nested" s__law_nested f fd
  d__law_item : ∃ f fd, mg "_law_item" = some (.ref f) ∧ Fun K "_law_item" "_law_item" s__law_item f fd
  d__law_items : ∃ f fd, mg "_law_items" = some (.ref f) ∧ Fun K "_law_items" "_law_items" s__law_items f fd
  d_format_items : ∃ f fd, mg "format_items" = some (.ref f) ∧ Fun K "format_items" "format_items" s_format_items f fd
  d_format_shape : ∃ f fd, mg "format_shape" = some (.ref f) ∧ Fun K "format_shape" "format_shape" s_format_shape f fd
  d__law_lines : ∃ f fd, mg "_law_lines" = some (.ref f) ∧ Fun K "_law_lines" "_law_lines" s__law_lines f fd
  d__law_frozen : ∃ f fd, mg "_law_frozen" = some (.ref f) ∧ Fun K "_law_frozen" "_law_frozen" s__law_frozen f fd
  d_law : ∃ f fd, mg "law" = some (.ref f) ∧ Fun K "law" "law" s_law f fd
theorem b_ShapeCheck____init__ {f : Addr} {fd : FuncData} (F : Fun K "__init__" "ShapeCheck.__init__" s_ShapeCheck____init__ f fd) : Binds K fd ["self"] [] := F.binds fun _ _ _ _ _ _ us hl => match us, hl with | [_], _ => rfl
theorem b_ShapeCheck__require {f : Addr} {fd : FuncData} (F : Fun K "require" "ShapeCheck.require" s_ShapeCheck__require f fd) : Binds K fd ["self", "holds"] [] := F.binds fun _ _ _ _ _ _ us hl => match us, hl with | [_, _], _ => rfl
theorem b_is_byte {f : Addr} {fd : FuncData} (F : Fun K "is_byte" "is_byte" s_is_byte f fd) : Binds K fd ["number"] [] := F.binds fun _ _ _ _ _ _ us hl => match us, hl with | [_], _ => rfl
theorem b_ShapeCheck__check_plain {f : Addr} {fd : FuncData} (F : Fun K "check_plain" "ShapeCheck.check_plain" s_ShapeCheck__check_plain f fd) : Binds K fd ["self", "item"] [] := F.binds fun _ _ _ _ _ _ us hl => match us, hl with | [_, _], _ => rfl
theorem b_bounds {f : Addr} {fd : FuncData} (F : Fun K "bounds" "bounds" s_bounds f fd) : Binds K fd ["value", "numbers"] [] := F.binds fun _ _ _ _ _ _ us hl => match us, hl with | [_, _], _ => rfl
theorem b_ShapeCheck__check_uses {f : Addr} {fd : FuncData} (F : Fun K "check_uses" "ShapeCheck.check_uses" s_ShapeCheck__check_uses f fd) : Binds K fd ["self", "item", "visible"] [] := F.binds fun _ _ _ _ _ _ us hl => match us, hl with | [_, _, _], _ => rfl
theorem b_blocks_of {f : Addr} {fd : FuncData} (F : Fun K "blocks_of" "blocks_of" s_blocks_of f fd) : Binds K fd ["item"] [] := F.binds fun _ _ _ _ _ _ us hl => match us, hl with | [_], _ => rfl
theorem b_least_of {f : Addr} {fd : FuncData} (F : Fun K "least_of" "least_of" s_least_of f fd) : Binds K fd ["item", "numbers"] [] := F.binds fun _ _ _ _ _ _ us hl => match us, hl with | [_, _], _ => rfl
theorem b_least_of_items {f : Addr} {fd : FuncData} (F : Fun K "least_of_items" "least_of_items" s_least_of_items f fd) : Binds K fd ["items", "numbers"] [] := F.binds fun _ _ _ _ _ _ us hl => match us, hl with | [_, _], _ => rfl
theorem b_ShapeCheck__check_lengths {f : Addr} {fd : FuncData} (F : Fun K "check_lengths" "ShapeCheck.check_lengths" s_ShapeCheck__check_lengths f fd) : Binds K fd ["self", "item"] [] := F.binds fun _ _ _ _ _ _ us hl => match us, hl with | [_, _], _ => rfl
theorem b_is_name {f : Addr} {fd : FuncData} (F : Fun K "is_name" "is_name" s_is_name f fd) : Binds K fd ["text"] [] := F.binds fun _ _ _ _ _ _ us hl => match us, hl with | [_], _ => rfl
theorem b_ShapeCheck__check_items {f : Addr} {fd : FuncData} (F : Fun K "check_items" "ShapeCheck.check_items" s_ShapeCheck__check_items f fd) : Binds K fd ["self", "items", "visible", "depth"] [] := F.binds fun _ _ _ _ _ _ us hl => match us, hl with | [_, _, _, _], _ => rfl
theorem b_copied {f : Addr} {fd : FuncData} (F : Fun K "copied" "copied" s_copied f fd) : Binds K fd ["item"] [] := F.binds fun _ _ _ _ _ _ us hl => match us, hl with | [_], _ => rfl
theorem b_copied_items {f : Addr} {fd : FuncData} (F : Fun K "copied_items" "copied_items" s_copied_items f fd) : Binds K fd ["items"] [] := F.binds fun _ _ _ _ _ _ us hl => match us, hl with | [_], _ => rfl
theorem b_Shape____init__ {f : Addr} {fd : FuncData} (F : Fun K "__init__" "Shape.__init__" s_Shape____init__ f fd) : Binds K fd ["self", "items"] [] := F.binds fun _ _ _ _ _ _ us hl => match us, hl with | [_, _], _ => rfl
theorem b__law_row {f : Addr} {fd : FuncData} (F : Fun K "_law_row" "_law_row" s__law_row f fd) : Binds K fd ["_law_cell", "_law_many"] [] := F.binds fun _ _ _ _ _ _ us hl => match us, hl with | [_, _], _ => rfl
theorem b__law_numbers {f : Addr} {fd : FuncData} (F : Fun K "_law_numbers" "_law_numbers" s__law_numbers f fd) : Binds K fd ["_law_script", "_law_many"] [] := F.binds fun _ _ _ _ _ _ us hl => match us, hl with | [_, _], _ => rfl
theorem b__law_begin {f : Addr} {fd : FuncData} (F : Fun K "_law_begin" "_law_begin" s__law_begin f fd) : Binds K fd ["_law_numbers_here"] [] := F.binds fun _ _ _ _ _ _ us hl => match us, hl with | [_], _ => rfl
theorem b__law_next {f : Addr} {fd : FuncData} (F : Fun K "_law_next" "_law_next" s__law_next f fd) : Binds K fd ["_law_draw", "_law_many"] [] := F.binds fun _ _ _ _ _ _ us hl => match us, hl with | [_, _], _ => rfl
theorem b__law_use {f : Addr} {fd : FuncData} (F : Fun K "_law_use" "_law_use" s__law_use f fd) : Binds K fd ["_law_draw", "_law_ahead", "_law_most"] [] := F.binds fun _ _ _ _ _ _ us hl => match us, hl with | [_, _, _], _ => rfl
theorem b__law_number {f : Addr} {fd : FuncData} (F : Fun K "_law_number" "_law_number" s__law_number f fd) : Binds K fd ["_law_draw", "_law_name"] [] := F.binds fun _ _ _ _ _ _ us hl => match us, hl with | [_, _], _ => rfl
theorem b__law_block {f : Addr} {fd : FuncData} (F : Fun K "_law_block" "_law_block" s__law_block f fd) : Binds K fd ["_law_draw", "_law_ahead", "_law_depth", "_law_name"] [] := F.binds fun _ _ _ _ _ _ us hl => match us, hl with | [_, _, _, _], _ => rfl
theorem b__law_nested {f : Addr} {fd : FuncData} (F : Fun K "_law_nested" "_law_nested" s__law_nested f fd) : Binds K fd ["_law_draw", "_law_ahead", "_law_depth", "_law_kind"] [] := F.binds fun _ _ _ _ _ _ us hl => match us, hl with | [_, _, _, _], _ => rfl
theorem b__law_item {f : Addr} {fd : FuncData} (F : Fun K "_law_item" "_law_item" s__law_item f fd) : Binds K fd ["_law_draw", "_law_ahead", "_law_depth"] [] := F.binds fun _ _ _ _ _ _ us hl => match us, hl with | [_, _, _], _ => rfl
theorem b__law_items {f : Addr} {fd : FuncData} (F : Fun K "_law_items" "_law_items" s__law_items f fd) : Binds K fd ["_law_draw", "_law_ahead", "_law_depth", "_law_many"] [] := F.binds fun _ _ _ _ _ _ us hl => match us, hl with | [_, _, _, _], _ => rfl
theorem b_format_items {f : Addr} {fd : FuncData} (F : Fun K "format_items" "format_items" s_format_items f fd) : Binds K fd ["items"] [] := F.binds fun _ _ _ _ _ _ us hl => match us, hl with | [_], _ => rfl
theorem b_format_shape {f : Addr} {fd : FuncData} (F : Fun K "format_shape" "format_shape" s_format_shape f fd) : Binds K fd ["shape"] [] := F.binds fun _ _ _ _ _ _ us hl => match us, hl with | [_], _ => rfl
theorem b__law_lines {f : Addr} {fd : FuncData} (F : Fun K "_law_lines" "_law_lines" s__law_lines f fd) : Binds K fd ["_law_items_here"] [] := F.binds fun _ _ _ _ _ _ us hl => match us, hl with | [_], _ => rfl
theorem b__law_frozen {f : Addr} {fd : FuncData} (F : Fun K "_law_frozen" "_law_frozen" s__law_frozen f fd) : Binds K fd ["_law_items_here"] [] := F.binds fun _ _ _ _ _ _ us hl => match us, hl with | [_], _ => rfl
theorem b_law {f : Addr} {fd : FuncData} (F : Fun K "law" "law" s_law f fd) : Binds K fd ["_law_script"] [] := F.binds fun _ _ _ _ _ _ us hl => match us, hl with | [_], _ => rfl
theorem tab (D : Defs K mg) (T : Txt K mg w) : ∀ j : Nat, Tab P w K mg base (2 * j) (run j)
  | 0 => {
      mk_ShapeCheck := by obtain ⟨C, f, fd, h1, h2, F⟩ := D.d_ShapeCheck____init__; exact ⟨⟨C, f, fd, _, h1, h2, rfl, b_ShapeCheck____init__ F, fn_stuck⟩⟩
      ShapeCheck__require := by obtain ⟨C, f, fd, h1, h2, h3, F⟩ := D.d_ShapeCheck__require; exact ⟨⟨C, f, fd, _, h1, h2, h3, rfl, b_ShapeCheck__require F, fn_stuck⟩⟩
      is_byte := by obtain ⟨f, fd, h1, F⟩ := D.d_is_byte; exact ⟨⟨f, fd, _, h1, F.kp, rfl, b_is_byte F, fn_stuck⟩⟩
      ShapeCheck__check_plain := by obtain ⟨C, f, fd, h1, h2, h3, F⟩ := D.d_ShapeCheck__check_plain; exact ⟨⟨C, f, fd, _, h1, h2, h3, rfl, b_ShapeCheck__check_plain F, fn_stuck⟩⟩
      bounds := by obtain ⟨f, fd, h1, F⟩ := D.d_bounds; exact ⟨⟨f, fd, _, h1, F.kp, rfl, b_bounds F, fn_stuck⟩⟩
      ShapeCheck__check_uses := by obtain ⟨C, f, fd, h1, h2, h3, F⟩ := D.d_ShapeCheck__check_uses; exact ⟨⟨C, f, fd, _, h1, h2, h3, rfl, b_ShapeCheck__check_uses F, fn_stuck⟩⟩
      blocks_of := by obtain ⟨f, fd, h1, F⟩ := D.d_blocks_of; exact ⟨⟨f, fd, _, h1, F.kp, rfl, b_blocks_of F, fn_stuck⟩⟩
      least_of := by obtain ⟨f, fd, h1, F⟩ := D.d_least_of; exact ⟨⟨f, fd, _, h1, F.kp, rfl, b_least_of F, fn_stuck⟩⟩
      least_of_items := by obtain ⟨f, fd, h1, F⟩ := D.d_least_of_items; exact ⟨⟨f, fd, _, h1, F.kp, rfl, b_least_of_items F, fn_stuck⟩⟩
      ShapeCheck__check_lengths := by obtain ⟨C, f, fd, h1, h2, h3, F⟩ := D.d_ShapeCheck__check_lengths; exact ⟨⟨C, f, fd, _, h1, h2, h3, rfl, b_ShapeCheck__check_lengths F, fn_stuck⟩⟩
      is_name := by obtain ⟨f, fd, h1, F⟩ := D.d_is_name; exact ⟨⟨f, fd, _, h1, F.kp, rfl, b_is_name F, fn_stuck⟩⟩
      ShapeCheck__check_items := by obtain ⟨C, f, fd, h1, h2, h3, F⟩ := D.d_ShapeCheck__check_items; exact ⟨⟨C, f, fd, _, h1, h2, h3, rfl, b_ShapeCheck__check_items F, fn_stuck⟩⟩
      copied := by obtain ⟨f, fd, h1, F⟩ := D.d_copied; exact ⟨⟨f, fd, _, h1, F.kp, rfl, b_copied F, fn_stuck⟩⟩
      copied_items := by obtain ⟨f, fd, h1, F⟩ := D.d_copied_items; exact ⟨⟨f, fd, _, h1, F.kp, rfl, b_copied_items F, fn_stuck⟩⟩
      mk_Shape := by obtain ⟨C, f, fd, h1, h2, F⟩ := D.d_Shape____init__; exact ⟨⟨C, f, fd, _, h1, h2, rfl, b_Shape____init__ F, fn_stuck⟩⟩
      _law_row := by obtain ⟨f, fd, h1, F⟩ := D.d__law_row; exact ⟨⟨f, fd, _, h1, F.kp, rfl, b__law_row F, fn_stuck⟩⟩
      _law_numbers := by obtain ⟨f, fd, h1, F⟩ := D.d__law_numbers; exact ⟨⟨f, fd, _, h1, F.kp, rfl, b__law_numbers F, fn_stuck⟩⟩
      _law_begin := by obtain ⟨f, fd, h1, F⟩ := D.d__law_begin; exact ⟨⟨f, fd, _, h1, F.kp, rfl, b__law_begin F, fn_stuck⟩⟩
      _law_next := by obtain ⟨f, fd, h1, F⟩ := D.d__law_next; exact ⟨⟨f, fd, _, h1, F.kp, rfl, b__law_next F, fn_stuck⟩⟩
      _law_use := by obtain ⟨f, fd, h1, F⟩ := D.d__law_use; exact ⟨⟨f, fd, _, h1, F.kp, rfl, b__law_use F, fn_stuck⟩⟩
      _law_number := by obtain ⟨f, fd, h1, F⟩ := D.d__law_number; exact ⟨⟨f, fd, _, h1, F.kp, rfl, b__law_number F, fn_stuck⟩⟩
      _law_block := by obtain ⟨f, fd, h1, F⟩ := D.d__law_block; exact ⟨⟨f, fd, _, h1, F.kp, rfl, b__law_block F, fn_stuck⟩⟩
      _law_nested := by obtain ⟨f, fd, h1, F⟩ := D.d__law_nested; exact ⟨⟨f, fd, _, h1, F.kp, rfl, b__law_nested F, fn_stuck⟩⟩
      _law_item := by obtain ⟨f, fd, h1, F⟩ := D.d__law_item; exact ⟨⟨f, fd, _, h1, F.kp, rfl, b__law_item F, fn_stuck⟩⟩
      _law_items := by obtain ⟨f, fd, h1, F⟩ := D.d__law_items; exact ⟨⟨f, fd, _, h1, F.kp, rfl, b__law_items F, fn_stuck⟩⟩
      format_items := by obtain ⟨f, fd, h1, F⟩ := D.d_format_items; exact ⟨⟨f, fd, _, h1, F.kp, rfl, b_format_items F, fn_stuck⟩⟩
      format_shape := by obtain ⟨f, fd, h1, F⟩ := D.d_format_shape; exact ⟨⟨f, fd, _, h1, F.kp, rfl, b_format_shape F, fn_stuck⟩⟩
      _law_lines := by obtain ⟨f, fd, h1, F⟩ := D.d__law_lines; exact ⟨⟨f, fd, _, h1, F.kp, rfl, b__law_lines F, fn_stuck⟩⟩
      _law_frozen := by obtain ⟨f, fd, h1, F⟩ := D.d__law_frozen; exact ⟨⟨f, fd, _, h1, F.kp, rfl, b__law_frozen F, fn_stuck⟩⟩
      law := by obtain ⟨f, fd, h1, F⟩ := D.d_law; exact ⟨⟨f, fd, _, h1, F.kp, rfl, b_law F, fn_stuck⟩⟩
    }
  | j + 1 => {
      mk_ShapeCheck := by obtain ⟨C, f, fd, h1, h2, F⟩ := D.d_ShapeCheck____init__; exact ⟨⟨C, f, fd, _, h1, h2, rfl, b_ShapeCheck____init__ F, ok_ShapeCheck____init__ F T (tab D T j)⟩⟩
      ShapeCheck__require := by obtain ⟨C, f, fd, h1, h2, h3, F⟩ := D.d_ShapeCheck__require; exact ⟨⟨C, f, fd, _, h1, h2, h3, rfl, b_ShapeCheck__require F, ok_ShapeCheck__require F T (tab D T j)⟩⟩
      is_byte := by obtain ⟨f, fd, h1, F⟩ := D.d_is_byte; exact ⟨⟨f, fd, _, h1, F.kp, rfl, b_is_byte F, ok_is_byte F T (tab D T j)⟩⟩
      ShapeCheck__check_plain := by obtain ⟨C, f, fd, h1, h2, h3, F⟩ := D.d_ShapeCheck__check_plain; exact ⟨⟨C, f, fd, _, h1, h2, h3, rfl, b_ShapeCheck__check_plain F, ok_ShapeCheck__check_plain F T (tab D T j)⟩⟩
      bounds := by obtain ⟨f, fd, h1, F⟩ := D.d_bounds; exact ⟨⟨f, fd, _, h1, F.kp, rfl, b_bounds F, ok_bounds F T (tab D T j)⟩⟩
      ShapeCheck__check_uses := by obtain ⟨C, f, fd, h1, h2, h3, F⟩ := D.d_ShapeCheck__check_uses; exact ⟨⟨C, f, fd, _, h1, h2, h3, rfl, b_ShapeCheck__check_uses F, ok_ShapeCheck__check_uses F T (tab D T j)⟩⟩
      blocks_of := by obtain ⟨f, fd, h1, F⟩ := D.d_blocks_of; exact ⟨⟨f, fd, _, h1, F.kp, rfl, b_blocks_of F, ok_blocks_of F T (tab D T j)⟩⟩
      least_of := by obtain ⟨f, fd, h1, F⟩ := D.d_least_of; exact ⟨⟨f, fd, _, h1, F.kp, rfl, b_least_of F, ok_least_of F T (tab D T j)⟩⟩
      least_of_items := by obtain ⟨f, fd, h1, F⟩ := D.d_least_of_items; exact ⟨⟨f, fd, _, h1, F.kp, rfl, b_least_of_items F, ok_least_of_items F T (tab D T j)⟩⟩
      ShapeCheck__check_lengths := by obtain ⟨C, f, fd, h1, h2, h3, F⟩ := D.d_ShapeCheck__check_lengths; exact ⟨⟨C, f, fd, _, h1, h2, h3, rfl, b_ShapeCheck__check_lengths F, ok_ShapeCheck__check_lengths F T (tab D T j)⟩⟩
      is_name := by obtain ⟨f, fd, h1, F⟩ := D.d_is_name; exact ⟨⟨f, fd, _, h1, F.kp, rfl, b_is_name F, ok_is_name F T (tab D T j)⟩⟩
      ShapeCheck__check_items := by obtain ⟨C, f, fd, h1, h2, h3, F⟩ := D.d_ShapeCheck__check_items; exact ⟨⟨C, f, fd, _, h1, h2, h3, rfl, b_ShapeCheck__check_items F, ok_ShapeCheck__check_items F T (tab D T j)⟩⟩
      copied := by obtain ⟨f, fd, h1, F⟩ := D.d_copied; exact ⟨⟨f, fd, _, h1, F.kp, rfl, b_copied F, ok_copied F T (tab D T j)⟩⟩
      copied_items := by obtain ⟨f, fd, h1, F⟩ := D.d_copied_items; exact ⟨⟨f, fd, _, h1, F.kp, rfl, b_copied_items F, ok_copied_items F T (tab D T j)⟩⟩
      mk_Shape := by obtain ⟨C, f, fd, h1, h2, F⟩ := D.d_Shape____init__; exact ⟨⟨C, f, fd, _, h1, h2, rfl, b_Shape____init__ F, ok_Shape____init__ F T (tab D T j)⟩⟩
      _law_row := by obtain ⟨f, fd, h1, F⟩ := D.d__law_row; exact ⟨⟨f, fd, _, h1, F.kp, rfl, b__law_row F, ok__law_row F T (tab D T j)⟩⟩
      _law_numbers := by obtain ⟨f, fd, h1, F⟩ := D.d__law_numbers; exact ⟨⟨f, fd, _, h1, F.kp, rfl, b__law_numbers F, ok__law_numbers F T (tab D T j)⟩⟩
      _law_begin := by obtain ⟨f, fd, h1, F⟩ := D.d__law_begin; exact ⟨⟨f, fd, _, h1, F.kp, rfl, b__law_begin F, ok__law_begin F T (tab D T j)⟩⟩
      _law_next := by obtain ⟨f, fd, h1, F⟩ := D.d__law_next; exact ⟨⟨f, fd, _, h1, F.kp, rfl, b__law_next F, ok__law_next F T (tab D T j)⟩⟩
      _law_use := by obtain ⟨f, fd, h1, F⟩ := D.d__law_use; exact ⟨⟨f, fd, _, h1, F.kp, rfl, b__law_use F, ok__law_use F T (tab D T j)⟩⟩
      _law_number := by obtain ⟨f, fd, h1, F⟩ := D.d__law_number; exact ⟨⟨f, fd, _, h1, F.kp, rfl, b__law_number F, ok__law_number F T (tab D T j)⟩⟩
      _law_block := by obtain ⟨f, fd, h1, F⟩ := D.d__law_block; exact ⟨⟨f, fd, _, h1, F.kp, rfl, b__law_block F, ok__law_block F T (tab D T j)⟩⟩
      _law_nested := by obtain ⟨f, fd, h1, F⟩ := D.d__law_nested; exact ⟨⟨f, fd, _, h1, F.kp, rfl, b__law_nested F, ok__law_nested F T (tab D T j)⟩⟩
      _law_item := by obtain ⟨f, fd, h1, F⟩ := D.d__law_item; exact ⟨⟨f, fd, _, h1, F.kp, rfl, b__law_item F, ok__law_item F T (tab D T j)⟩⟩
      _law_items := by obtain ⟨f, fd, h1, F⟩ := D.d__law_items; exact ⟨⟨f, fd, _, h1, F.kp, rfl, b__law_items F, ok__law_items F T (tab D T j)⟩⟩
      format_items := by obtain ⟨f, fd, h1, F⟩ := D.d_format_items; exact ⟨⟨f, fd, _, h1, F.kp, rfl, b_format_items F, ok_format_items F T (tab D T j)⟩⟩
      format_shape := by obtain ⟨f, fd, h1, F⟩ := D.d_format_shape; exact ⟨⟨f, fd, _, h1, F.kp, rfl, b_format_shape F, ok_format_shape F T (tab D T j)⟩⟩
      _law_lines := by obtain ⟨f, fd, h1, F⟩ := D.d__law_lines; exact ⟨⟨f, fd, _, h1, F.kp, rfl, b__law_lines F, ok__law_lines F T (tab D T j)⟩⟩
      _law_frozen := by obtain ⟨f, fd, h1, F⟩ := D.d__law_frozen; exact ⟨⟨f, fd, _, h1, F.kp, rfl, b__law_frozen F, ok__law_frozen F T (tab D T j)⟩⟩
      law := by obtain ⟨f, fd, h1, F⟩ := D.d_law; exact ⟨⟨f, fd, _, h1, F.kp, rfl, b_law F, ok_law F T (tab D T j)⟩⟩
    }
end

end L05

namespace L05
open PySem PySem.Spec PyProof.Rows L2 ML
theorem all_mk {w : World} {K : PySem.W.Frag} {h : Heap} {mg : Str → Option Value} (X : K.In h) (G : h.Ns mainGlobals mg)
    {C_Shape : Addr}
    {C_ShapeCheck : Addr}
    {C_InvalidShape : Addr}
    {f0 : Addr} {od0 an0 : Option Addr} {sl0 : Array (Option Value)} {oc0 kV0 dc0 pm0 cd0 ct0 : Value}
    {f1 : Addr} {od1 an1 : Option Addr} {sl1 : Array (Option Value)} {oc1 kV1 dc1 pm1 cd1 ct1 : Value}
    {f2 : Addr} {od2 an2 : Option Addr} {sl2 : Array (Option Value)} {oc2 kV2 dc2 pm2 cd2 ct2 : Value}
    {f3 : Addr} {od3 an3 : Option Addr} {sl3 : Array (Option Value)} {oc3 kV3 dc3 pm3 cd3 ct3 : Value}
    {f4 : Addr} {od4 an4 : Option Addr} {sl4 : Array (Option Value)} {oc4 kV4 dc4 pm4 cd4 ct4 : Value}
    {f5 : Addr} {od5 an5 : Option Addr} {sl5 : Array (Option Value)} {oc5 kV5 dc5 pm5 cd5 ct5 : Value}
    {f6 : Addr} {od6 an6 : Option Addr} {sl6 : Array (Option Value)} {oc6 kV6 dc6 pm6 cd6 ct6 : Value}
    {f7 : Addr} {od7 an7 : Option Addr} {sl7 : Array (Option Value)} {oc7 kV7 dc7 pm7 cd7 ct7 : Value}
    {f8 : Addr} {od8 an8 : Option Addr} {sl8 : Array (Option Value)} {oc8 kV8 dc8 pm8 cd8 ct8 : Value}
    {f9 : Addr} {od9 an9 : Option Addr} {sl9 : Array (Option Value)} {oc9 kV9 dc9 pm9 cd9 ct9 : Value}
    {f10 : Addr} {od10 an10 : Option Addr} {sl10 : Array (Option Value)} {oc10 kV10 dc10 pm10 cd10 ct10 : Value}
    {f11 : Addr} {od11 an11 : Option Addr} {sl11 : Array (Option Value)} {oc11 kV11 dc11 pm11 cd11 ct11 : Value}
    {f12 : Addr} {od12 an12 : Option Addr} {sl12 : Array (Option Value)} {oc12 kV12 dc12 pm12 cd12 ct12 : Value}
    {f13 : Addr} {od13 an13 : Option Addr} {sl13 : Array (Option Value)} {oc13 kV13 dc13 pm13 cd13 ct13 : Value}
    {f14 : Addr} {od14 an14 : Option Addr} {sl14 : Array (Option Value)} {oc14 kV14 dc14 pm14 cd14 ct14 : Value}
    {f15 : Addr} {od15 an15 : Option Addr} {sl15 : Array (Option Value)} {oc15 kV15 dc15 pm15 cd15 ct15 : Value}
    {f16 : Addr} {od16 an16 : Option Addr} {sl16 : Array (Option Value)} {oc16 kV16 dc16 pm16 cd16 ct16 : Value}
    {f17 : Addr} {od17 an17 : Option Addr} {sl17 : Array (Option Value)} {oc17 kV17 dc17 pm17 cd17 ct17 : Value}
    {f18 : Addr} {od18 an18 : Option Addr} {sl18 : Array (Option Value)} {oc18 kV18 dc18 pm18 cd18 ct18 : Value}
    {f19 : Addr} {od19 an19 : Option Addr} {sl19 : Array (Option Value)} {oc19 kV19 dc19 pm19 cd19 ct19 : Value}
    {f20 : Addr} {od20 an20 : Option Addr} {sl20 : Array (Option Value)} {oc20 kV20 dc20 pm20 cd20 ct20 : Value}
    {f21 : Addr} {od21 an21 : Option Addr} {sl21 : Array (Option Value)} {oc21 kV21 dc21 pm21 cd21 ct21 : Value}
    {f22 : Addr} {od22 an22 : Option Addr} {sl22 : Array (Option Value)} {oc22 kV22 dc22 pm22 cd22 ct22 : Value}
    {f23 : Addr} {od23 an23 : Option Addr} {sl23 : Array (Option Value)} {oc23 kV23 dc23 pm23 cd23 ct23 : Value}
    {f24 : Addr} {od24 an24 : Option Addr} {sl24 : Array (Option Value)} {oc24 kV24 dc24 pm24 cd24 ct24 : Value}
    {f25 : Addr} {od25 an25 : Option Addr} {sl25 : Array (Option Value)} {oc25 kV25 dc25 pm25 cd25 ct25 : Value}
    {f26 : Addr} {od26 an26 : Option Addr} {sl26 : Array (Option Value)} {oc26 kV26 dc26 pm26 cd26 ct26 : Value}
    {f27 : Addr} {od27 an27 : Option Addr} {sl27 : Array (Option Value)} {oc27 kV27 dc27 pm27 cd27 ct27 : Value}
    {f28 : Addr} {od28 an28 : Option Addr} {sl28 : Array (Option Value)} {oc28 kV28 dc28 pm28 cd28 ct28 : Value}
    {f29 : Addr} {od29 an29 : Option Addr} {sl29 : Array (Option Value)} {oc29 kV29 dc29 pm29 cd29 ct29 : Value}
    {t_MOST_CASES : Tok}
    {t_MOST_CHOICES : Tok}
    {t_MOST_COUNT : Tok}
    {t_MOST_DEPTH : Tok}
    {t_MOST_ITEMS : Tok}
    {t_MOST_LENGTH : Tok}
    {t_MOST_MODULUS : Tok}
    {t_MOST_NAMES : Tok}
    {t_MOST_NAME_CHARS : Tok}
    {ta_MULTIPLES : Addr} {td_MULTIPLES : Option Addr} {ti_MULTIPLES : Array Value} {tn_MULTIPLES : Nat} {ts_MULTIPLES : Array (Option Value)} {tv_MULTIPLES : List V}
    {t_NAME_CHARS : Tok}
    {ta_ORDERS : Addr} {td_ORDERS : Option Addr} {ti_ORDERS : Array Value} {tn_ORDERS : Nat} {ts_ORDERS : Array (Option Value)} {tv_ORDERS : List V}
    {da_PARTS : Addr} {de_PARTS : Array DictEntry} {dn_PARTS : Nat}
    {da_GREATEST : Addr} {de_GREATEST : Array DictEntry} {dn_GREATEST : Nat}
    (aC_Shape : PySem.W.nsIn K mainGlobals "Shape" = some (some (.ref C_Shape)))
    (aC_ShapeCheck : PySem.W.nsIn K mainGlobals "ShapeCheck" = some (some (.ref C_ShapeCheck)))
    (aC_InvalidShape : PySem.W.nsIn K mainGlobals "InvalidShape" = some (some (.ref C_InvalidShape)))
    (pg_Shape : PySem.W.plainGet K C_Shape Str.empty = true)
    (hd_Shape : PySem.W.hasDictIn K C_Shape = true)
    (po_Shape : PySem.W.plainOver K C_Shape = true)
    (sa_Shape : PySem.W.findIn K (.ref C_Shape) "__setattr__" = some (some (.builtin "object.__setattr__")))
    (mk_Shape : PySem.W.makesIn K C_Shape = true)
    (kc_Shape : PySem.W.keepIn K (.ref C_Shape) = true)
    (pg_ShapeCheck : PySem.W.plainGet K C_ShapeCheck Str.empty = true)
    (hd_ShapeCheck : PySem.W.hasDictIn K C_ShapeCheck = true)
    (po_ShapeCheck : PySem.W.plainOver K C_ShapeCheck = true)
    (sa_ShapeCheck : PySem.W.findIn K (.ref C_ShapeCheck) "__setattr__" = some (some (.builtin "object.__setattr__")))
    (mk_ShapeCheck : PySem.W.makesIn K C_ShapeCheck = true)
    (kc_ShapeCheck : PySem.W.keepIn K (.ref C_ShapeCheck) = true)
    (a0 : PySem.W.findIn K (.ref C_ShapeCheck) "__init__" = some (some (.ref f0)))
    (i0 : PySem.W.isFn K (.ref f0) = true)
    (l0 : K.lookup f0 = some ⟨oc0, od0, .func (PySem.W.fnOf "__init__" "ShapeCheck.__init__" (defArgs s_ShapeCheck____init__) (defBody s_ShapeCheck____init__) (defScope s_ShapeCheck____init__) .none kV0 dc0 pm0 an0 cd0 ct0), sl0⟩)
    (c0 : PySem.W.codeIn K cd0 "ShapeCheck.__init__" = true)
    (k0 : PySem.W.keepIn K (.ref f0) = true)
    (a1 : PySem.W.findIn K (.ref C_ShapeCheck) "require" = some (some (.ref f1)))
    (i1 : PySem.W.isFn K (.ref f1) = true)
    (l1 : K.lookup f1 = some ⟨oc1, od1, .func (PySem.W.fnOf "require" "ShapeCheck.require" (defArgs s_ShapeCheck__require) (defBody s_ShapeCheck__require) (defScope s_ShapeCheck__require) .none kV1 dc1 pm1 an1 cd1 ct1), sl1⟩)
    (c1 : PySem.W.codeIn K cd1 "ShapeCheck.require" = true)
    (k1 : PySem.W.keepIn K (.ref f1) = true)
    (a2 : PySem.W.nsIn K mainGlobals "is_byte" = some (some (.ref f2)))
    (l2 : K.lookup f2 = some ⟨oc2, od2, .func (PySem.W.fnOf "is_byte" "is_byte" (defArgs s_is_byte) (defBody s_is_byte) (defScope s_is_byte) .none kV2 dc2 pm2 an2 cd2 ct2), sl2⟩)
    (c2 : PySem.W.codeIn K cd2 "is_byte" = true)
    (k2 : PySem.W.keepIn K (.ref f2) = true)
    (a3 : PySem.W.findIn K (.ref C_ShapeCheck) "check_plain" = some (some (.ref f3)))
    (i3 : PySem.W.isFn K (.ref f3) = true)
    (l3 : K.lookup f3 = some ⟨oc3, od3, .func (PySem.W.fnOf "check_plain" "ShapeCheck.check_plain" (defArgs s_ShapeCheck__check_plain) (defBody s_ShapeCheck__check_plain) (defScope s_ShapeCheck__check_plain) .none kV3 dc3 pm3 an3 cd3 ct3), sl3⟩)
    (c3 : PySem.W.codeIn K cd3 "ShapeCheck.check_plain" = true)
    (k3 : PySem.W.keepIn K (.ref f3) = true)
    (a4 : PySem.W.nsIn K mainGlobals "bounds" = some (some (.ref f4)))
    (l4 : K.lookup f4 = some ⟨oc4, od4, .func (PySem.W.fnOf "bounds" "bounds" (defArgs s_bounds) (defBody s_bounds) (defScope s_bounds) .none kV4 dc4 pm4 an4 cd4 ct4), sl4⟩)
    (c4 : PySem.W.codeIn K cd4 "bounds" = true)
    (k4 : PySem.W.keepIn K (.ref f4) = true)
    (a5 : PySem.W.findIn K (.ref C_ShapeCheck) "check_uses" = some (some (.ref f5)))
    (i5 : PySem.W.isFn K (.ref f5) = true)
    (l5 : K.lookup f5 = some ⟨oc5, od5, .func (PySem.W.fnOf "check_uses" "ShapeCheck.check_uses" (defArgs s_ShapeCheck__check_uses) (defBody s_ShapeCheck__check_uses) (defScope s_ShapeCheck__check_uses) .none kV5 dc5 pm5 an5 cd5 ct5), sl5⟩)
    (c5 : PySem.W.codeIn K cd5 "ShapeCheck.check_uses" = true)
    (k5 : PySem.W.keepIn K (.ref f5) = true)
    (a6 : PySem.W.nsIn K mainGlobals "blocks_of" = some (some (.ref f6)))
    (l6 : K.lookup f6 = some ⟨oc6, od6, .func (PySem.W.fnOf "blocks_of" "blocks_of" (defArgs s_blocks_of) (defBody s_blocks_of) (defScope s_blocks_of) .none kV6 dc6 pm6 an6 cd6 ct6), sl6⟩)
    (c6 : PySem.W.codeIn K cd6 "blocks_of" = true)
    (k6 : PySem.W.keepIn K (.ref f6) = true)
    (a7 : PySem.W.nsIn K mainGlobals "least_of" = some (some (.ref f7)))
    (l7 : K.lookup f7 = some ⟨oc7, od7, .func (PySem.W.fnOf "least_of" "least_of" (defArgs s_least_of) (defBody s_least_of) (defScope s_least_of) .none kV7 dc7 pm7 an7 cd7 ct7), sl7⟩)
    (c7 : PySem.W.codeIn K cd7 "least_of" = true)
    (k7 : PySem.W.keepIn K (.ref f7) = true)
    (a8 : PySem.W.nsIn K mainGlobals "least_of_items" = some (some (.ref f8)))
    (l8 : K.lookup f8 = some ⟨oc8, od8, .func (PySem.W.fnOf "least_of_items" "least_of_items" (defArgs s_least_of_items) (defBody s_least_of_items) (defScope s_least_of_items) .none kV8 dc8 pm8 an8 cd8 ct8), sl8⟩)
    (c8 : PySem.W.codeIn K cd8 "least_of_items" = true)
    (k8 : PySem.W.keepIn K (.ref f8) = true)
    (a9 : PySem.W.findIn K (.ref C_ShapeCheck) "check_lengths" = some (some (.ref f9)))
    (i9 : PySem.W.isFn K (.ref f9) = true)
    (l9 : K.lookup f9 = some ⟨oc9, od9, .func (PySem.W.fnOf "check_lengths" "ShapeCheck.check_lengths" (defArgs s_ShapeCheck__check_lengths) (defBody s_ShapeCheck__check_lengths) (defScope s_ShapeCheck__check_lengths) .none kV9 dc9 pm9 an9 cd9 ct9), sl9⟩)
    (c9 : PySem.W.codeIn K cd9 "ShapeCheck.check_lengths" = true)
    (k9 : PySem.W.keepIn K (.ref f9) = true)
    (a10 : PySem.W.nsIn K mainGlobals "is_name" = some (some (.ref f10)))
    (l10 : K.lookup f10 = some ⟨oc10, od10, .func (PySem.W.fnOf "is_name" "is_name" (defArgs s_is_name) (defBody s_is_name) (defScope s_is_name) .none kV10 dc10 pm10 an10 cd10 ct10), sl10⟩)
    (c10 : PySem.W.codeIn K cd10 "is_name" = true)
    (k10 : PySem.W.keepIn K (.ref f10) = true)
    (a11 : PySem.W.findIn K (.ref C_ShapeCheck) "check_items" = some (some (.ref f11)))
    (i11 : PySem.W.isFn K (.ref f11) = true)
    (l11 : K.lookup f11 = some ⟨oc11, od11, .func (PySem.W.fnOf "check_items" "ShapeCheck.check_items" (defArgs s_ShapeCheck__check_items) (defBody s_ShapeCheck__check_items) (defScope s_ShapeCheck__check_items) .none kV11 dc11 pm11 an11 cd11 ct11), sl11⟩)
    (c11 : PySem.W.codeIn K cd11 "ShapeCheck.check_items" = true)
    (k11 : PySem.W.keepIn K (.ref f11) = true)
    (a12 : PySem.W.nsIn K mainGlobals "copied" = some (some (.ref f12)))
    (l12 : K.lookup f12 = some ⟨oc12, od12, .func (PySem.W.fnOf "copied" "copied" (defArgs s_copied) (defBody s_copied) (defScope s_copied) .none kV12 dc12 pm12 an12 cd12 ct12), sl12⟩)
    (c12 : PySem.W.codeIn K cd12 "copied" = true)
    (k12 : PySem.W.keepIn K (.ref f12) = true)
    (a13 : PySem.W.nsIn K mainGlobals "copied_items" = some (some (.ref f13)))
    (l13 : K.lookup f13 = some ⟨oc13, od13, .func (PySem.W.fnOf "copied_items" "copied_items" (defArgs s_copied_items) (defBody s_copied_items) (defScope s_copied_items) .none kV13 dc13 pm13 an13 cd13 ct13), sl13⟩)
    (c13 : PySem.W.codeIn K cd13 "copied_items" = true)
    (k13 : PySem.W.keepIn K (.ref f13) = true)
    (a14 : PySem.W.findIn K (.ref C_Shape) "__init__" = some (some (.ref f14)))
    (i14 : PySem.W.isFn K (.ref f14) = true)
    (l14 : K.lookup f14 = some ⟨oc14, od14, .func (PySem.W.fnOf "__init__" "Shape.__init__" (defArgs s_Shape____init__) (defBody s_Shape____init__) (defScope s_Shape____init__) .none kV14 dc14 pm14 an14 cd14 ct14), sl14⟩)
    (c14 : PySem.W.codeIn K cd14 "Shape.__init__" = true)
    (k14 : PySem.W.keepIn K (.ref f14) = true)
    (a15 : PySem.W.nsIn K mainGlobals "_law_row" = some (some (.ref f15)))
    (l15 : K.lookup f15 = some ⟨oc15, od15, .func (PySem.W.fnOf "_law_row" "_law_row" (defArgs s__law_row) (defBody s__law_row) (defScope s__law_row) .none kV15 dc15 pm15 an15 cd15 ct15), sl15⟩)
    (c15 : PySem.W.codeIn K cd15 "_law_row" = true)
    (k15 : PySem.W.keepIn K (.ref f15) = true)
    (a16 : PySem.W.nsIn K mainGlobals "_law_numbers" = some (some (.ref f16)))
    (l16 : K.lookup f16 = some ⟨oc16, od16, .func (PySem.W.fnOf "_law_numbers" "_law_numbers" (defArgs s__law_numbers) (defBody s__law_numbers) (defScope s__law_numbers) .none kV16 dc16 pm16 an16 cd16 ct16), sl16⟩)
    (c16 : PySem.W.codeIn K cd16 "_law_numbers" = true)
    (k16 : PySem.W.keepIn K (.ref f16) = true)
    (a17 : PySem.W.nsIn K mainGlobals "_law_begin" = some (some (.ref f17)))
    (l17 : K.lookup f17 = some ⟨oc17, od17, .func (PySem.W.fnOf "_law_begin" "_law_begin" (defArgs s__law_begin) (defBody s__law_begin) (defScope s__law_begin) .none kV17 dc17 pm17 an17 cd17 ct17), sl17⟩)
    (c17 : PySem.W.codeIn K cd17 "_law_begin" = true)
    (k17 : PySem.W.keepIn K (.ref f17) = true)
    (a18 : PySem.W.nsIn K mainGlobals "_law_next" = some (some (.ref f18)))
    (l18 : K.lookup f18 = some ⟨oc18, od18, .func (PySem.W.fnOf "_law_next" "_law_next" (defArgs s__law_next) (defBody s__law_next) (defScope s__law_next) .none kV18 dc18 pm18 an18 cd18 ct18), sl18⟩)
    (c18 : PySem.W.codeIn K cd18 "_law_next" = true)
    (k18 : PySem.W.keepIn K (.ref f18) = true)
    (a19 : PySem.W.nsIn K mainGlobals "_law_use" = some (some (.ref f19)))
    (l19 : K.lookup f19 = some ⟨oc19, od19, .func (PySem.W.fnOf "_law_use" "_law_use" (defArgs s__law_use) (defBody s__law_use) (defScope s__law_use) .none kV19 dc19 pm19 an19 cd19 ct19), sl19⟩)
    (c19 : PySem.W.codeIn K cd19 "_law_use" = true)
    (k19 : PySem.W.keepIn K (.ref f19) = true)
    (a20 : PySem.W.nsIn K mainGlobals "_law_number" = some (some (.ref f20)))
    (l20 : K.lookup f20 = some ⟨oc20, od20, .func (PySem.W.fnOf "_law_number" "_law_number" (defArgs s__law_number) (defBody s__law_number) (defScope s__law_number) .none kV20 dc20 pm20 an20 cd20 ct20), sl20⟩)
    (c20 : PySem.W.codeIn K cd20 "_law_number" = true)
    (k20 : PySem.W.keepIn K (.ref f20) = true)
    (a21 : PySem.W.nsIn K mainGlobals "_law_block" = some (some (.ref f21)))
    (l21 : K.lookup f21 = some ⟨oc21, od21, .func (PySem.W.fnOf "_law_block" "_law_block" (defArgs s__law_block) (defBody s__law_block) (defScope s__law_block) .none kV21 dc21 pm21 an21 cd21 ct21), sl21⟩)
    (c21 : PySem.W.codeIn K cd21 "_law_block" = true)
    (k21 : PySem.W.keepIn K (.ref f21) = true)
    (a22 : PySem.W.nsIn K mainGlobals "_law_nested" = some (some (.ref f22)))
    (l22 : K.lookup f22 = some ⟨oc22, od22, .func (PySem.W.fnOf "_law_nested" "_law_nested" (defArgs s__law_nested) (defBody s__law_nested) (defScope s__law_nested) .none kV22 dc22 pm22 an22 cd22 ct22), sl22⟩)
    (c22 : PySem.W.codeIn K cd22 "_law_nested" = true)
    (k22 : PySem.W.keepIn K (.ref f22) = true)
    (a23 : PySem.W.nsIn K mainGlobals "_law_item" = some (some (.ref f23)))
    (l23 : K.lookup f23 = some ⟨oc23, od23, .func (PySem.W.fnOf "_law_item" "_law_item" (defArgs s__law_item) (defBody s__law_item) (defScope s__law_item) .none kV23 dc23 pm23 an23 cd23 ct23), sl23⟩)
    (c23 : PySem.W.codeIn K cd23 "_law_item" = true)
    (k23 : PySem.W.keepIn K (.ref f23) = true)
    (a24 : PySem.W.nsIn K mainGlobals "_law_items" = some (some (.ref f24)))
    (l24 : K.lookup f24 = some ⟨oc24, od24, .func (PySem.W.fnOf "_law_items" "_law_items" (defArgs s__law_items) (defBody s__law_items) (defScope s__law_items) .none kV24 dc24 pm24 an24 cd24 ct24), sl24⟩)
    (c24 : PySem.W.codeIn K cd24 "_law_items" = true)
    (k24 : PySem.W.keepIn K (.ref f24) = true)
    (a25 : PySem.W.nsIn K mainGlobals "format_items" = some (some (.ref f25)))
    (l25 : K.lookup f25 = some ⟨oc25, od25, .func (PySem.W.fnOf "format_items" "format_items" (defArgs s_format_items) (defBody s_format_items) (defScope s_format_items) .none kV25 dc25 pm25 an25 cd25 ct25), sl25⟩)
    (c25 : PySem.W.codeIn K cd25 "format_items" = true)
    (k25 : PySem.W.keepIn K (.ref f25) = true)
    (a26 : PySem.W.nsIn K mainGlobals "format_shape" = some (some (.ref f26)))
    (l26 : K.lookup f26 = some ⟨oc26, od26, .func (PySem.W.fnOf "format_shape" "format_shape" (defArgs s_format_shape) (defBody s_format_shape) (defScope s_format_shape) .none kV26 dc26 pm26 an26 cd26 ct26), sl26⟩)
    (c26 : PySem.W.codeIn K cd26 "format_shape" = true)
    (k26 : PySem.W.keepIn K (.ref f26) = true)
    (a27 : PySem.W.nsIn K mainGlobals "_law_lines" = some (some (.ref f27)))
    (l27 : K.lookup f27 = some ⟨oc27, od27, .func (PySem.W.fnOf "_law_lines" "_law_lines" (defArgs s__law_lines) (defBody s__law_lines) (defScope s__law_lines) .none kV27 dc27 pm27 an27 cd27 ct27), sl27⟩)
    (c27 : PySem.W.codeIn K cd27 "_law_lines" = true)
    (k27 : PySem.W.keepIn K (.ref f27) = true)
    (a28 : PySem.W.nsIn K mainGlobals "_law_frozen" = some (some (.ref f28)))
    (l28 : K.lookup f28 = some ⟨oc28, od28, .func (PySem.W.fnOf "_law_frozen" "_law_frozen" (defArgs s__law_frozen) (defBody s__law_frozen) (defScope s__law_frozen) .none kV28 dc28 pm28 an28 cd28 ct28), sl28⟩)
    (c28 : PySem.W.codeIn K cd28 "_law_frozen" = true)
    (k28 : PySem.W.keepIn K (.ref f28) = true)
    (a29 : PySem.W.nsIn K mainGlobals "law" = some (some (.ref f29)))
    (l29 : K.lookup f29 = some ⟨oc29, od29, .func (PySem.W.fnOf "law" "law" (defArgs s_law) (defBody s_law) (defScope s_law) .none kV29 dc29 pm29 an29 cd29 ct29), sl29⟩)
    (c29 : PySem.W.codeIn K cd29 "law" = true)
    (k29 : PySem.W.keepIn K (.ref f29) = true)
    (nb_abs : PySem.W.nsIn K mainGlobals "abs" = some none)
    (nb_all : PySem.W.nsIn K mainGlobals "all" = some none)
    (nb_enumerate : PySem.W.nsIn K mainGlobals "enumerate" = some none)
    (nb_int : PySem.W.nsIn K mainGlobals "int" = some none)
    (nb_isinstance : PySem.W.nsIn K mainGlobals "isinstance" = some none)
    (nb_len : PySem.W.nsIn K mainGlobals "len" = some none)
    (nb_list : PySem.W.nsIn K mainGlobals "list" = some none)
    (nb_max : PySem.W.nsIn K mainGlobals "max" = some none)
    (nb_min : PySem.W.nsIn K mainGlobals "min" = some none)
    (nb_range : PySem.W.nsIn K mainGlobals "range" = some none)
    (nb_str : PySem.W.nsIn K mainGlobals "str" = some none)
    (nb_sum : PySem.W.nsIn K mainGlobals "sum" = some none)
    (nb_tuple : PySem.W.nsIn K mainGlobals "tuple" = some none)
    (cb_MOST_CASES : PySem.W.nsIn K mainGlobals "MOST_CASES" = some (some (.int 8 t_MOST_CASES)))
    (cb_MOST_CHOICES : PySem.W.nsIn K mainGlobals "MOST_CHOICES" = some (some (.int 4 t_MOST_CHOICES)))
    (cb_MOST_COUNT : PySem.W.nsIn K mainGlobals "MOST_COUNT" = some (some (.int 16 t_MOST_COUNT)))
    (cb_MOST_DEPTH : PySem.W.nsIn K mainGlobals "MOST_DEPTH" = some (some (.int 3 t_MOST_DEPTH)))
    (cb_MOST_ITEMS : PySem.W.nsIn K mainGlobals "MOST_ITEMS" = some (some (.int 12 t_MOST_ITEMS)))
    (cb_MOST_LENGTH : PySem.W.nsIn K mainGlobals "MOST_LENGTH" = some (some (.int 64 t_MOST_LENGTH)))
    (cb_MOST_MODULUS : PySem.W.nsIn K mainGlobals "MOST_MODULUS" = some (some (.int 16 t_MOST_MODULUS)))
    (cb_MOST_NAMES : PySem.W.nsIn K mainGlobals "MOST_NAMES" = some (some (.int 30 t_MOST_NAMES)))
    (cb_MOST_NAME_CHARS : PySem.W.nsIn K mainGlobals "MOST_NAME_CHARS" = some (some (.int 12 t_MOST_NAME_CHARS)))
    (cb_MULTIPLES : PySem.W.nsIn K mainGlobals "MULTIPLES" = some (some (.ref ta_MULTIPLES)))
    (cl_MULTIPLES : K.lookup ta_MULTIPLES = some ⟨.type "tuple", td_MULTIPLES, .seq ti_MULTIPLES tn_MULTIPLES, ts_MULTIPLES⟩)
    (cf_MULTIPLES : flatsK ti_MULTIPLES.toList = some ([(.int 1), (.int 2), (.int 4), (.int 8), (.int 16)], tv_MULTIPLES))
    (cz_MULTIPLES : ti_MULTIPLES.size ≤ sizeLine)
    (cb_NAME_CHARS : PySem.W.nsIn K mainGlobals "NAME_CHARS" = some (some (.str "abcdefghijklmnopqrstuvwxyz0123456789" t_NAME_CHARS)))
    (cb_ORDERS : PySem.W.nsIn K mainGlobals "ORDERS" = some (some (.ref ta_ORDERS)))
    (cl_ORDERS : K.lookup ta_ORDERS = some ⟨.type "tuple", td_ORDERS, .seq ti_ORDERS tn_ORDERS, ts_ORDERS⟩)
    (cf_ORDERS : flatsK ti_ORDERS.toList = some ([(.str "big"), (.str "little")], tv_ORDERS))
    (cz_ORDERS : ti_ORDERS.size ≤ sizeLine)
    (db_PARTS : PySem.W.nsIn K mainGlobals "PARTS" = some (some (.ref da_PARTS)))
    (dl_PARTS : K.lookup da_PARTS = some ⟨.type "dict", none, .dict de_PARTS dn_PARTS, #[]⟩)
    (dk_PARTS : PySem.W.KeysLit w.params de_PARTS.toList)
    (ds_PARTS : (da_PARTS == sysModules) = false)
    (dv_PARTS : KVals de_PARTS.toList k_PARTS)
    (db_GREATEST : PySem.W.nsIn K mainGlobals "GREATEST" = some (some (.ref da_GREATEST)))
    (dl_GREATEST : K.lookup da_GREATEST = some ⟨.type "dict", none, .dict de_GREATEST dn_GREATEST, #[]⟩)
    (ds_GREATEST : (da_GREATEST == sysModules) = false)
    (di_GREATEST : IVals de_GREATEST.toList k_GREATEST)
    (n_Shape_bounds : PySem.W.findIn K (.ref C_Shape) "bounds" = some none)
    (n_ShapeCheck_checks : PySem.W.findIn K (.ref C_ShapeCheck) "checks" = some none)
    (n_Shape_names : PySem.W.findIn K (.ref C_Shape) "names" = some none)
    (n_ShapeCheck_names : PySem.W.findIn K (.ref C_ShapeCheck) "names" = some none)
    (n_ShapeCheck_numbers : PySem.W.findIn K (.ref C_ShapeCheck) "numbers" = some none)
    (n_Shape_parts : PySem.W.findIn K (.ref C_Shape) "parts" = some none)
    (xq_InvalidShape : PySem.W.excIn K C_InvalidShape [.type "ValueError", .type "Exception", .type "BaseException", .type "object"] "ValueError.__new__" = true)
    (xk_InvalidShape : PySem.W.keepIn K (.ref C_InvalidShape) = true)
    (xb_InvalidShape : PySem.W.subIn K (.ref C_InvalidShape) (.type "BaseException") = some true)
    (xt_InvalidShape : PySem.W.typeIn K (.ref C_InvalidShape) = some (.type "type"))
    : Defs K mg ∧ Txt K mg w := by
  refine ⟨⟨⟨_, _, _, PySem.W.mg_of X G aC_ShapeCheck, ⟨mk_ShapeCheck, a0, i0, kc_ShapeCheck⟩, fun_mk (st := s_ShapeCheck____init__) l0 c0 k0⟩, ⟨_, _, _, PySem.W.mg_of X G aC_ShapeCheck, ⟨pg_ShapeCheck, hd_ShapeCheck, po_ShapeCheck, sa_ShapeCheck⟩, ⟨a1, i1, k1⟩, fun_mk (st := s_ShapeCheck__require) l1 c1 k1⟩, ⟨_, _, PySem.W.mg_of X G a2, fun_mk (st := s_is_byte) l2 c2 k2⟩, ⟨_, _, _, PySem.W.mg_of X G aC_ShapeCheck, ⟨pg_ShapeCheck, hd_ShapeCheck, po_ShapeCheck, sa_ShapeCheck⟩, ⟨a3, i3, k3⟩, fun_mk (st := s_ShapeCheck__check_plain) l3 c3 k3⟩, ⟨_, _, PySem.W.mg_of X G a4, fun_mk (st := s_bounds) l4 c4 k4⟩, ⟨_, _, _, PySem.W.mg_of X G aC_ShapeCheck, ⟨pg_ShapeCheck, hd_ShapeCheck, po_ShapeCheck, sa_ShapeCheck⟩, ⟨a5, i5, k5⟩, fun_mk (st := s_ShapeCheck__check_uses) l5 c5 k5⟩, ⟨_, _, PySem.W.mg_of X G a6, fun_mk (st := s_blocks_of) l6 c6 k6⟩, ⟨_, _, PySem.W.mg_of X G a7, fun_mk (st := s_least_of) l7 c7 k7⟩, ⟨_, _, PySem.W.mg_of X G a8, fun_mk (st := s_least_of_items) l8 c8 k8⟩, ⟨_, _, _, PySem.W.mg_of X G aC_ShapeCheck, ⟨pg_ShapeCheck, hd_ShapeCheck, po_ShapeCheck, sa_ShapeCheck⟩, ⟨a9, i9, k9⟩, fun_mk (st := s_ShapeCheck__check_lengths) l9 c9 k9⟩, ⟨_, _, PySem.W.mg_of X G a10, fun_mk (st := s_is_name) l10 c10 k10⟩, ⟨_, _, _, PySem.W.mg_of X G aC_ShapeCheck, ⟨pg_ShapeCheck, hd_ShapeCheck, po_ShapeCheck, sa_ShapeCheck⟩, ⟨a11, i11, k11⟩, fun_mk (st := s_ShapeCheck__check_items) l11 c11 k11⟩, ⟨_, _, PySem.W.mg_of X G a12, fun_mk (st := s_copied) l12 c12 k12⟩, ⟨_, _, PySem.W.mg_of X G a13, fun_mk (st := s_copied_items) l13 c13 k13⟩, ⟨_, _, _, PySem.W.mg_of X G aC_Shape, ⟨mk_Shape, a14, i14, kc_Shape⟩, fun_mk (st := s_Shape____init__) l14 c14 k14⟩, ⟨_, _, PySem.W.mg_of X G a15, fun_mk (st := s__law_row) l15 c15 k15⟩, ⟨_, _, PySem.W.mg_of X G a16, fun_mk (st := s__law_numbers) l16 c16 k16⟩, ⟨_, _, PySem.W.mg_of X G a17, fun_mk (st := s__law_begin) l17 c17 k17⟩, ⟨_, _, PySem.W.mg_of X G a18, fun_mk (st := s__law_next) l18 c18 k18⟩, ⟨_, _, PySem.W.mg_of X G a19, fun_mk (st := s__law_use) l19 c19 k19⟩, ⟨_, _, PySem.W.mg_of X G a20, fun_mk (st := s__law_number) l20 c20 k20⟩, ⟨_, _, PySem.W.mg_of X G a21, fun_mk (st := s__law_block) l21 c21 k21⟩, ⟨_, _, PySem.W.mg_of X G a22, fun_mk (st := s__law_nested) l22 c22 k22⟩, ⟨_, _, PySem.W.mg_of X G a23, fun_mk (st := s__law_item) l23 c23 k23⟩, ⟨_, _, PySem.W.mg_of X G a24, fun_mk (st := s__law_items) l24 c24 k24⟩, ⟨_, _, PySem.W.mg_of X G a25, fun_mk (st := s_format_items) l25 c25 k25⟩, ⟨_, _, PySem.W.mg_of X G a26, fun_mk (st := s_format_shape) l26 c26 k26⟩, ⟨_, _, PySem.W.mg_of X G a27, fun_mk (st := s__law_lines) l27 c27 k27⟩, ⟨_, _, PySem.W.mg_of X G a28, fun_mk (st := s__law_frozen) l28 c28 k28⟩, ⟨_, _, PySem.W.mg_of X G a29, fun_mk (st := s_law) l29 c29 k29⟩⟩, ⟨PySem.W.mg_none_of X G nb_abs, PySem.W.mg_none_of X G nb_all, PySem.W.mg_none_of X G nb_enumerate, PySem.W.mg_none_of X G nb_int, PySem.W.mg_none_of X G nb_isinstance, PySem.W.mg_none_of X G nb_len, PySem.W.mg_none_of X G nb_list, PySem.W.mg_none_of X G nb_max, PySem.W.mg_none_of X G nb_min, PySem.W.mg_none_of X G nb_range, PySem.W.mg_none_of X G nb_str, PySem.W.mg_none_of X G nb_sum, PySem.W.mg_none_of X G nb_tuple, kc_int (PySem.W.mg_of X G cb_MOST_CASES), kc_int (PySem.W.mg_of X G cb_MOST_CHOICES), kc_int (PySem.W.mg_of X G cb_MOST_COUNT), kc_int (PySem.W.mg_of X G cb_MOST_DEPTH), kc_int (PySem.W.mg_of X G cb_MOST_ITEMS), kc_int (PySem.W.mg_of X G cb_MOST_LENGTH), kc_int (PySem.W.mg_of X G cb_MOST_MODULUS), kc_int (PySem.W.mg_of X G cb_MOST_NAMES), kc_int (PySem.W.mg_of X G cb_MOST_NAME_CHARS), kc_tup (PySem.W.mg_of X G cb_MULTIPLES) cl_MULTIPLES cf_MULTIPLES cz_MULTIPLES, kc_str (PySem.W.mg_of X G cb_NAME_CHARS), kc_tup (PySem.W.mg_of X G cb_ORDERS) cl_ORDERS cf_ORDERS cz_ORDERS, ⟨da_PARTS, de_PARTS, dn_PARTS, PySem.W.mg_of X G db_PARTS, ⟨dl_PARTS, dk_PARTS, ds_PARTS⟩, dv_PARTS⟩, ⟨da_GREATEST, de_GREATEST, dn_GREATEST, PySem.W.mg_of X G db_GREATEST, dl_GREATEST, ds_GREATEST, di_GREATEST⟩, (all_cons ⟨_, PySem.W.mg_of X G aC_Shape, ⟨pg_Shape, hd_Shape, po_Shape, sa_Shape⟩, n_Shape_bounds⟩ all_nil), (all_cons ⟨_, PySem.W.mg_of X G aC_ShapeCheck, ⟨pg_ShapeCheck, hd_ShapeCheck, po_ShapeCheck, sa_ShapeCheck⟩, n_ShapeCheck_checks⟩ all_nil), (all_cons ⟨_, PySem.W.mg_of X G aC_Shape, ⟨pg_Shape, hd_Shape, po_Shape, sa_Shape⟩, n_Shape_names⟩ (all_cons ⟨_, PySem.W.mg_of X G aC_ShapeCheck, ⟨pg_ShapeCheck, hd_ShapeCheck, po_ShapeCheck, sa_ShapeCheck⟩, n_ShapeCheck_names⟩ all_nil)), (all_cons ⟨_, PySem.W.mg_of X G aC_ShapeCheck, ⟨pg_ShapeCheck, hd_ShapeCheck, po_ShapeCheck, sa_ShapeCheck⟩, n_ShapeCheck_numbers⟩ all_nil), (all_cons ⟨_, PySem.W.mg_of X G aC_Shape, ⟨pg_Shape, hd_Shape, po_Shape, sa_Shape⟩, n_Shape_parts⟩ all_nil), ⟨_, _, _, _, _, PySem.F.excBase_ValueError, xq_InvalidShape, PySem.W.mg_of X G aC_InvalidShape, xk_InvalidShape, xb_InvalidShape, xt_InvalidShape⟩⟩⟩

/-- the end: if the mirror of law gives True on every script, the law holds -/
theorem walk {l : PySem.W.OpenLaw} {q : Program} {loose : List Str} {XP : (Str → Option Value) → Heap → Prop} {YP : World → Heap → Prop} {d : DefRec} {K : Params → PySem.W.Frag} (hn : l.most = some 63) (hdf : d.params.defaults = [])
    (hY : ∀ (w : World) (h : Heap), YP w h → (K w.params).In h) (hname : d.name = "law")
    (F : ∀ (w : World) (mg : Str → Option Value) (h : Heap), (K w.params).In h → h.Ns mainGlobals mg → Defs (K w.params) mg ∧ Txt (K w.params) mg w)
    (hlaw : ∀ (ns : List Int), ns.length ≤ 63 → ∃ S', run 30 fn_law [.scr (ns.map Dv.int)] [] = some (.ok (.bl true) S')) : PySem.W.WalkO q loose XP YP l.row.toRowW d [] (fun f vs => PySem.call f vs) :=
  L2.walk_of (n := 63) (k := 2 * 29 + 2) (x := "_law_script") (CX := fun w => L2.CX l.prog w) (sp := fun w vs H Q E => vs.length = 1 ∧ ∃ (a : Addr) (ns : List Int), vs = [.ref a] ∧ ns.length ≤ 63 ∧ SqL (K w.params) H a (ns.map V.int) ∧ (∀ H', Q (.bl true) H')) hn (by decide) hdf ⟨rfl, by decide, by decide⟩ hY
    (fun w mg fa h KX G hmg => by
      obtain ⟨D, T⟩ := F w mg h KX G
      obtain ⟨f, fd, h1, F1⟩ := D.d_law
      rw [hname] at hmg
      have e := hmg.symm.trans h1
      cases e
      refine ⟨fd, fun s u => ?_, fun base hK hN => ?_⟩
      · obtain ⟨oc, od, kV, doc, pm, an, cdv, ct, osl, rfl, _⟩ := F1.ex
        exact .of_eq rfl
      · exact (ok_law F1 T (tab (P := l.prog) (base := base) D T 29)).imp (law_sp (B := ⟨K w.params, mg⟩) hlaw))
    (fun w H a ns hl _ hS => ⟨rfl, a, ns, rfl, hl, hS, fun _ => rfl⟩) fun w H s e s' h => by
      obtain ⟨_, _, _, _, _, _, _, _, _, _, _, _, z⟩ := h
      exact z.elim

end L05

namespace L05
open PySem PySem.Spec PyProof.Rows L2 ML

theorem run_row (k : Nat) : run (k + 1) fn__law_row = defM true 6 (m__law_row (run k)) := rfl
theorem run_numbers (k : Nat) : run (k + 1) fn__law_numbers = defM true 7 (m__law_numbers (run k)) := rfl
def small (l : List Int) : Prop := ∀ i ∈ l, 0 ≤ i ∧ i < 1009
theorem small_app {l : List Int} {i : Int} (h : small l) (h0 : 0 ≤ i) (h1 : i < 1009) : small (l ++ [i]) := fun j hj => by
  rcases List.mem_append.mp hj with hj | hj
  · exact h j hj
  · rw [List.mem_singleton.mp hj]; exact ⟨h0, h1⟩
theorem fmod_small {a : Int} : 0 ≤ a.fmod 1009 ∧ a.fmod 1009 < 1009 := by
  rw [Int.fmod_eq_emod_of_nonneg _ (by decide)]
  omega
theorem sp_row (k : Nat) (x : Int) (m : Nat) (hm : m ≤ 1000) (S : Sto) (hS : S.all (belowC S.length) = true) :
    Wm (run (k + 1) fn__law_row [.int x, .int m]) S fun r => ∃ l : List Int, l.length = m ∧ small l ∧ r = .ok (.lst (l.map .int)) S := by
  rw [run_row, wm_def, m__law_row]
  simp [ws_for]
  refine ⟨by omega, ?_⟩
  refine for_inv (fun k env S' => ∃ (l : List Int) (rest mixed : Int) (kk : Option Dv), l.length = k ∧ small l ∧ env = [some (.int x), some (.int m), some (.ref S.length), some (.int rest), some (.int mixed), kk] ∧ S' = S ++ [.lst (l.map .int)]) ?_ ?_ ?_
  · exact ⟨[], _, _, _, rfl, (by intro i hi; cases hi), rfl, rfl⟩
  · rintro i d env S' hd ⟨l, rest, mixed, kk, hl, hsm, rfl, rfl⟩
    obtain ⟨hlt, rfl⟩ := range_at hd
    have hz : sizeLine = 16777216 := by decide
    have fin : ∀ z : Int, l.length < sizeLine ∧ ∃ l_1 : List Int, l_1.length = i + 1 ∧ small l_1 ∧ List.map Dv.int l ++ [Dv.int (z.fmod 1009)] = List.map Dv.int l_1 := fun z =>
      ⟨by omega, l ++ [z.fmod 1009], by simp [hl], small_app hsm fmod_small.1 fmod_small.2, by simp⟩
    simp
    repeat' split
    all_goals exact fin _
  · rintro env S' ⟨l, rest, mixed, kk, hl, hsm, rfl, rfl⟩
    simp
    refine ⟨l, by simpa using hl, hsm, leaveD_new belows_ints hS⟩
theorem sp_numbers (k : Nat) (ns : List Int) (m : Nat) (hm : m ≤ 400) (hn : ns.length ≤ 63) :
    Wm (run (k + 2) fn__law_numbers [.scr (ns.map .int), .int m]) [] fun r => ∃ l : List Int, l.length = m ∧ small l ∧ r = .ok (.lst (l.map .int)) [] := by
  rw [run_numbers, wm_def, m__law_numbers]
  have hc : cutG (List.map Dv.int ns) none (some 63) = ns.map .int := by
    rw [show (63 : Int) = ((63 : Nat) : Int) from rfl, cutG_head, List.take_of_length_le (by simpa using hn)]
  simp [ws_for, hc]
  have hz : sizeLine = 16777216 := by decide
  refine ⟨by split <;> omega, ?_⟩
  have hg : ∃ g : Nat, g ≤ 1000 ∧ 1 + (m : Int).fdiv (if 1 < (ns.length : Int) then (ns.length : Int) else 1) = g := by
    refine ⟨(1 + (m : Int).fdiv (if 1 < (ns.length : Int) then (ns.length : Int) else 1)).toNat, ?_, ?_⟩
    all_goals
      rw [Int.fdiv_eq_ediv_of_nonneg _ (by split <;> omega)]
      have h1 : (m : Int) / (if 1 < (ns.length : Int) then (ns.length : Int) else 1) ≤ m := Int.ediv_le_self _ (by omega)
      have h2 : 0 ≤ (m : Int) / (if 1 < (ns.length : Int) then (ns.length : Int) else 1) := Int.ediv_nonneg (by omega) (by split <;> omega)
      omega
  obtain ⟨g, hg1, hg2⟩ := hg
  rw [hg2]
  refine for_inv (fun k env S' => ∃ (l : List Int) (a b : Option Dv), small l ∧ l.length ≤ 1000 * k ∧ env = [some (.scr (ns.map .int)), some (.int m), some (.lst (ns.map .int)), some (.int g), some (.ref 0), a, b] ∧ S' = [.lst (l.map .int)]) ?_ ?_ ?_
  · exact ⟨[], _, _, (by intro i hi; cases hi), by simp, rfl, rfl⟩
  · rintro i d env S' hd ⟨l, a, b, hsm, hlen, rfl, rfl⟩
    obtain ⟨x, hx, hmem, rfl⟩ := map_at hd
    have hi : i < 63 := by
      have := (List.getElem?_eq_some_iff.mp hx).1
      omega
    simp [ws_for]
    refine (sp_row k x g hg1 [.lst (l.map .int)] ?_).imp ?_
    · simp [belowC, belows_ints]
    rintro r ⟨w, hw1, hw2, rfl⟩
    simp
    refine for_inv (fun k env S' => ∃ (u : List Int) (b : Option Dv), small u ∧ u.length = l.length + k ∧ env = [some (.scr (ns.map .int)), some (.int m), some (.lst (ns.map .int)), some (.int g), some (.ref 0), some (.int x), b] ∧ S' = [.lst (u.map .int)]) ?_ ?_ ?_
    · exact ⟨l, _, hsm, rfl, rfl, rfl⟩
    · rintro i2 d2 env2 S2 hd2 ⟨u, b2, hu, hul, rfl, rfl⟩
      obtain ⟨y, hy, hym, rfl⟩ := map_at hd2
      have : i2 < w.length := (List.getElem?_eq_some_iff.mp hy).1
      simp
      refine ⟨by omega, u ++ [y], small_app hu (hw2 y hym).1 (hw2 y hym).2, by simp; omega, by simp⟩
    · rintro env2 S2 ⟨u, b2, hu, hul, rfl, rfl⟩
      simp
      refine ⟨u, hu, ?_, rfl⟩
      simp at hul
      omega
  · rintro env S' ⟨l, a, b, hsm, hlen, rfl, rfl⟩
    simp at hlen ⊢
    refine while_inv (fun j env S' => ∃ (u : List Int), small u ∧ u.length ≤ 100000 ∧ m ≤ u.length + j ∧ (0 < j → u.length + j ≤ m) ∧ env = [some (.scr (ns.map .int)), some (.int m), some (.lst (ns.map .int)), some (.int g), some (.ref 0), a, b] ∧ S' = [.lst (u.map .int)]) ?_ (m - l.length) _ _ _ ?_ ?_
    · rintro j env S' ⟨u, hu, h1, h2, h3, rfl, rfl⟩
      simp
      split
      · refine ⟨j - 1, by omega, by omega, u ++ [0], small_app hu (by decide) (by decide), by simp; omega, by simp; omega, by simp; omega, by simp⟩
      · have e : cutG (List.map Dv.int u) none (some (m : Int)) = (u.take m).map .int := by rw [cutG_head, List.map_take]
        refine ⟨u.take m, by simp; omega, fun i hi => hu i (List.mem_of_mem_take hi), ?_⟩
        rw [e]
        exact leaveD_old (S := []) (by intro n; nofun) (by simp only [below]; exact belows_ints) rfl
    · omega
    · exact ⟨l, hsm, by omega, by omega, by omega, rfl, rfl⟩
end L05

namespace L05
open PySem PySem.Spec PyProof.Rows L2 ML

theorem run_is_name (k : Nat) : run (k + 1) fn_is_name = defM true 2 (m_is_name (run k)) := rfl
def NM : Str := "abcdefghijklmnopqrstuvwxyz0123456789"
def LT : Str := "abcdefghijklmnopqrstuvwxyz"
def DG' : Str := "0123456789"
def nameB (cs : List Nat) : Bool := decide (1 ≤ cs.length) && decide (cs.length ≤ 12) && (match cs[0]? with | some c => decide (c ∈ LT.cps.toList) | none => false) && cs.all fun c => decide (c ∈ NM.cps.toList)
theorem lc_chars {cs : List Nat} {vs : List Nat} {gf : Dv → Env' → M Env'} {ft : Env' → M Bool} {fe : Env' → M Dv} {fi : Env' → M Sr} {env : Env'} {S : Sto} {P : Rs Dv → Prop} (f : Nat → Option Dv) (hl : cs.length ≤ sizeLine)
    (hi : Wm (fi env) S fun r => r = .ok (fun _ => some (cs.map fun c => .str ⟨#[c]⟩)) S) (he : ∀ c ∈ cs, Wm (elM vs gf ft fe env (.str ⟨#[c]⟩)) S fun r => r = .ok (f c) S) : Wm (lcF fi vs gf ft fe env) S P ↔ P (.ok (.lst (cs.filterMap f)) S) :=
  lcF_map cs (fun c => .str ⟨#[c]⟩) f hi rfl hl he
theorem NM_eq : NM.cps.toList = LT.cps.toList ++ DG'.cps.toList := by decide +kernel
theorem LT_DG : ∀ c ∈ LT.cps.toList, c ∉ DG'.cps.toList := by decide +kernel
theorem sp_is_name' (k : Nat) (cs : List Nat) (h : cs.length ≤ 100) (S : Sto) (B : Bool) (hB : B = nameB cs) : run (k + 1) fn_is_name [.str ⟨⟨cs⟩⟩] S = some (.ok (.bl B) S) := by
  apply wm_run
  rw [run_is_name, wm_def, m_is_name]
  have hz := szl
  have hl : cs.length ≤ sizeLine := by omega
  have key : ∀ P, Wm (lcF (iVal (getv 0)) [1] (gSet 1) tYes' (eOp inD (getv 1) (eC (Dv.str "abcdefghijklmnopqrstuvwxyz0123456789"))) [some (Dv.str ⟨⟨cs⟩⟩), none]) S P ↔ P (.ok (.lst (cs.map fun c => .bl (decide (c ∈ NM.cps.toList)))) S) := fun P => by
    rw [lc_chars (fun c => some (.bl (decide (c ∈ NM.cps.toList)))) hl (by simp) (by intro c hc; simp; rfl)]
    simp
  have dg : ∀ c : Nat, (c ∈ (Str.ofString "0123456789").cps) = (c ∈ DG'.cps.toList) := fun c => by rw [Array.mem_toList_iff]; rfl
  unfold nameB at hB
  cases h0 : cs[0]? with
  | none =>
    have : cs = [] := by
      cases cs with
      | nil => rfl
      | cons a r => simp at h0
    subst this
    subst hB
    simp
  | some c =>
    have hc : c ∈ cs := List.mem_of_getElem? h0
    have h1 : 1 ≤ cs.length := by
      cases cs with
      | nil => cases hc
      | cons a r => simp
    rw [h0] at hB
    simp only [h1, decide_true, Bool.true_and] at hB
    simp [hl, key, h0, dg, -Array.mem_toList_iff]
    have hD : (Str.ofString "0123456789").cps.toList = DG'.cps.toList := rfl
    rw [hD, if_pos (by omega)]
    split
    · rw [hB, decide_eq_false (by omega)]
      rfl
    · split
      · rename_i hd
        rw [hB, decide_eq_false (p := c ∈ LT.cps.toList) fun h => LT_DG c h hd]
        simp
      · rename_i hd
        rw [hB, decide_eq_true (by omega : cs.length ≤ 12)]
        cases ha : cs.all fun x => decide (x ∈ NM.cps.toList) with
        | false => simp
        | true =>
          have h2 := of_decide_eq_true (List.all_eq_true.mp ha c hc)
          rw [NM_eq, List.mem_append] at h2
          rcases h2 with h2 | h2
          · rw [decide_eq_true h2]; rfl
          · exact absurd h2 hd
end L05

namespace L05
open PySem PySem.Spec PyProof.Rows L2 ML

@[simp] theorem ne_names_numbers : ¬ (Str.ofString "names" = Str.ofString "numbers") := by decide +kernel
@[simp] theorem ne_names_checks : ¬ (Str.ofString "names" = Str.ofString "checks") := by decide +kernel
@[simp] theorem ne_names_parts : ¬ (Str.ofString "names" = Str.ofString "parts") := by decide +kernel
@[simp] theorem ne_names_bounds : ¬ (Str.ofString "names" = Str.ofString "bounds") := by decide +kernel
@[simp] theorem ne_numbers_names : ¬ (Str.ofString "numbers" = Str.ofString "names") := by decide +kernel
@[simp] theorem ne_numbers_checks : ¬ (Str.ofString "numbers" = Str.ofString "checks") := by decide +kernel
@[simp] theorem ne_numbers_parts : ¬ (Str.ofString "numbers" = Str.ofString "parts") := by decide +kernel
@[simp] theorem ne_numbers_bounds : ¬ (Str.ofString "numbers" = Str.ofString "bounds") := by decide +kernel
@[simp] theorem ne_checks_names : ¬ (Str.ofString "checks" = Str.ofString "names") := by decide +kernel
@[simp] theorem ne_checks_numbers : ¬ (Str.ofString "checks" = Str.ofString "numbers") := by decide +kernel
@[simp] theorem ne_checks_parts : ¬ (Str.ofString "checks" = Str.ofString "parts") := by decide +kernel
@[simp] theorem ne_checks_bounds : ¬ (Str.ofString "checks" = Str.ofString "bounds") := by decide +kernel
@[simp] theorem ne_parts_names : ¬ (Str.ofString "parts" = Str.ofString "names") := by decide +kernel
@[simp] theorem ne_parts_numbers : ¬ (Str.ofString "parts" = Str.ofString "numbers") := by decide +kernel
@[simp] theorem ne_parts_checks : ¬ (Str.ofString "parts" = Str.ofString "checks") := by decide +kernel
@[simp] theorem ne_parts_bounds : ¬ (Str.ofString "parts" = Str.ofString "bounds") := by decide +kernel
@[simp] theorem ne_bounds_names : ¬ (Str.ofString "bounds" = Str.ofString "names") := by decide +kernel
@[simp] theorem ne_bounds_numbers : ¬ (Str.ofString "bounds" = Str.ofString "numbers") := by decide +kernel
@[simp] theorem ne_bounds_checks : ¬ (Str.ofString "bounds" = Str.ofString "checks") := by decide +kernel
@[simp] theorem ne_bounds_parts : ¬ (Str.ofString "bounds" = Str.ofString "parts") := by decide +kernel
@[simp] theorem ne_require_names : ¬ (Str.ofString "require" = Str.ofString "names") := by decide +kernel
@[simp] theorem ne_require_numbers : ¬ (Str.ofString "require" = Str.ofString "numbers") := by decide +kernel
@[simp] theorem ne_require_checks : ¬ (Str.ofString "require" = Str.ofString "checks") := by decide +kernel
@[simp] theorem ne_require_parts : ¬ (Str.ofString "require" = Str.ofString "parts") := by decide +kernel
@[simp] theorem ne_require_bounds : ¬ (Str.ofString "require" = Str.ofString "bounds") := by decide +kernel
@[simp] theorem ne_check_items_names : ¬ (Str.ofString "check_items" = Str.ofString "names") := by decide +kernel
@[simp] theorem ne_check_items_numbers : ¬ (Str.ofString "check_items" = Str.ofString "numbers") := by decide +kernel
@[simp] theorem ne_check_items_checks : ¬ (Str.ofString "check_items" = Str.ofString "checks") := by decide +kernel
@[simp] theorem ne_check_items_parts : ¬ (Str.ofString "check_items" = Str.ofString "parts") := by decide +kernel
@[simp] theorem ne_check_items_bounds : ¬ (Str.ofString "check_items" = Str.ofString "bounds") := by decide +kernel
@[simp] theorem ne_check_plain_names : ¬ (Str.ofString "check_plain" = Str.ofString "names") := by decide +kernel
@[simp] theorem ne_check_plain_numbers : ¬ (Str.ofString "check_plain" = Str.ofString "numbers") := by decide +kernel
@[simp] theorem ne_check_plain_checks : ¬ (Str.ofString "check_plain" = Str.ofString "checks") := by decide +kernel
@[simp] theorem ne_check_plain_parts : ¬ (Str.ofString "check_plain" = Str.ofString "parts") := by decide +kernel
@[simp] theorem ne_check_plain_bounds : ¬ (Str.ofString "check_plain" = Str.ofString "bounds") := by decide +kernel
@[simp] theorem ne_check_uses_names : ¬ (Str.ofString "check_uses" = Str.ofString "names") := by decide +kernel
@[simp] theorem ne_check_uses_numbers : ¬ (Str.ofString "check_uses" = Str.ofString "numbers") := by decide +kernel
@[simp] theorem ne_check_uses_checks : ¬ (Str.ofString "check_uses" = Str.ofString "checks") := by decide +kernel
@[simp] theorem ne_check_uses_parts : ¬ (Str.ofString "check_uses" = Str.ofString "parts") := by decide +kernel
@[simp] theorem ne_check_uses_bounds : ¬ (Str.ofString "check_uses" = Str.ofString "bounds") := by decide +kernel
@[simp] theorem ne_check_lengths_names : ¬ (Str.ofString "check_lengths" = Str.ofString "names") := by decide +kernel
@[simp] theorem ne_check_lengths_numbers : ¬ (Str.ofString "check_lengths" = Str.ofString "numbers") := by decide +kernel
@[simp] theorem ne_check_lengths_checks : ¬ (Str.ofString "check_lengths" = Str.ofString "checks") := by decide +kernel
@[simp] theorem ne_check_lengths_parts : ¬ (Str.ofString "check_lengths" = Str.ofString "parts") := by decide +kernel
@[simp] theorem ne_check_lengths_bounds : ¬ (Str.ofString "check_lengths" = Str.ofString "bounds") := by decide +kernel
@[simp] theorem so_number : PyData.strOk (Str.ofString "number") = true := by decide +kernel
@[simp] theorem ne_number_bytes : ¬ (Str.ofString "number" = Str.ofString "bytes") := by decide +kernel
@[simp] theorem ne_number_text : ¬ (Str.ofString "number" = Str.ofString "text") := by decide +kernel
@[simp] theorem ne_number_check : ¬ (Str.ofString "number" = Str.ofString "check") := by decide +kernel
@[simp] theorem ne_number_pad : ¬ (Str.ofString "number" = Str.ofString "pad") := by decide +kernel
@[simp] theorem ne_number_either : ¬ (Str.ofString "number" = Str.ofString "either") := by decide +kernel
@[simp] theorem ne_number_repeat : ¬ (Str.ofString "number" = Str.ofString "repeat") := by decide +kernel
@[simp] theorem ne_number_switch : ¬ (Str.ofString "number" = Str.ofString "switch") := by decide +kernel
@[simp] theorem so_bytes : PyData.strOk (Str.ofString "bytes") = true := by decide +kernel
@[simp] theorem ne_bytes_number : ¬ (Str.ofString "bytes" = Str.ofString "number") := by decide +kernel
@[simp] theorem ne_bytes_text : ¬ (Str.ofString "bytes" = Str.ofString "text") := by decide +kernel
@[simp] theorem ne_bytes_check : ¬ (Str.ofString "bytes" = Str.ofString "check") := by decide +kernel
@[simp] theorem ne_bytes_pad : ¬ (Str.ofString "bytes" = Str.ofString "pad") := by decide +kernel
@[simp] theorem ne_bytes_either : ¬ (Str.ofString "bytes" = Str.ofString "either") := by decide +kernel
@[simp] theorem ne_bytes_repeat : ¬ (Str.ofString "bytes" = Str.ofString "repeat") := by decide +kernel
@[simp] theorem ne_bytes_switch : ¬ (Str.ofString "bytes" = Str.ofString "switch") := by decide +kernel
@[simp] theorem so_text : PyData.strOk (Str.ofString "text") = true := by decide +kernel
@[simp] theorem ne_text_number : ¬ (Str.ofString "text" = Str.ofString "number") := by decide +kernel
@[simp] theorem ne_text_bytes : ¬ (Str.ofString "text" = Str.ofString "bytes") := by decide +kernel
@[simp] theorem ne_text_check : ¬ (Str.ofString "text" = Str.ofString "check") := by decide +kernel
@[simp] theorem ne_text_pad : ¬ (Str.ofString "text" = Str.ofString "pad") := by decide +kernel
@[simp] theorem ne_text_either : ¬ (Str.ofString "text" = Str.ofString "either") := by decide +kernel
@[simp] theorem ne_text_repeat : ¬ (Str.ofString "text" = Str.ofString "repeat") := by decide +kernel
@[simp] theorem ne_text_switch : ¬ (Str.ofString "text" = Str.ofString "switch") := by decide +kernel
@[simp] theorem so_check : PyData.strOk (Str.ofString "check") = true := by decide +kernel
@[simp] theorem ne_check_number : ¬ (Str.ofString "check" = Str.ofString "number") := by decide +kernel
@[simp] theorem ne_check_bytes : ¬ (Str.ofString "check" = Str.ofString "bytes") := by decide +kernel
@[simp] theorem ne_check_text : ¬ (Str.ofString "check" = Str.ofString "text") := by decide +kernel
@[simp] theorem ne_check_pad : ¬ (Str.ofString "check" = Str.ofString "pad") := by decide +kernel
@[simp] theorem ne_check_either : ¬ (Str.ofString "check" = Str.ofString "either") := by decide +kernel
@[simp] theorem ne_check_repeat : ¬ (Str.ofString "check" = Str.ofString "repeat") := by decide +kernel
@[simp] theorem ne_check_switch : ¬ (Str.ofString "check" = Str.ofString "switch") := by decide +kernel
@[simp] theorem so_pad : PyData.strOk (Str.ofString "pad") = true := by decide +kernel
@[simp] theorem ne_pad_number : ¬ (Str.ofString "pad" = Str.ofString "number") := by decide +kernel
@[simp] theorem ne_pad_bytes : ¬ (Str.ofString "pad" = Str.ofString "bytes") := by decide +kernel
@[simp] theorem ne_pad_text : ¬ (Str.ofString "pad" = Str.ofString "text") := by decide +kernel
@[simp] theorem ne_pad_check : ¬ (Str.ofString "pad" = Str.ofString "check") := by decide +kernel
@[simp] theorem ne_pad_either : ¬ (Str.ofString "pad" = Str.ofString "either") := by decide +kernel
@[simp] theorem ne_pad_repeat : ¬ (Str.ofString "pad" = Str.ofString "repeat") := by decide +kernel
@[simp] theorem ne_pad_switch : ¬ (Str.ofString "pad" = Str.ofString "switch") := by decide +kernel
@[simp] theorem so_either : PyData.strOk (Str.ofString "either") = true := by decide +kernel
@[simp] theorem ne_either_number : ¬ (Str.ofString "either" = Str.ofString "number") := by decide +kernel
@[simp] theorem ne_either_bytes : ¬ (Str.ofString "either" = Str.ofString "bytes") := by decide +kernel
@[simp] theorem ne_either_text : ¬ (Str.ofString "either" = Str.ofString "text") := by decide +kernel
@[simp] theorem ne_either_check : ¬ (Str.ofString "either" = Str.ofString "check") := by decide +kernel
@[simp] theorem ne_either_pad : ¬ (Str.ofString "either" = Str.ofString "pad") := by decide +kernel
@[simp] theorem ne_either_repeat : ¬ (Str.ofString "either" = Str.ofString "repeat") := by decide +kernel
@[simp] theorem ne_either_switch : ¬ (Str.ofString "either" = Str.ofString "switch") := by decide +kernel
@[simp] theorem so_repeat : PyData.strOk (Str.ofString "repeat") = true := by decide +kernel
@[simp] theorem ne_repeat_number : ¬ (Str.ofString "repeat" = Str.ofString "number") := by decide +kernel
@[simp] theorem ne_repeat_bytes : ¬ (Str.ofString "repeat" = Str.ofString "bytes") := by decide +kernel
@[simp] theorem ne_repeat_text : ¬ (Str.ofString "repeat" = Str.ofString "text") := by decide +kernel
@[simp] theorem ne_repeat_check : ¬ (Str.ofString "repeat" = Str.ofString "check") := by decide +kernel
@[simp] theorem ne_repeat_pad : ¬ (Str.ofString "repeat" = Str.ofString "pad") := by decide +kernel
@[simp] theorem ne_repeat_either : ¬ (Str.ofString "repeat" = Str.ofString "either") := by decide +kernel
@[simp] theorem ne_repeat_switch : ¬ (Str.ofString "repeat" = Str.ofString "switch") := by decide +kernel
@[simp] theorem so_switch : PyData.strOk (Str.ofString "switch") = true := by decide +kernel
@[simp] theorem ne_switch_number : ¬ (Str.ofString "switch" = Str.ofString "number") := by decide +kernel
@[simp] theorem ne_switch_bytes : ¬ (Str.ofString "switch" = Str.ofString "bytes") := by decide +kernel
@[simp] theorem ne_switch_text : ¬ (Str.ofString "switch" = Str.ofString "text") := by decide +kernel
@[simp] theorem ne_switch_check : ¬ (Str.ofString "switch" = Str.ofString "check") := by decide +kernel
@[simp] theorem ne_switch_pad : ¬ (Str.ofString "switch" = Str.ofString "pad") := by decide +kernel
@[simp] theorem ne_switch_either : ¬ (Str.ofString "switch" = Str.ofString "either") := by decide +kernel
@[simp] theorem ne_switch_repeat : ¬ (Str.ofString "switch" = Str.ofString "repeat") := by decide +kernel
theorem rn_ShapeCheck____init__ (k : Nat) : run (k + 1) fn_ShapeCheck____init__ = defM true 1 (m_ShapeCheck____init__ (run k)) := rfl
theorem rn_ShapeCheck__require (k : Nat) : run (k + 1) fn_ShapeCheck__require = defM true 2 (m_ShapeCheck__require (run k)) := rfl
theorem rn_is_byte (k : Nat) : run (k + 1) fn_is_byte = defM true 1 (m_is_byte (run k)) := rfl
theorem rn_ShapeCheck__check_plain (k : Nat) : run (k + 1) fn_ShapeCheck__check_plain = defM true 6 (m_ShapeCheck__check_plain (run k)) := rfl
theorem rn_bounds (k : Nat) : run (k + 1) fn_bounds = defM true 2 (m_bounds (run k)) := rfl
theorem rn_ShapeCheck__check_uses (k : Nat) : run (k + 1) fn_ShapeCheck__check_uses = defM true 6 (m_ShapeCheck__check_uses (run k)) := rfl
theorem rn_blocks_of (k : Nat) : run (k + 1) fn_blocks_of = defM true 3 (m_blocks_of (run k)) := rfl
theorem rn_least_of (k : Nat) : run (k + 1) fn_least_of = defM true 3 (m_least_of (run k)) := rfl
theorem rn_least_of_items (k : Nat) : run (k + 1) fn_least_of_items = defM true 3 (m_least_of_items (run k)) := rfl
theorem rn_ShapeCheck__check_lengths (k : Nat) : run (k + 1) fn_ShapeCheck__check_lengths = defM true 4 (m_ShapeCheck__check_lengths (run k)) := rfl
theorem rn_is_name (k : Nat) : run (k + 1) fn_is_name = defM true 2 (m_is_name (run k)) := rfl
theorem rn_ShapeCheck__check_items (k : Nat) : run (k + 1) fn_ShapeCheck__check_items = defM true 7 (m_ShapeCheck__check_items (run k)) := rfl
theorem rn_copied (k : Nat) : run (k + 1) fn_copied = defM true 3 (m_copied (run k)) := rfl
theorem rn_copied_items (k : Nat) : run (k + 1) fn_copied_items = defM true 2 (m_copied_items (run k)) := rfl
theorem rn_Shape____init__ (k : Nat) : run (k + 1) fn_Shape____init__ = defM true 4 (m_Shape____init__ (run k)) := rfl
theorem rn__law_row (k : Nat) : run (k + 1) fn__law_row = defM true 6 (m__law_row (run k)) := rfl
theorem rn__law_numbers (k : Nat) : run (k + 1) fn__law_numbers = defM true 7 (m__law_numbers (run k)) := rfl
theorem rn__law_begin (k : Nat) : run (k + 1) fn__law_begin = defM false 7 (m__law_begin (run k)) := rfl
theorem rn__law_next (k : Nat) : run (k + 1) fn__law_next = defM true 2 (m__law_next (run k)) := rfl
theorem rn__law_use (k : Nat) : run (k + 1) fn__law_use = defM true 5 (m__law_use (run k)) := rfl
theorem rn__law_number (k : Nat) : run (k + 1) fn__law_number = defM true 6 (m__law_number (run k)) := rfl
theorem rn__law_block (k : Nat) : run (k + 1) fn__law_block = defM true 6 (m__law_block (run k)) := rfl
theorem rn__law_nested (k : Nat) : run (k + 1) fn__law_nested = defM true 11 (m__law_nested (run k)) := rfl
theorem rn__law_item (k : Nat) : run (k + 1) fn__law_item = defM true 4 (m__law_item (run k)) := rfl
theorem rn__law_items (k : Nat) : run (k + 1) fn__law_items = defM true 8 (m__law_items (run k)) := rfl
theorem rn_format_items (k : Nat) : run (k + 1) fn_format_items = defM true 6 (m_format_items (run k)) := rfl
theorem rn_format_shape (k : Nat) : run (k + 1) fn_format_shape = defM true 1 (m_format_shape (run k)) := rfl
theorem rn__law_lines (k : Nat) : run (k + 1) fn__law_lines = defM true 7 (m__law_lines (run k)) := rfl
theorem rn__law_frozen (k : Nat) : run (k + 1) fn__law_frozen = defM true 5 (m__law_frozen (run k)) := rfl
theorem rn_law (k : Nat) : run (k + 1) fn_law = defM true 7 (m_law (run k)) := rfl
theorem leaveN {frz : Bool} {S : Sto} : leaveD frz S.length .non S = .ok .non S := leaveD_non
theorem wm_require {k : Nat} {b : Bool} {n : Nat} {S : Sto} {P : Rs Dv → Prop} : Wm (run (k + 1) fn_ShapeCheck__require [.ref n, .bl b]) S P ↔ if b = true then P (.ok .non S) else P (.er ⟨"InvalidShape", []⟩ S) := by
  rw [rn_ShapeCheck__require, wm_def, m_ShapeCheck__require]
  cases b <;> simp [gcS_self]
/-- a new ShapeCheck -/
def chk (n : Nat) : Cell := .ins "ShapeCheck" [("names", .ref n), ("numbers", .ref (n + 1)), ("checks", .int 0)]
theorem wm_cinit {k : Nat} {S : Sto} {P : Rs Dv → Prop} : Wm (run (k + 1) fn_ShapeCheck____init__ [.ref S.length]) (S ++ [.ins "ShapeCheck" []]) P ↔ P (.ok .non (gcS (S.length + 1) .non (S ++ [chk (S.length + 1), .lst [], .dct []]))) := by
  rw [rn_ShapeCheck____init__, wm_def, m_ShapeCheck____init__]
  simp [putD, chk]
theorem lk_ins {m : Str} {fs : List (Str × Dv)} {c : Str} {n : Nat} {S : Sto} {P : Rs Unit → Prop} (h : S[n]? = some (.ins c fs)) (hm : fs.lookup m = none) : Wm (chkI c m (.ref n)) S P ↔ P (.ok () S) := by
  rw [wm_chkI, h]
  simp only [insAt, wopt_some, hm]
  simp
/-- the plain check of a number of one byte -/
theorem plain_number (k : Nat) (t : Str) (lo hi : Int) (h0 : 0 ≤ lo) (h1 : lo ≤ hi) (h2 : hi ≤ 255) (n : Nat) (S : Sto) (fs : List (Str × Dv)) (hS : S[n]? = some (.ins "ShapeCheck" fs)) (hf : fs.lookup ("require" : Str) = none) (P : Rs Dv → Prop) :
    Wm (run (k + 2) fn_ShapeCheck__check_plain [.ref n, .tup [.str "number", .str t, .int 1, .str "big", .int lo, .int hi]]) S P ↔ P (.ok .non S) := by
  rw [rn_ShapeCheck__check_plain, wm_def, m_ShapeCheck__check_plain]
  have e1 : (k_GREATEST.lookup 1) = some (.int 255) := rfl
  have ti : ∀ S, inD S (.str "big") (.tup [.str "big", .str "little"]) = some (.bl true) := fun S => by
    rw [op_inTup (by rfl)]
    rfl
  simp [lk_ins hS hf, wm_require, e1, ti]
  rw [if_pos h0, if_pos h1, if_pos h2, gcS_self]
end L05

namespace L05
open PySem PySem.Spec PyProof.Rows L2 ML

theorem wm_is_name {k : Nat} {t : Str} (h : t.length ≤ 100) {S : Sto} {P : Rs Dv → Prop} : Wm (run (k + 1) fn_is_name [.str t]) S P ↔ P (.ok (.bl (nameB t.cps.toList)) S) := by
  obtain ⟨⟨cs⟩⟩ := t
  exact wm_eq (sp_is_name' k cs h S _ rfl)
theorem bind_ws {f : SF} {env : Env'} {S : Sto} {i : Nat} {r : So} (h : Ws f env S fun o => goneS i o = some r) : (f env S).bind (goneS i) = some r := by
  obtain ⟨o, e, p⟩ := h
  rw [e]
  exact p
end L05

namespace L05
open PySem PySem.Spec PyProof.Rows L2 ML

/-! ### items of shapes, and what a check says of them -/
/-- a length or a count: a number that is told, or the name of one -/
inductive Use where
  | num (i : Int)
  | nam (n : Str)
def Use.dv : Use → Dv
  | .num i => .int i
  | .nam n => .str n
inductive It where
  | number (n : Str) (sz : Int) (o : Str) (lo hi : Int)
  | bytes (n : Str) (u : Use)
  | text (n : Str) (e m : Int)
  | check (n : Str) (m : Int)
  | pad (n : Str) (m f : Int)
  | rep (n : Str) (u : Use) (b : List It)
  | eit (n : Str) (bs : List (List It))
  | swi (n : Str) (w : Str) (vs : List Int) (bs : List (List It))
  | odd (k : Str) (r : List Dv)
/-- the cases of a switch: their values, and their blocks -/
def CasesR : List Dv → List Int → List Dv → Prop
  | [], [], [] => True
  | c :: cs, v :: vs, d :: ds => c = .tup [.int v, d] ∧ CasesR cs vs ds
  | _, _, _ => False
mutual
/-- d is this item in the store T -/
def IsI (T : Sto) (d : Dv) : It → Prop
  | .number n sz o lo hi => seqOf T d = some [.str "number", .str n, .int sz, .str o, .int lo, .int hi]
  | .bytes n u => seqOf T d = some [.str "bytes", .str n, u.dv]
  | .text n e m => seqOf T d = some [.str "text", .str n, .int e, .int m]
  | .check n m => seqOf T d = some [.str "check", .str n, .int m]
  | .pad n m f => seqOf T d = some [.str "pad", .str n, .int m, .int f]
  | .rep n u b => ∃ db, seqOf T d = some [.str "repeat", .str n, u.dv, db] ∧ ∃ ds, seqOf T db = some ds ∧ IsL T ds b
  | .eit n bs => ∃ db ds, seqOf T d = some [.str "either", .str n, db] ∧ seqOf T db = some ds ∧ IsB T ds bs
  | .swi n w vs bs => ∃ db cs ds, seqOf T d = some [.str "switch", .str n, .str w, db] ∧ seqOf T db = some cs ∧ CasesR cs vs ds ∧ IsB T ds bs
  | .odd k r => seqOf T d = some (.str k :: r)
/-- these are the items -/
def IsL (T : Sto) (ds : List Dv) : List It → Prop
  | [] => ds = []
  | i :: r => ∃ d t, ds = d :: t ∧ IsI T d i ∧ IsL T t r
/-- these are the blocks -/
def IsB (T : Sto) (ds : List Dv) : List (List It) → Prop
  | [] => ds = []
  | b :: r => ∃ d t, ds = d :: t ∧ (∃ l, seqOf T d = some l ∧ IsL T l b) ∧ IsB T t r
end
def okS (t : Str) : Prop := t.length ≤ 100 ∧ PyData.strOk t = true
def Use.wf : Use → Prop
  | .num _ => True
  | .nam n => okS n
def It.nm : It → Str
  | .number n .. => n
  | .bytes n _ => n
  | .text n .. => n
  | .check n _ => n
  | .pad n .. => n
  | .rep n .. => n
  | .eit n _ => n
  | .swi n .. => n
  | .odd _ _ => ""
def It.blocks : It → List (List It)
  | .rep _ _ b => [b]
  | .eit _ bs => bs
  | .swi _ _ _ bs => bs
  | _ => []
mutual
/-- the texts of the items are short; the odd ones have no form of an item -/
def WfI : It → Prop
  | .number n _ o _ _ => okS n ∧ okS o
  | .bytes n u => okS n ∧ u.wf
  | .text n _ _ => okS n
  | .check n _ => okS n
  | .pad n _ _ => okS n
  | .rep n u b => okS n ∧ u.wf ∧ WfL b
  | .eit n bs => okS n ∧ bs.length ≤ 1000 ∧ WfB bs
  | .swi n w vs bs => okS n ∧ okS w ∧ vs.length ≤ 1000 ∧ vs.length = bs.length ∧ WfB bs
  | .odd k r => okS k ∧ r.length ≤ 1000 ∧ (r = [] ∨ k_PARTS.lookup k ≠ some (.int (r.length + 1)))
def WfL : List It → Prop
  | [] => True
  | i :: r => WfI i ∧ WfL r
def WfB : List (List It) → Prop
  | [] => True
  | b :: r => WfL b ∧ WfB r
end
mutual
/-- how deep an item is -/
def hI : It → Nat
  | .rep _ _ b => hL b + 1
  | .eit _ bs => hB bs + 1
  | .swi _ _ _ bs => hB bs + 1
  | _ => 0
def hL : List It → Nat
  | [] => 0
  | i :: r => max (hI i) (hL r)
def hB : List (List It) → Nat
  | [] => 0
  | b :: r => max (hL b) (hB r)
end
abbrev Nums := List (Str × Int × Int)
def bnd (nums : Nums) : Use → Int × Int
  | .num i => (i, i)
  | .nam n => (nums.lookup n).getD (0, 0)
mutual
/-- the least length -/
def leastI (nums : Nums) : It → Int
  | .number _ sz _ _ _ => sz
  | .bytes _ u => (bnd nums u).1
  | .rep _ u b => (bnd nums u).1 * leastL nums b
  | .eit _ bs => minL (leastB nums bs)
  | .swi _ _ _ bs => minL (leastB nums bs)
  | .pad .. => 0
  | _ => 1
def leastL (nums : Nums) : List It → Int
  | [] => 0
  | i :: r => leastI nums i + leastL nums r
def leastB (nums : Nums) : List (List It) → List Int
  | [] => []
  | b :: r => leastL nums b :: leastB nums r
end
def Use.res (nums : Nums) : Use → Prop
  | .num _ => True
  | .nam n => (nums.lookup n).isSome = true
mutual
/-- every length is known, counts are small -/
def ResI (nums : Nums) : It → Prop
  | .bytes _ u => u.res nums
  | .rep _ u b => (u.res nums ∧ 0 ≤ (bnd nums u).2 ∧ (bnd nums u).2 ≤ 16) ∧ 0 ≤ (bnd nums u).1 ∧ (bnd nums u).1 ≤ 16 ∧ b.length ≤ 12 ∧ ResL nums b
  | .eit _ bs => bs ≠ [] ∧ bs.length ≤ 8 ∧ ResB nums bs
  | .swi _ _ vs bs => bs ≠ [] ∧ bs.length ≤ 8 ∧ vs.length = bs.length ∧ ResB nums bs
  | .odd _ _ => False
  | _ => True
def ResL (nums : Nums) : List It → Prop
  | [] => True
  | i :: r => ResI nums i ∧ ResL nums r
def ResB (nums : Nums) : List (List It) → Prop
  | [] => True
  | b :: r => b.length ≤ 12 ∧ ResL nums b ∧ ResB nums r
end
/-- what a check knows -/
structure CSt where
  names : List Str
  nums : Nums
  checks : Int
noncomputable section
open Classical
def gr (sz : Int) : Int := if sz = 1 then 255 else 65535
def plainC (s : CSt) : It → Option CSt
  | .number _ sz o lo hi => if (sz = 1 ∨ sz = 2) ∧ (o = Str.ofString "big" ∨ o = Str.ofString "little") ∧ 0 ≤ lo ∧ lo ≤ hi ∧ hi ≤ gr sz then some s else none
  | .text _ e m => if (0 ≤ e ∧ e ≤ 255) ∧ 0 ≤ m ∧ m ≤ 64 then some s else none
  | .eit _ bs => if 2 ≤ bs.length ∧ bs.length ≤ 4 then some s else none
  | .swi _ _ vs _ => if (1 ≤ vs.length ∧ vs.length ≤ 8) ∧ (∀ v ∈ vs, 0 ≤ v ∧ v ≤ 65535) ∧ vs.Nodup then some s else none
  | .check _ m => if (1 ≤ m ∧ m ≤ 16) ∧ s.checks = 0 then some { s with checks := s.checks + 1 } else none
  | .pad _ m f => if (m = 1 ∨ m = 2 ∨ m = 4 ∨ m = 8 ∨ m = 16) ∧ 0 ≤ f ∧ f ≤ 255 then some s else none
  | _ => some s
def useOk (vis : List Str) (nums : Nums) (most : Int) (u : Use) : Prop :=
  (match u with | .num _ => True | .nam n => n ∈ vis) ∧ 0 ≤ (bnd nums u).1 ∧ (bnd nums u).2 ≤ most
def usesC (vis : List Str) (s : CSt) : It → Option CSt
  | .swi _ w _ _ => if w ∈ vis then some s else none
  | .bytes _ u => if useOk vis s.nums 64 u then some s else none
  | .rep _ u _ => if useOk vis s.nums 16 u then some s else none
  | _ => some s
def lengthsC (s : CSt) : It → Option CSt
  | .rep _ _ b => if 0 < leastL s.nums b then some s else none
  | .eit _ bs => if (leastB s.nums bs).count 0 ≤ 1 then some s else none
  | _ => some s
def numC (s : CSt) : It → CSt
  | .number n _ _ lo hi => { s with nums := s.nums ++ [(n, lo, hi)] }
  | _ => s
def visC (vis : List Str) : It → List Str
  | .number n _ _ _ _ => vis ++ [n]
  | _ => vis
def nameC (s : CSt) : It → Option CSt
  | .odd _ _ => none
  | i => if nameB i.nm.cps.toList = true ∧ i.nm ∉ s.names ∧ s.names.length < 30 then some { s with names := s.names ++ [i.nm] } else none
mutual
/-- the blocks of an item are checked -/
def innC (vis : List Str) (dp : Nat) (s : CSt) : It → Option CSt
  | .rep _ _ b => if b.length ≤ 12 ∧ dp + 1 ≤ 3 then itemsC vis (dp + 1) s b else none
  | .eit _ bs => blocksC vis dp s bs
  | .swi _ _ _ bs => blocksC vis dp s bs
  | _ => some s
def blocksC (vis : List Str) (dp : Nat) (s : CSt) : List (List It) → Option CSt
  | [] => some s
  | b :: r => (if b.length ≤ 12 ∧ dp + 1 ≤ 3 then itemsC vis (dp + 1) s b else none).bind fun s' => blocksC vis dp s' r
def itemsC (vis : List Str) (dp : Nat) (s : CSt) : List It → Option CSt
  | [] => some s
  | i :: r => (nameC s i).bind fun s1 => (plainC s1 i).bind fun s2 => (usesC vis s2 i).bind fun s3 => (innC vis dp s3 i).bind fun s4 => (lengthsC s4 i).bind fun s5 => itemsC (visC vis i) dp (numC s5 i) r
end
/-- the items of a block, or of a whole shape -/
def listC' (vis : List Str) (dp : Nat) (s : CSt) (b : List It) : Option CSt := if b.length ≤ 12 ∧ dp ≤ 3 then itemsC vis dp s b else none
/-- what a shape's check says -/
def shapeC (b : List It) : Option CSt := if 0 < b.length then listC' [] 0 ⟨[], [], 0⟩ b else none
end
end L05

namespace L05
open PySem PySem.Spec PyProof.Rows L2 ML

/-! ### containers of any kind -/
theorem seq_ix {S : Sto} {d : Dv} {l : List Dv} (h : seqOf S d = some l) (i : Int) : ixD S d (.int i) = L2.atI l i := by
  cases d with
  | tup l' => cases h; rfl
  | lst l' => cases h; rfl
  | scr l' => cases h; rfl
  | ref n =>
    show (listOf S (.ref n)).bind _ = _
    have : listOf S (.ref n) = some l := h
    rw [this]
    rfl
  | _ => cases h
theorem seq_len {S : Sto} {d : Dv} {l : List Dv} (h : seqOf S d = some l) : lenD S [d] = some (.int l.length) := by
  cases d with
  | tup l' => cases h; simp
  | lst l' => cases h; simp
  | scr l' => cases h; simp
  | ref n =>
    have : listOf S (.ref n) = some l := h
    rw [op_lenRef, this]
    rfl
  | _ => cases h
theorem seq_src {S : Sto} {d : Dv} {l : List Dv} (h : seqOf S d = some l) {P : Rs Sr → Prop} : Wm (srcOf d) S P ↔ P (.ok (fun S => seqOf S d) S) := by
  cases d with
  | tup l' => cases h; exact wm_srcT
  | lst l' => cases h; exact wm_srcL
  | scr l' => cases h; exact wm_srcScr
  | ref n =>
    have h : listOf S (.ref n) = some l := h
    refine wm_srcRef (l := l) ?_
    rw [list_ref] at h
    cases hc : S[n]? with
    | none => rw [hc] at h; cases h
    | some c => cases c with
      | lst l' => rw [hc] at h; cases h; rfl
      | _ => rw [hc] at h; cases h
  | _ => cases h
theorem seq_tup {S : Sto} {d : Dv} {l : List Dv} (h : seqOf S d = some l) (hl : l.length ≤ sizeLine) {P : Rs Dv → Prop} : Wm (tupleM [d]) S P ↔ P (.ok (.tup l) S) := by
  have key : ∀ e, listOf S d = some l → (tupleM [d] = fun S => match listOf S d with | some l => mkT l S | none => none) → tupleM [d] S = e → e = some (.ok (.tup l) S) := by
    intro e h1 h2 h3
    rw [← h3, h2]
    dsimp only
    rw [h1]
    show mkT l S = _
    unfold mkT
    rw [if_pos hl]
  cases d with
  | tup l' => cases h; exact wm_pure
  | lst l' => exact wm_eq (key _ h rfl rfl)
  | scr l' => exact wm_eq (key _ h rfl rfl)
  | ref n => exact wm_eq (key _ h rfl rfl)
  | _ => cases h
theorem seq_listL {S : Sto} {d : Dv} {l : List Dv} (h : seqOf S d = some l) (hl : l.length ≤ sizeLine) {P : Rs Dv → Prop} : Wm (listL [d]) S P ↔ P (.ok (.lst l) S) := by
  refine wm_eq ?_
  show (match seqOf S d with | some l => mkL l S | none => none) = _
  rw [h]
  show mkL l S = _
  unfold mkL
  rw [if_pos hl]
theorem seq_listC {S : Sto} {d : Dv} {l : List Dv} (h : seqOf S d = some l) (hl : l.length ≤ sizeLine) {P : Rs Dv → Prop} : Wm (listC [d]) S P ↔ P (.ok (.ref S.length) (S ++ [.lst l])) := by
  refine wm_eq ?_
  show (match seqOf S d with | some l => mkC l S | none => none) = _
  rw [h]
  show mkC l S = _
  unfold mkC
  rw [if_pos hl]
theorem seq_in {S : Sto} {d : Dv} {l : List Str} {w : Str} (h : seqOf S d = some (l.map .str)) : inD S (.str w) d = some (.bl (decide (w ∈ l))) := by
  have h1 : inS S (.str w) d = none := by
    cases d with
    | str z => cases h
    | _ => rfl
  unfold inD
  rw [h1]
  dsimp only
  unfold inQ
  rw [h]
  dsimp only
  have hf : (l.map Dv.str).all flatD = true := by
    have := flat_strs (g := fun x : Str => x) (l := l)
    simpa using this
  rw [if_pos ⟨rfl, hf⟩]
  have ha := any_strs (g := fun x : Str => x) (w := w) (l := l)
  simp only [Bool.false_eq_true, if_false]
  rw [ha]
  congr 2
  rw [Bool.eq_iff_iff]
  simp
theorem seq_nin {S : Sto} {d : Dv} {l : List Str} {w : Str} (h : seqOf S d = some (l.map .str)) : ninD S (.str w) d = some (.bl (decide (w ∉ l))) := by
  have h1 : ninS S (.str w) d = none := by
    cases d with
    | str z => cases h
    | _ => rfl
  unfold ninD
  rw [h1]
  dsimp only
  unfold inQ
  rw [h]
  dsimp only
  have hf : (l.map Dv.str).all flatD = true := by
    have := flat_strs (g := fun x : Str => x) (l := l)
    simpa using this
  rw [if_pos ⟨rfl, hf⟩]
  have ha := any_strs (g := fun x : Str => x) (w := w) (l := l)
  simp only [if_true]
  rw [ha]
  congr 2
  rw [Bool.eq_iff_iff]
  simp
  exact ⟨fun h m => h _ m rfl, fun h x m e => h (e ▸ m)⟩
theorem flat_ints {l : List Int} : (l.map Dv.int).all flatD = true := by
  rw [List.all_map, List.all_eq_true]
  intro x _
  rfl
theorem any_ints {w : Int} : ∀ {l : List Int}, ((l.map Dv.int).any fun y => eqF y (.int w)) = decide (w ∈ l)
  | [] => rfl
  | a :: r => by
    simp only [List.map_cons, List.any_cons, any_ints (l := r)]
    have : eqF (.int a) (.int w) = (a == w) := rfl
    rw [this, Bool.eq_iff_iff]
    simp only [Bool.or_eq_true, beq_iff_eq, decide_eq_true_eq, List.mem_cons]
    exact or_congr eq_comm Iff.rfl
theorem seq_inI {S : Sto} {d : Dv} {l : List Int} {w : Int} (h : seqOf S d = some (l.map .int)) : inD S (.int w) d = some (.bl (decide (w ∈ l))) := by
  have h1 : inS S (.int w) d = none := by
    cases d with
    | str z => cases h
    | _ => rfl
  unfold inD
  rw [h1]
  dsimp only
  unfold inQ
  rw [h]
  dsimp only
  rw [if_pos ⟨rfl, flat_ints⟩]
  simp only [Bool.false_eq_true, if_false]
  rw [any_ints]
theorem seq_ninI {S : Sto} {d : Dv} {l : List Int} {w : Int} (h : seqOf S d = some (l.map .int)) : ninD S (.int w) d = some (.bl (decide (w ∉ l))) := by
  have h1 : ninS S (.int w) d = none := by
    cases d with
    | str z => cases h
    | _ => rfl
  unfold ninD
  rw [h1]
  dsimp only
  unfold inQ
  rw [h]
  dsimp only
  rw [if_pos ⟨rfl, flat_ints⟩]
  simp only [if_true]
  rw [any_ints]
  simp
@[simp] theorem at_gTupM {n : Nat} {fs : List Dv → Env' → M Env'} {l : List Dv} {env : Env'} : gTupM n fs (.tup l) env = if l.length = n then fs l env else stuck := rfl
@[simp] theorem at_wipe2 (env : Env') (i j : Nat) : wipeE env [i, j] = (env.set j none).set i none := rfl
@[simp] theorem at_gsNil {env : Env'} : gsNil [] env = pure env := rfl
@[simp] theorem at_gsCons {f : Dv → Env' → M Env'} {fs : List Dv → Env' → M Env'} {d : Dv} {r : List Dv} {env : Env'} : gsCons f fs (d :: r) env = (f d env >>= fun e => fs r e) := rfl
@[simp] theorem at_gSubD (fo fi : Env' → M Dv) (d : Dv) (env : Env') : gSubD fo fi d env = (fo env >>= fun a => fi env >>= fun b => setDM a b d >>= fun _ => pure env) := rfl
def dctAt : Option Cell → Option (List (Key × Dv))
  | some (.dct l) => some l
  | _ => none
@[simp] theorem dctAt_dct {l : List (Key × Dv)} : dctAt (some (.dct l)) = some l := rfl
@[simp] theorem wm_setD {n : Nat} {b d : Dv} {S : Sto} {P : Rs Unit → Prop} : Wm (setDM (.ref n) b d) S P ↔ wopt (keyD b) fun k => wopt (dctAt S[n]?) fun l => l.length < sizeLine ∧ P (.ok () (S.set n (.dct (putKD l k d)))) := by
  have e : setDM (.ref n) b d S = match keyD b, (match S[n]? with | some (.dct l) => some (n, l) | _ => none) with
    | some k, some (n, l) => if l.length < sizeLine then some (.ok () (S.set n (.dct (putKD l k d)))) else none
    | _, _ => none := rfl
  unfold Wm
  rw [e]
  cases keyD b with
  | none => simp
  | some k =>
    cases S[n]? with
    | none => simp [dctAt]
    | some c => cases c with
      | dct l => by_cases h : l.length < sizeLine <;> simp [h]
      | _ => simp [dctAt]
@[simp] theorem keyD_str {n : Str} : keyD (.str n) = some (.inr n) := rfl
@[simp] theorem keyD_int {n : Int} : keyD (.int n) = some (.inl n) := rfl
/-! ### the store of a check -/
def chkC (p : Nat) (c : Int) : Cell := .ins "ShapeCheck" [("names", .ref (p + 2)), ("numbers", .ref (p + 3)), ("checks", .int c)]
def numD (nums : Nums) : List (Key × Dv) := nums.map fun x => (.inr x.1, .tup [.int x.2.1, .int x.2.2])
@[simp] theorem numD_len {nums : Nums} : (numD nums).length = nums.length := by simp [numD]
def cellsE (E : List (List Str)) : Sto := E.map fun l => .lst (l.map .str)
def stS (T : Sto) (s : CSt) (E : List (List Str)) : Sto := T ++ .ins "Shape" [] :: chkC T.length s.checks :: .lst (s.names.map .str) :: .dct (numD s.nums) :: cellsE E
theorem ap_ix {T X : Sto} {n : Nat} : (T ++ X)[T.length + n]? = X[n]? := by
  rw [List.getElem?_append_right (by omega)]
  congr 1
  omega
@[simp] theorem st_chk {T : Sto} {s : CSt} {E : List (List Str)} : (stS T s E)[T.length + 1]? = some (chkC T.length s.checks) := by unfold stS; rw [ap_ix]; rfl
@[simp] theorem st_nam {T : Sto} {s : CSt} {E : List (List Str)} : (stS T s E)[T.length + 2]? = some (.lst (s.names.map .str)) := by unfold stS; rw [ap_ix]; rfl
@[simp] theorem st_num {T : Sto} {s : CSt} {E : List (List Str)} : (stS T s E)[T.length + 3]? = some (.dct (numD s.nums)) := by unfold stS; rw [ap_ix]; rfl
@[simp] theorem st_len {T : Sto} {s : CSt} {E : List (List Str)} : (stS T s E).length = T.length + 4 + E.length := by
  simp [stS, cellsE]
  omega
@[simp] theorem st_top {T : Sto} {s : CSt} {E : List (List Str)} {v : List Str} : (stS T s (E ++ [v]))[T.length + 4 + E.length]? = some (.lst (v.map .str)) := by
  unfold stS
  rw [Nat.add_assoc, ap_ix, show 4 + E.length = E.length + 1 + 1 + 1 + 1 by omega]
  simp [cellsE]
theorem st_app {T : Sto} {s : CSt} {E : List (List Str)} {v : List Str} : stS T s E ++ [.lst (v.map .str)] = stS T s (E ++ [v]) := by
  simp [stS, cellsE]
theorem set_ap {T X : Sto} {n : Nat} {c : Cell} : (T ++ X).set (T.length + n) c = T ++ X.set n c := by
  rw [List.set_append_right _ _ (by omega)]
  congr 2
  omega
@[simp] theorem st_setChk {T : Sto} {s : CSt} {E : List (List Str)} {c : Int} : (stS T s E).set (T.length + 1) (chkC T.length c) = stS T { s with checks := c } E := by unfold stS; rw [set_ap]; rfl
@[simp] theorem st_setNam {T : Sto} {s : CSt} {E : List (List Str)} {n : Str} : (stS T s E).set (T.length + 2) (.lst (s.names.map .str ++ [.str n])) = stS T { s with names := s.names ++ [n] } E := by
  unfold stS; rw [set_ap]; simp
theorem st_setNum {T : Sto} {s : CSt} {E : List (List Str)} {l : Nums} : (stS T s E).set (T.length + 3) (.dct (numD l)) = stS T { s with nums := l } E := by
  unfold stS; rw [set_ap]; simp
@[simp] theorem st_setTop {T : Sto} {s : CSt} {E : List (List Str)} {v : List Str} {n : Str} : (stS T s (E ++ [v])).set (T.length + 4 + E.length) (.lst (v.map .str ++ [.str n])) = stS T s (E ++ [v ++ [n]]) := by
  unfold stS
  rw [Nat.add_assoc, set_ap, show 4 + E.length = E.length + 1 + 1 + 1 + 1 by omega]
  simp only [List.set_cons_succ]
  have : (cellsE (E ++ [v])).set E.length (.lst (v.map .str ++ [.str n])) = cellsE (E ++ [v ++ [n]]) := by
    have hl : E.length = (cellsE E).length := by simp [cellsE]
    rw [hl]
    simp [cellsE]
  rw [this]
theorem st_take {T : Sto} {s : CSt} {E : List (List Str)} : (stS T s E).take T.length = T := by simp [stS]
theorem seq_pre {T X : Sto} {d : Dv} {l : List Dv} (h : seqOf T d = some l) : seqOf (T ++ X) d = some l := by
  cases d with
  | ref n =>
    have h : listOf T (.ref n) = some l := h
    show listOf (T ++ X) (.ref n) = some l
    rw [list_ref] at h ⊢
    have hn : n < T.length := by
      rcases Nat.lt_or_ge n T.length with hn | hn
      · exact hn
      · rw [List.getElem?_eq_none hn] at h
        cases h
    rw [List.getElem?_append_left hn]
    exact h
  | _ => exact h
theorem st_seq {T : Sto} {d : Dv} {l : List Dv} (h : seqOf T d = some l) (s : CSt) (E : List (List Str)) : seqOf (stS T s E) d = some l := seq_pre h
theorem IsI_pre {T : Sto} (X : Sto) : ∀ {i : It} {d : Dv}, IsI T d i → IsI (T ++ X) d i := fun {i} => It.rec (motive_1 := fun i => ∀ {d : Dv}, IsI T d i → IsI (T ++ X) d i) (motive_2 := fun b => ∀ {ds : List Dv}, IsL T ds b → IsL (T ++ X) ds b) (motive_3 := fun bs => ∀ {ds : List Dv}, IsB T ds bs → IsB (T ++ X) ds bs)
  (fun _ _ _ _ _ {_} h => by unfold IsI at h ⊢; exact seq_pre h) (fun _ _ {_} h => by unfold IsI at h ⊢; exact seq_pre h) (fun _ _ _ {_} h => by unfold IsI at h ⊢; exact seq_pre h) (fun _ _ {_} h => by unfold IsI at h ⊢; exact seq_pre h) (fun _ _ _ {_} h => by unfold IsI at h ⊢; exact seq_pre h)
  (fun _ _ _ ih {_} h => by unfold IsI at h ⊢; obtain ⟨db, h1, ds, h2, h3⟩ := h; exact ⟨db, seq_pre h1, ds, seq_pre h2, ih h3⟩)
  (fun _ _ ih {_} h => by unfold IsI at h ⊢; obtain ⟨db, ds, h1, h2, h3⟩ := h; exact ⟨db, ds, seq_pre h1, seq_pre h2, ih h3⟩)
  (fun _ _ _ _ ih {_} h => by unfold IsI at h ⊢; obtain ⟨db, cs, ds, h1, h2, h3, h4⟩ := h; exact ⟨db, cs, ds, seq_pre h1, seq_pre h2, h3, ih h4⟩)
  (fun _ _ {_} h => by unfold IsI at h ⊢; exact seq_pre h)
  (fun {_} h => by unfold IsL at h ⊢; exact h) (fun _ _ ih1 ih2 {_} h => by unfold IsL at h ⊢; obtain ⟨d, t, rfl, h1, h2⟩ := h; exact ⟨d, t, rfl, ih1 h1, ih2 h2⟩)
  (fun {_} h => by unfold IsB at h ⊢; exact h) (fun _ _ ih1 ih2 {_} h => by unfold IsB at h ⊢; obtain ⟨d, t, rfl, ⟨l, h1, h2⟩, h3⟩ := h; exact ⟨d, t, rfl, ⟨l, seq_pre h1, ih1 h2⟩, ih2 h3⟩) i
@[simp] theorem st_gcs {T : Sto} {s : CSt} {E : List (List Str)} : gcS (T.length + 4 + E.length) .non (stS T s E) = stS T s E := by
  have e : T.length + 4 + E.length = (stS T s E).length := st_len.symm
  rw [e, gcS_self]
@[simp] theorem st_setChk' {T : Sto} {s : CSt} {E : List (List Str)} {c c0 : Int} : (stS T s E).set (T.length + 1) (.ins (Str.ofString "ShapeCheck") (putD (Str.ofString "checks") (.int c) [(Str.ofString "names", Dv.ref (T.length + 2)), (Str.ofString "numbers", Dv.ref (T.length + 3)), (Str.ofString "checks", Dv.int c0)])) = stS T { s with checks := c } E := by
  have e : Cell.ins (Str.ofString "ShapeCheck") (putD (Str.ofString "checks") (.int c) [(Str.ofString "names", Dv.ref (T.length + 2)), (Str.ofString "numbers", Dv.ref (T.length + 3)), (Str.ofString "checks", Dv.int c0)]) = chkC T.length c := by simp [putD, chkC]
  rw [e]
  exact st_setChk
/-- what the check answers -/
def chkR (T : Sto) (E : List (List Str)) (P : Rs Dv → Prop) : Option CSt → Prop
  | some s => P (.ok .non (stS T s E))
  | none => ∀ S' : Sto, S'.take T.length = T → P (.er ⟨"InvalidShape", []⟩ S')
@[simp] theorem chkR_some {T : Sto} {E : List (List Str)} {P : Rs Dv → Prop} {s : CSt} : chkR T E P (some s) = P (.ok .non (stS T s E)) := rfl
@[simp] theorem insAt_chkC (p : Nat) (c : Int) : insAt (some (chkC p c)) = some ((Str.ofString "ShapeCheck" : Str), ([((Str.ofString "names" : Str), Dv.ref (p + 2)), ((Str.ofString "numbers" : Str), Dv.ref (p + 3)), ((Str.ofString "checks" : Str), Dv.int c)] : List (Str × Dv))) := rfl
@[simp] theorem lk_names {a b c : Dv} : ([((Str.ofString "names"), a), ((Str.ofString "numbers"), b), ((Str.ofString "checks"), c)] : List (Str × Dv)).lookup (Str.ofString "names") = some a := rfl
@[simp] theorem lk_numbers {a b c : Dv} : ([((Str.ofString "names"), a), ((Str.ofString "numbers"), b), ((Str.ofString "checks"), c)] : List (Str × Dv)).lookup (Str.ofString "numbers") = some b := rfl
@[simp] theorem lk_checks {a b c : Dv} : ([((Str.ofString "names"), a), ((Str.ofString "numbers"), b), ((Str.ofString "checks"), c)] : List (Str × Dv)).lookup (Str.ofString "checks") = some c := rfl
theorem chk_meth {p : Nat} {c : Int} : ∀ m : Str, m ∈ (["require", "check_plain", "check_uses", "check_lengths", "check_items"] : List Str) → ([("names", Dv.ref (p + 2)), ("numbers", .ref (p + 3)), ("checks", .int c)] : List (Str × Dv)).lookup m = none := by
  intro m hm
  simp only [List.mem_cons, List.not_mem_nil, or_false] at hm
  rcases hm with rfl | rfl | rfl | rfl | rfl <;> rfl
theorem chk_c {T : Sto} {s : CSt} {E : List (List Str)} {m : Str} {P : Rs Unit → Prop} (hm : m ∈ (["require", "check_plain", "check_uses", "check_lengths", "check_items"] : List Str)) : Wm (chkI "ShapeCheck" m (.ref (T.length + 1))) (stS T s E) P ↔ P (.ok () (stS T s E)) := lk_ins st_chk (chk_meth m hm)
@[simp] theorem chk_c1 {T : Sto} {s : CSt} {E : List (List Str)} {P : Rs Unit → Prop} : Wm (chkI (Str.ofString "ShapeCheck") (Str.ofString "require") (.ref (T.length + 1))) (stS T s E) P ↔ P (.ok () (stS T s E)) := chk_c (by decide +kernel)
@[simp] theorem chk_c2 {T : Sto} {s : CSt} {E : List (List Str)} {P : Rs Unit → Prop} : Wm (chkI (Str.ofString "ShapeCheck") (Str.ofString "check_plain") (.ref (T.length + 1))) (stS T s E) P ↔ P (.ok () (stS T s E)) := chk_c (by decide +kernel)
@[simp] theorem chk_c3 {T : Sto} {s : CSt} {E : List (List Str)} {P : Rs Unit → Prop} : Wm (chkI (Str.ofString "ShapeCheck") (Str.ofString "check_uses") (.ref (T.length + 1))) (stS T s E) P ↔ P (.ok () (stS T s E)) := chk_c (by decide +kernel)
@[simp] theorem chk_c4 {T : Sto} {s : CSt} {E : List (List Str)} {P : Rs Unit → Prop} : Wm (chkI (Str.ofString "ShapeCheck") (Str.ofString "check_lengths") (.ref (T.length + 1))) (stS T s E) P ↔ P (.ok () (stS T s E)) := chk_c (by decide +kernel)
@[simp] theorem chk_c5 {T : Sto} {s : CSt} {E : List (List Str)} {P : Rs Unit → Prop} : Wm (chkI (Str.ofString "ShapeCheck") (Str.ofString "check_items") (.ref (T.length + 1))) (stS T s E) P ↔ P (.ok () (stS T s E)) := chk_c (by decide +kernel)
/-- require, within the store of a check -/
theorem wm_req {k : Nat} {b : Prop} [Decidable b] {T : Sto} {s : CSt} {E : List (List Str)} {P : Rs Dv → Prop} : Wm (run (k + 1) fn_ShapeCheck__require [.ref (T.length + 1), .bl (decide b)]) (stS T s E) P ↔ if b then P (.ok .non (stS T s E)) else P (.er ⟨"InvalidShape", []⟩ (stS T s E)) := by
  rw [wm_require]
  simp
mutual
theorem below_mono {n m : Nat} (h : n ≤ m) : ∀ {d : Dv}, below n d = true → below m d = true
  | .non, _ => rfl
  | .bl _, _ => rfl
  | .int _, _ => rfl
  | .str _, _ => rfl
  | .ty _, _ => rfl
  | .exc _, _ => rfl
  | .tup l, e => belows_mono h (l := l) e
  | .lst l, e => belows_mono h (l := l) e
  | .scr l, e => belows_mono h (l := l) e
  | .ref _, e => decide_eq_true (Nat.lt_of_lt_of_le (of_decide_eq_true e) h)
theorem belows_mono {n m : Nat} (h : n ≤ m) : ∀ {l : List Dv}, belows n l = true → belows m l = true
  | [], _ => rfl
  | d :: r, e => by
    unfold belows at e ⊢
    rw [Bool.and_eq_true] at e ⊢
    exact ⟨below_mono h e.1, belows_mono h e.2⟩
end
theorem belowC_mono {n m : Nat} (h : n ≤ m) {c : Cell} (e : belowC n c = true) : belowC m c = true := by
  cases c with
  | lst l => exact belows_mono h (l := l) e
  | dct kvs => exact List.all_eq_true.mpr fun p hp => below_mono h (List.all_eq_true.mp e p hp)
  | ins c fs => exact List.all_eq_true.mpr fun p hp => below_mono h (List.all_eq_true.mp e p hp)
  | dead => rfl
  | lck kvs => exact List.all_eq_true.mpr fun p hp => below_mono h (List.all_eq_true.mp e p hp)
/-- what was made inside a check is forgotten -/
theorem st_gc {T : Sto} {s : CSt} {E : List (List Str)} {v : List (List Str)} (hT : T.all (belowC T.length) = true) : gcS (T.length + 4 + E.length) .non (stS T s (E ++ v)) = stS T s E := by
  have ht : (stS T s (E ++ v)).take (T.length + 4 + E.length) = stS T s E := by
    have e : stS T s (E ++ v) = stS T s E ++ cellsE v := by simp [stS, cellsE]
    have hl : T.length + 4 + E.length = (stS T s E).length := st_len.symm
    rw [hl, e, List.take_left]
  unfold gcS
  rw [ht, if_pos]
  refine ⟨rfl, List.all_eq_true.mpr fun c hc => ?_⟩
  unfold stS at hc
  rcases List.mem_append.mp hc with hc | hc
  · exact belowC_mono (by omega) (List.all_eq_true.mp hT c hc)
  · simp only [List.mem_cons] at hc
    rcases hc with rfl | rfl | rfl | rfl | hc
    · rfl
    · simp only [chkC, belowC, List.all_cons, List.all_nil, below, Bool.and_true, Bool.and_eq_true, decide_eq_true_eq]
      omega
    · exact belows_strs
    · refine List.all_eq_true.mpr fun p hp => ?_
      obtain ⟨x, _, rfl⟩ := List.mem_map.mp hp
      rfl
    · obtain ⟨x, _, rfl⟩ := List.mem_map.mp hc
      exact belows_strs
end L05

namespace L05
open PySem PySem.Spec PyProof.Rows L2 ML

theorem lookD_numD {n : Str} : ∀ {nums : Nums}, lookD (numD nums) (.inr n) = (nums.lookup n).map fun p => .tup [.int p.1, .int p.2]
  | [] => rfl
  | (m, p) :: r => by
    by_cases h : m = n
    · subst h
      simp [lookD, numD]
    · have e1 : ¬ ((.inr m : Key) = .inr n) := fun q => h (Sum.inr.inj q)
      have e2 : (n == m) = false := by
        rw [beq_eq_false_iff_ne]
        exact fun q => h q.symm
      have ih := lookD_numD (n := n) (nums := r)
      simp only [lookD, numD] at ih
      simp only [lookD, numD, List.map_cons, List.find?_cons, e1, decide_false, List.lookup_cons, e2]
      exact ih
/-- bounds of a length or a count -/
theorem wm_bounds {k n : Nat} {S : Sto} {nums : Nums} {u : Use} (hn : S[n]? = some (.dct (numD nums))) (hr : u.res nums) {P : Rs Dv → Prop} :
    Wm (run (k + 1) fn_bounds [u.dv, .ref n]) S P ↔ P (.ok (.tup [.int (bnd nums u).1, .int (bnd nums u).2]) S) := by
  rw [rn_bounds, wm_def, m_bounds]
  have hz := szl
  have t1 : ∀ S (i : Int), isiD S [.int i, .ty "int"] = some (.bl true) := fun _ _ => rfl
  have t2 : ∀ S (i : Str), isiD S [.str i, .ty "int"] = some (.bl false) := fun _ _ => rfl
  cases u with
  | num i => simp [Use.dv, t1, bnd, hz]
  | nam m =>
    have hd : getDO S (.ref n) (.str m) = (nums.lookup m).map fun p => .tup [.int p.1, .int p.2] := by
      have e : getDO S (.ref n) (.str m) = lookD (numD nums) (.inr m) := by
        unfold getDO
        have : dctRd S (.ref n) = some (numD nums) := by
          show (match S[n]? with | some (.dct l) => some l | some (.lck l) => some l | _ => none) = _
          rw [hn]
        rw [this]
        rfl
      rw [e, lookD_numD]
    simp only [Use.res] at hr
    obtain ⟨p, hp⟩ := Option.isSome_iff_exists.mp hr
    simp [Use.dv, t2, bnd, hz, hd, hp]
theorem IsB_length {T : Sto} : ∀ {bs : List (List It)} {ds : List Dv}, IsB T ds bs → ds.length = bs.length
  | [], ds, h => by unfold IsB at h; rw [h]; rfl
  | b :: r, ds, h => by
    unfold IsB at h
    obtain ⟨d, t, rfl, _, h2⟩ := h
    simp [IsB_length h2]
theorem IsL_length {T : Sto} : ∀ {bs : List It} {ds : List Dv}, IsL T ds bs → ds.length = bs.length
  | [], ds, h => by unfold IsL at h; rw [h]; rfl
  | b :: r, ds, h => by
    unfold IsL at h
    obtain ⟨d, t, rfl, _, h2⟩ := h
    simp [IsL_length h2]
theorem IsL_zip {T : Sto} : ∀ {bs : List It} {ds : List Dv}, IsL T ds bs → ∃ z : List (Dv × It), ds = z.map (·.1) ∧ bs = z.map (·.2) ∧ ∀ p ∈ z, IsI T p.1 p.2
  | [], ds, h => by unfold IsL at h; rw [h]; exact ⟨[], rfl, rfl, by simp⟩
  | b :: r, ds, h => by
    unfold IsL at h
    obtain ⟨d, t, rfl, h1, h2⟩ := h
    obtain ⟨z, rfl, rfl, h3⟩ := IsL_zip h2
    refine ⟨(d, b) :: z, rfl, rfl, fun p hp => ?_⟩
    rcases List.mem_cons.mp hp with rfl | hp
    · exact h1
    · exact h3 p hp
theorem IsB_zip {T : Sto} : ∀ {bs : List (List It)} {ds : List Dv}, IsB T ds bs → ∃ z : List (Dv × List It), ds = z.map (·.1) ∧ bs = z.map (·.2) ∧ ∀ p ∈ z, ∃ l, seqOf T p.1 = some l ∧ IsL T l p.2
  | [], ds, h => by unfold IsB at h; rw [h]; exact ⟨[], rfl, rfl, by simp⟩
  | b :: r, ds, h => by
    unfold IsB at h
    obtain ⟨d, t, rfl, h1, h2⟩ := h
    obtain ⟨z, rfl, rfl, h3⟩ := IsB_zip h2
    refine ⟨(d, b) :: z, rfl, rfl, fun p hp => ?_⟩
    rcases List.mem_cons.mp hp with rfl | hp
    · exact h1
    · exact h3 p hp
theorem CasesR_zip : ∀ {cs : List Dv} {vs : List Int} {ds : List Dv}, CasesR cs vs ds → ∃ z : List (Int × Dv), cs = z.map (fun p => .tup [.int p.1, p.2]) ∧ vs = z.map (·.1) ∧ ds = z.map (·.2)
  | [], [], [], _ => ⟨[], rfl, rfl, rfl⟩
  | c :: cs, v :: vs, d :: ds, h => by
    obtain ⟨rfl, h2⟩ := h
    obtain ⟨z, rfl, rfl, rfl⟩ := CasesR_zip h2
    exact ⟨(v, d) :: z, rfl, rfl, rfl⟩
/-- the blocks of an item -/
theorem rn_blocksX {k : Nat} {S : Sto} {d : Dv} {i : It} (hi : IsI S d i) (hw : i.blocks.length ≤ 1000) (ho : ∀ a b, i ≠ .odd a b) : ∃ ds, IsB S ds i.blocks ∧ ∀ X P, Wm (run (k + 1) fn_blocks_of [d]) (S ++ X) P ↔ P (.ok (.lst ds) (S ++ X)) := by
  have hz := szl
  rw [rn_blocks_of]
  simp only [wm_def, m_blocks_of]
  cases i with
  | odd a b => exact absurd rfl (ho a b)
  | rep n u b =>
    unfold IsI at hi
    obtain ⟨db, hi, l, h1, h2⟩ := hi
    refine ⟨[db], ?_, fun X P => ?_⟩
    · simp only [It.blocks, IsB]
      exact ⟨db, [], rfl, ⟨l, h1, h2⟩, rfl⟩
    · have hs := seq_pre (X := X) hi
      have gs := fun d => gcS_self (d := d) (S := S ++ X)
      have gl := fun l => leaveD_lst (frz := true) (b := l) (S := S ++ X)
      simp only [List.length_append] at gs gl
      simp [seq_ix hs, hz, gl]
  | eit n bs =>
    unfold IsI at hi
    obtain ⟨db, l, hi, h1, h2⟩ := hi
    have hl : l.length ≤ sizeLine := by
      simp only [It.blocks] at hw
      rw [IsB_length h2]
      omega
    refine ⟨l, h2, fun X P => ?_⟩
    have hs := seq_pre (X := X) hi
    have hb := seq_pre (X := X) h1
    have gl := fun l => leaveD_lst (frz := true) (b := l) (S := S ++ X)
    simp only [List.length_append] at gl
    simp [seq_ix hs, seq_listL hb hl, gl]
  | swi n w vs bs =>
    unfold IsI at hi
    obtain ⟨db, cs, l, hi, h1, h2, h3⟩ := hi
    obtain ⟨z, rfl, rfl, rfl⟩ := CasesR_zip h2
    have hl : z.length ≤ sizeLine := by
      have := IsB_length h3
      simp only [It.blocks] at hw
      simp at this
      omega
    refine ⟨_, h3, fun X P => ?_⟩
    have hs := seq_pre (X := X) hi
    have hb := seq_pre (X := X) h1
    have gl := fun l => leaveD_lst (frz := true) (b := l) (S := S ++ X)
    simp only [List.length_append] at gl
    simp [seq_ix hs]
    rw [lcF_map (S := S ++ X) (src := fun S => seqOf S db) z (fun p => .tup [.int p.1, p.2]) (fun p => some p.2) (by simp [seq_ix hs, seq_src hb]) hb hl (by
      intro p hp
      simp)]
    simp [gl]
  | _ =>
    refine ⟨[], rfl, fun X P => ?_⟩
    unfold IsI at hi
    have hs := seq_pre (X := X) hi
    have gl := fun l => leaveD_lst (frz := true) (b := l) (S := S ++ X)
    simp only [List.length_append] at gl
    simp [seq_ix hs, hz, gl]
theorem rn_blocks {k : Nat} {S : Sto} {d : Dv} {i : It} (hi : IsI S d i) (hw : i.blocks.length ≤ 1000) (ho : ∀ a b, i ≠ .odd a b) : ∃ ds, IsB S ds i.blocks ∧ ∀ P, Wm (run (k + 1) fn_blocks_of [d]) S P ↔ P (.ok (.lst ds) S) := by
  obtain ⟨ds, h1, h2⟩ := rn_blocksX (k := k) hi hw ho
  refine ⟨ds, h1, fun P => ?_⟩
  have := h2 [] P
  rwa [List.append_nil] at this
theorem hI_mem {i : It} : ∀ {b : List It}, i ∈ b → hI i ≤ hL b
  | _ :: _, h => by
    unfold hL
    rcases List.mem_cons.mp h with rfl | h
    · exact Nat.le_max_left _ _
    · exact Nat.le_trans (hI_mem h) (Nat.le_max_right _ _)
theorem hL_mem {b : List It} : ∀ {bs : List (List It)}, b ∈ bs → hL b ≤ hB bs
  | _ :: _, h => by
    unfold hB
    rcases List.mem_cons.mp h with rfl | h
    · exact Nat.le_max_left _ _
    · exact Nat.le_trans (hL_mem h) (Nat.le_max_right _ _)
theorem ResL_mem {nums : Nums} {i : It} : ∀ {b : List It}, ResL nums b → i ∈ b → ResI nums i
  | _ :: _, h, m => by
    unfold ResL at h
    rcases List.mem_cons.mp m with rfl | m
    · exact h.1
    · exact ResL_mem h.2 m
theorem ResB_mem {nums : Nums} {b : List It} : ∀ {bs : List (List It)}, ResB nums bs → b ∈ bs → b.length ≤ 12 ∧ ResL nums b
  | _ :: _, h, m => by
    unfold ResB at h
    rcases List.mem_cons.mp m with rfl | m
    · exact ⟨h.1, h.2.1⟩
    · exact ResB_mem h.2.2 m
theorem leastL_sum {nums : Nums} : ∀ {b : List It}, leastL nums b = (b.map (leastI nums)).sum
  | [] => rfl
  | i :: r => by
    unfold leastL
    rw [leastL_sum (b := r)]
    rfl
theorem leastB_map {nums : Nums} : ∀ {bs : List (List It)}, leastB nums bs = bs.map (leastL nums)
  | [] => rfl
  | i :: r => by
    unfold leastB
    rw [leastB_map (bs := r)]
    rfl
def LeastOk (S : Sto) (n : Nat) (nums : Nums) (i : It) : Prop := ∀ (k : Nat), 2 * hI i + 2 ≤ k → ∀ (d : Dv), IsI S d i → ResI nums i → ∀ P, Wm (run k fn_least_of [d, .ref n]) S P ↔ P (.ok (.int (leastI nums i)) S)
theorem least_list {n : Nat} {S : Sto} {nums : Nums} {b : List It} (hb : ∀ i ∈ b, LeastOk S n nums i) {k : Nat} (hk : 2 * hL b + 3 ≤ k) {d : Dv} {l : List Dv} (hd : seqOf S d = some l) (hl : IsL S l b) (h12 : b.length ≤ 12) (hr : ResL nums b) (P : Rs Dv → Prop) :
    Wm (run k fn_least_of_items [d, .ref n]) S P ↔ P (.ok (.int (leastL nums b)) S) := by
  have hz := szl
  obtain ⟨k, rfl⟩ : ∃ j, k = j + 1 := ⟨k - 1, by omega⟩
  rw [rn_least_of_items, wm_def, m_least_of_items]
  obtain ⟨z, rfl, rfl, h3⟩ := IsL_zip hl
  simp only [List.length_map] at h12
  simp
  rw [lcF_map (S := S) (src := fun S => seqOf S d) z (fun p => p.1) (fun p => some (.int (leastI nums p.2))) (by simp [seq_src hd]) hd (by omega) (by
    intro p hp
    have hm : p.2 ∈ z.map (·.2) := List.mem_map_of_mem hp
    have := hb p.2 hm k (by have := hI_mem hm; omega) p.1 (h3 p hp) (ResL_mem hr hm)
    simp [this])]
  have e : z.filterMap (fun p => some (Dv.int (leastI nums p.2))) = (z.map fun p => leastI nums p.2).map .int := by simp
  have e2 : ∀ S, sumD S [.lst (z.map fun p => .int (leastI nums p.2))] = some (.int (z.map fun p => leastI nums p.2).sum) := fun S => by
    have := op_sum (S := S) (l := z.map fun p => leastI nums p.2)
    rwa [List.map_map] at this
  rw [e]
  simp [leastL_sum, Function.comp_def, e2]
theorem least_blocks {n : Nat} {S : Sto} {nums : Nums} {bs : List (List It)} (hb : ∀ b ∈ bs, ∀ i ∈ b, LeastOk S n nums i) {k : Nat} (hk : 2 * hB bs + 3 ≤ k) {ds : List Dv} (hl : IsB S ds bs) (hr : ResB nums bs) :
    ∃ z : List (Dv × List It), ds = z.map (·.1) ∧ bs = z.map (·.2) ∧ leastB nums bs = z.map (fun p => leastL nums p.2) ∧ ∀ p ∈ z, ∀ P, Wm (run k fn_least_of_items [p.1, .ref n]) S P ↔ P (.ok (.int (leastL nums p.2)) S) := by
  obtain ⟨z, rfl, rfl, h3⟩ := IsB_zip hl
  refine ⟨z, rfl, rfl, by rw [leastB_map, List.map_map]; rfl, fun p hp P => ?_⟩
  obtain ⟨l, h1, h2⟩ := h3 p hp
  have hm : p.2 ∈ z.map (·.2) := List.mem_map_of_mem hp
  exact least_list (hb p.2 hm) (by have := hL_mem hm; omega) h1 h2 (ResB_mem hr hm).1 (ResB_mem hr hm).2 P
/-- the least length of an item -/
theorem sp_least {n : Nat} {S : Sto} {nums : Nums} (hn : S[n]? = some (.dct (numD nums))) (i : It) : LeastOk S n nums i := by
  have hz := szl
  have start : ∀ {i : It} {k : Nat}, 2 * hI i + 2 ≤ k → ∃ j, k = j + 1 + 1 ∧ 2 * hI i ≤ j := fun h => ⟨_, (Nat.sub_add_cancel (Nat.le_trans (Nat.le_add_left 2 _) h)).symm, by omega⟩
  have ti : ∀ (S : Sto) (w : Str), inD S (.str w) (.tup [.str "either", .str "switch"]) = some (.bl (decide (w = Str.ofString "either" ∨ w = Str.ofString "switch"))) := fun S w => by
    have e : seqOf S (.tup [.str "either", .str "switch"]) = some ([(Str.ofString "either" : Str), Str.ofString "switch"].map .str) := rfl
    rw [seq_in e]
    simp
  have two : ∀ {d : Dv} {i : It} {k : Nat}, IsI S d i → (∀ a b, i ≠ .odd a b) → i.blocks ≠ [] → i.blocks.length ≤ 8 → ResB nums i.blocks → (∀ b ∈ i.blocks, ∀ i ∈ b, LeastOk S n nums i) → 2 * hB i.blocks + 3 ≤ k + 1 → ∀ P : Rs Dv → Prop,
      Wm (lcF (iVal (eArg (aCons (getv 0) aNil) (run (k + 1) fn_blocks_of))) [2] (gSet 2) tYes' (eArg (aCons (getv 2) (aCons (getv 1) aNil)) (run (k + 1) fn_least_of_items)) [some d, some (.ref n), none]) S P ↔ P (.ok (.lst ((leastB nums i.blocks).map .int)) S) := by
    intro d i k hi ho hne h8 hr ih hk P
    obtain ⟨ds, h1, h2⟩ := rn_blocks (k := k) hi (by omega) ho
    obtain ⟨z, rfl, h4, h5, h6⟩ := least_blocks ih hk h1 hr
    have hzl : z.length ≤ sizeLine := by
      rw [h4] at h8
      simp at h8
      omega
    rw [lcF_map (S := S) (src := fun _ => some (z.map (·.1))) z (fun p => p.1) (fun p => some (.int (leastL nums p.2))) (by simp [h2]) rfl hzl (by
      intro p hp
      simp [h6 p hp]), h5]
    simp
    rfl
  refine It.rec (motive_1 := LeastOk S n nums) (motive_2 := fun b => ∀ i ∈ b, LeastOk S n nums i) (motive_3 := fun bs => ∀ b ∈ bs, ∀ i ∈ b, LeastOk S n nums i) ?_ ?_ ?_ ?_ ?_ ?_ ?_ ?_ ?_ (by simp) ?_ (by simp) ?_ i
  · intro m sz o lo hi k hk d hi' hr P
    obtain ⟨j, rfl, hj⟩ := start hk
    unfold IsI at hi'
    rw [rn_least_of, wm_def, m_least_of]
    simp [seq_ix hi', leastI]
  · intro m u k hk d hi' hr P
    obtain ⟨j, rfl, hj⟩ := start hk
    unfold IsI at hi'
    unfold ResI at hr
    rw [rn_least_of, wm_def, m_least_of]
    simp [seq_ix hi', leastI, wm_bounds hn hr]
  · intro m e f k hk d hi' hr P
    obtain ⟨j, rfl, hj⟩ := start hk
    unfold IsI at hi'
    rw [rn_least_of, wm_def, m_least_of]
    have ib : ∀ S, ML.intD S [.bl true] = some (.int 1) := fun _ => rfl
    have nb : (Str.ofString "text" == Str.ofString "pad") = false := by decide +kernel
    simp [seq_ix hi', leastI, ti, ib, hz, nb]
  · intro m e k hk d hi' hr P
    obtain ⟨j, rfl, hj⟩ := start hk
    unfold IsI at hi'
    rw [rn_least_of, wm_def, m_least_of]
    have ib : ∀ S, ML.intD S [.bl true] = some (.int 1) := fun _ => rfl
    have nb : (Str.ofString "check" == Str.ofString "pad") = false := by decide +kernel
    simp [seq_ix hi', leastI, ti, ib, hz, nb]
  · intro m e f k hk d hi' hr P
    obtain ⟨j, rfl, hj⟩ := start hk
    unfold IsI at hi'
    rw [rn_least_of, wm_def, m_least_of]
    have ib : ∀ S, ML.intD S [.bl false] = some (.int 0) := fun _ => rfl
    simp [seq_ix hi', leastI, ti, ib, hz]
  · intro m u b ih k hk d hi' hr P
    obtain ⟨j, rfl, hj⟩ := start hk
    unfold IsI at hi'
    obtain ⟨db, hi', l, h1, h2⟩ := hi'
    unfold ResI at hr
    obtain ⟨r1, r2, r3, r4, r5⟩ := hr
    unfold hI at hk hj
    rw [rn_least_of, wm_def, m_least_of]
    have hb := fun P => least_list ih (k := j + 1) (by omega) h1 h2 r4 r5 P
    have hc : CMul (bnd nums u).1 (leastL nums b) := by
      rw [cmul_iff]
      left
      omega
    have hc' := cmul_iff.mp hc
    simp [seq_ix hi', leastI, wm_bounds hn r1.1, hb]
    exact fun _ => hc'
  · intro m bs ih k hk d hi' hr P
    obtain ⟨j, rfl, hj⟩ := start hk
    have h0 := hi'
    unfold IsI at hi'
    obtain ⟨db, l, hi', h1, h2⟩ := hi'
    unfold ResI at hr
    obtain ⟨r1, r2, r3⟩ := hr
    unfold hI at hk hj
    rw [rn_least_of, wm_def, m_least_of]
    have hb := fun P => two (k := j) h0 (by intro a b q; cases q) r1 r2 r3 ih (by simp only [It.blocks]; omega) P
    have hp : 0 < (leastB nums bs).length := by
      rw [leastB_map, List.length_map]
      exact List.length_pos_iff.mpr r1
    simp [seq_ix hi', ti, hz, hb, leastI, It.blocks, hp]
  · intro m w vs bs ih k hk d hi' hr P
    obtain ⟨j, rfl, hj⟩ := start hk
    have h0 := hi'
    unfold IsI at hi'
    obtain ⟨db, cs, l, hi', h1, h2, h3⟩ := hi'
    unfold ResI at hr
    obtain ⟨r1, r2, r3, r4⟩ := hr
    unfold hI at hk hj
    rw [rn_least_of, wm_def, m_least_of]
    have hb := fun P => two (k := j) h0 (by intro a b q; cases q) r1 r2 r4 ih (by simp only [It.blocks]; omega) P
    have hp : 0 < (leastB nums bs).length := by
      rw [leastB_map, List.length_map]
      exact List.length_pos_iff.mpr r1
    simp [seq_ix hi', ti, hz, hb, leastI, It.blocks, hp]
  · intro a b k hk d hi' hr P
    unfold ResI at hr
    exact hr.elim
  · intro i r h1 h2 x hx
    rcases List.mem_cons.mp hx with rfl | hx
    · exact h1
    · exact h2 x hx
  · intro i r h1 h2 x hx
    rcases List.mem_cons.mp hx with rfl | hx
    · exact h1
    · exact h2 x hx
theorem wm_least_items {n : Nat} {S : Sto} {nums : Nums} (hn : S[n]? = some (.dct (numD nums))) {b : List It} {k : Nat} (hk : 2 * hL b + 3 ≤ k) {d : Dv} {l : List Dv} (hd : seqOf S d = some l) (hl : IsL S l b) (h12 : b.length ≤ 12) (hr : ResL nums b) (P : Rs Dv → Prop) :
    Wm (run k fn_least_of_items [d, .ref n]) S P ↔ P (.ok (.int (leastL nums b)) S) := least_list (fun i _ => sp_least hn i) hk hd hl h12 hr P
end L05

namespace L05
open PySem PySem.Spec PyProof.Rows L2 ML

/-! ### the copies of items -/
mutual
/-- an item, tuples through and through -/
def frI : It → Dv
  | .number n sz o lo hi => .tup [.str "number", .str n, .int sz, .str o, .int lo, .int hi]
  | .bytes n u => .tup [.str "bytes", .str n, u.dv]
  | .text n e m => .tup [.str "text", .str n, .int e, .int m]
  | .check n m => .tup [.str "check", .str n, .int m]
  | .pad n m f => .tup [.str "pad", .str n, .int m, .int f]
  | .rep n u b => .tup [.str "repeat", .str n, u.dv, .tup (frL b)]
  | .eit n bs => .tup [.str "either", .str n, .tup (frB bs)]
  | .swi n w vs bs => .tup [.str "switch", .str n, .str w, .tup ((vs.zip (frB bs)).map fun p => .tup [.int p.1, p.2])]
  | .odd k r => .tup (.str k :: r)
def frL : List It → List Dv
  | [] => []
  | i :: r => frI i :: frL r
def frB : List (List It) → List Dv
  | [] => []
  | b :: r => .tup (frL b) :: frB r
end
theorem frL_map : ∀ {b : List It}, frL b = b.map frI
  | [] => rfl
  | i :: r => by
    unfold frL
    rw [frL_map (b := r)]
    rfl
theorem frB_map : ∀ {bs : List (List It)}, frB bs = bs.map fun b => .tup (frL b)
  | [] => rfl
  | i :: r => by
    unfold frB
    rw [frB_map (bs := r)]
    rfl
def CopyOk (S : Sto) (nums : Nums) (i : It) : Prop := ∀ (k : Nat), 2 * hI i + 1 ≤ k → ∀ (d : Dv), IsI S d i → ResI nums i → ∀ P, Wm (run k fn_copied [d]) S P ↔ P (.ok (frI i) S)
theorem copy_list {S : Sto} {nums : Nums} {b : List It} (hb : ∀ i ∈ b, CopyOk S nums i) {k : Nat} (hk : 2 * hL b + 2 ≤ k) {d : Dv} {l : List Dv} (hd : seqOf S d = some l) (hl : IsL S l b) (h12 : b.length ≤ 12) (hr : ResL nums b) (P : Rs Dv → Prop) :
    Wm (run k fn_copied_items [d]) S P ↔ P (.ok (.tup (frL b)) S) := by
  have hz := szl
  obtain ⟨k, rfl⟩ : ∃ j, k = j + 1 := ⟨k - 1, by omega⟩
  rw [rn_copied_items, wm_def, m_copied_items]
  obtain ⟨z, rfl, rfl, h3⟩ := IsL_zip hl
  simp only [List.length_map] at h12
  simp
  rw [lcF_map (S := S) (src := fun S => seqOf S d) z (fun p => p.1) (fun p => some (frI p.2)) (by simp [seq_src hd]) hd (by omega) (by
    intro p hp
    have hm : p.2 ∈ z.map (·.2) := List.mem_map_of_mem hp
    have := hb p.2 hm k (by have := hI_mem hm; omega) p.1 (h3 p hp) (ResL_mem hr hm)
    simp [this])]
  have e : z.filterMap (fun p => some (frI p.2)) = z.map fun p => frI p.2 := by simp
  rw [e]
  have hs : seqOf S (.lst (z.map fun p => frI p.2)) = some (z.map fun p => frI p.2) := rfl
  simp [seq_tup hs (by simp; omega), frL_map, Function.comp_def]
/-- a copy of an item -/
theorem sp_copy {S : Sto} {nums : Nums} (i : It) : CopyOk S nums i := by
  have hz := szl
  have start : ∀ {i : It} {k : Nat}, 2 * hI i + 1 ≤ k → ∃ j, k = j + 1 ∧ 2 * hI i ≤ j := fun h => ⟨_, (Nat.sub_add_cancel (Nat.le_trans (Nat.le_add_left 1 _) h)).symm, by omega⟩
  refine It.rec (motive_1 := CopyOk S nums) (motive_2 := fun b => ∀ i ∈ b, CopyOk S nums i) (motive_3 := fun bs => ∀ b ∈ bs, ∀ i ∈ b, CopyOk S nums i) ?_ ?_ ?_ ?_ ?_ ?_ ?_ ?_ ?_ (by simp) ?_ (by simp) ?_ i
  · intro m sz o lo hi k hk d hi' hr P
    obtain ⟨j, rfl, hj⟩ := start hk
    unfold IsI at hi'
    rw [rn_copied, wm_def, m_copied]
    simp [seq_ix hi', frI, seq_tup hi', hz]
  · intro m u k hk d hi' hr P
    obtain ⟨j, rfl, hj⟩ := start hk
    unfold IsI at hi'
    rw [rn_copied, wm_def, m_copied]
    simp [seq_ix hi', frI, seq_tup hi', hz]
  · intro m e f k hk d hi' hr P
    obtain ⟨j, rfl, hj⟩ := start hk
    unfold IsI at hi'
    rw [rn_copied, wm_def, m_copied]
    simp [seq_ix hi', frI, seq_tup hi', hz]
  · intro m e k hk d hi' hr P
    obtain ⟨j, rfl, hj⟩ := start hk
    unfold IsI at hi'
    rw [rn_copied, wm_def, m_copied]
    simp [seq_ix hi', frI, seq_tup hi', hz]
  · intro m e f k hk d hi' hr P
    obtain ⟨j, rfl, hj⟩ := start hk
    unfold IsI at hi'
    rw [rn_copied, wm_def, m_copied]
    simp [seq_ix hi', frI, seq_tup hi', hz]
  · intro m u b ih k hk d hi' hr P
    obtain ⟨j, rfl, hj⟩ := start hk
    unfold IsI at hi'
    obtain ⟨db, hi', l, h1, h2⟩ := hi'
    unfold ResI at hr
    obtain ⟨r1, r2, r3, r4, r5⟩ := hr
    unfold hI at hk hj
    rw [rn_copied, wm_def, m_copied]
    have hb := fun P => copy_list ih (k := j) (by omega) h1 h2 r4 r5 P
    simp [seq_ix hi', frI, hb, hz]
  · intro m bs ih k hk d hi' hr P
    obtain ⟨j, rfl, hj⟩ := start hk
    unfold IsI at hi'
    obtain ⟨db, l, hi', h1, h2⟩ := hi'
    unfold ResI at hr
    obtain ⟨r1, r2, r3⟩ := hr
    unfold hI at hk hj
    rw [rn_copied, wm_def, m_copied]
    obtain ⟨z, rfl, rfl, h3⟩ := IsB_zip h2
    have hzl : z.length ≤ sizeLine := by
      simp at r2
      omega
    have hs : seqOf S (.lst (z.map fun p => .tup (frL p.2))) = some (z.map fun p => .tup (frL p.2)) := rfl
    simp [seq_ix hi']
    rw [lcF_map (S := S) (src := fun S => seqOf S db) z (fun p => p.1) (fun p => some (.tup (frL p.2))) (by simp [seq_ix hi', seq_src h1]) h1 hzl (by
      intro p hp
      obtain ⟨l, h4, h5⟩ := h3 p hp
      have hm : p.2 ∈ z.map (·.2) := List.mem_map_of_mem hp
      have := fun P => copy_list (ih p.2 hm) (k := j) (by have := hL_mem hm; omega) h4 h5 (ResB_mem r3 hm).1 (ResB_mem r3 hm).2 P
      simp [this])]
    simp [hz, frI, frB_map, Function.comp_def]
    rw [seq_tup hs (by simpa using hzl)]
    simp [hz]
  · intro m w vs bs ih k hk d hi' hr P
    obtain ⟨j, rfl, hj⟩ := start hk
    unfold IsI at hi'
    obtain ⟨db, cs, l, hi', h1, h2, h3⟩ := hi'
    unfold ResI at hr
    obtain ⟨r1, r2, r3, r4⟩ := hr
    unfold hI at hk hj
    rw [rn_copied, wm_def, m_copied]
    obtain ⟨z, rfl, rfl, h0⟩ := CasesR_zip h2
    obtain ⟨y, h5, rfl, h6⟩ := IsB_zip h3
    rw [h0] at h5
    have hlen : z.length = y.length := by
      have := congrArg List.length h5
      simpa using this
    have hzl : (z.zip y).length ≤ sizeLine := by
      simp at r2 ⊢
      omega
    have ez : z.map (fun p => Dv.tup [.int p.1, p.2]) = (z.zip y).map fun p => .tup [.int p.1.1, p.2.1] := by
      apply List.ext_getElem (by simp [hlen])
      intro n h1 h2
      have e1 : (z.map (·.2))[n]'(by simpa using h1) = (y.map (·.1))[n]'(by simp at h2 ⊢; omega) := by simp only [h5]
      simp at e1 ⊢
      exact e1
    have ev : ((z.map (·.1)).zip (frB (y.map (·.2)))).map (fun p => Dv.tup [.int p.1, p.2]) = (z.zip y).map fun p => .tup [.int p.1.1, .tup (frL p.2.2)] := by
      rw [frB_map, List.map_map, List.zip_map, List.map_map]
      rfl
    simp [seq_ix hi']
    rw [ez] at h1
    rw [lcF_map (S := S) (src := fun S => seqOf S db) (z.zip y) (fun p => .tup [.int p.1.1, p.2.1]) (fun p => some (.tup [.int p.1.1, .tup (frL p.2.2)])) (by simp [seq_ix hi', seq_src h1]) h1 hzl (by
      intro p hp
      have hp2 : p.2 ∈ y := (List.of_mem_zip hp).2
      obtain ⟨l, h4, h5⟩ := h6 p.2 hp2
      have hm : p.2.2 ∈ y.map (·.2) := List.mem_map_of_mem hp2
      have := fun P => copy_list (ih p.2.2 hm) (k := j) (by have := hL_mem hm; omega) h4 h5 (ResB_mem r4 hm).1 (ResB_mem r4 hm).2 P
      simp [this, hz])]
    have hs : seqOf S (.lst ((z.zip y).map fun p => .tup [.int p.1.1, .tup (frL p.2.2)])) = some ((z.zip y).map fun p => .tup [.int p.1.1, .tup (frL p.2.2)]) := rfl
    simp [hz, frI, ev]
    rw [seq_tup hs (by simpa using hzl)]
    simp [hz]
  · intro a b k hk d hi' hr P
    unfold ResI at hr
    exact hr.elim
  · intro i r h1 h2 x hx
    rcases List.mem_cons.mp hx with rfl | hx
    · exact h1
    · exact h2 x hx
  · intro i r h1 h2 x hx
    rcases List.mem_cons.mp hx with rfl | hx
    · exact h1
    · exact h2 x hx
theorem wm_copied_items {S : Sto} {nums : Nums} {b : List It} {k : Nat} (hk : 2 * hL b + 2 ≤ k) {d : Dv} {l : List Dv} (hd : seqOf S d = some l) (hl : IsL S l b) (h12 : b.length ≤ 12) (hr : ResL nums b) (P : Rs Dv → Prop) :
    Wm (run k fn_copied_items [d]) S P ↔ P (.ok (.tup (frL b)) S) := copy_list (fun i _ => sp_copy (nums := nums) i) hk hd hl h12 hr P
end L05

namespace L05
open PySem PySem.Spec PyProof.Rows L2 ML

theorem chkR_req {T : Sto} {E : List (List Str)} {P : Rs Dv → Prop} {s : CSt} {b : Prop} [Decidable b] {o : Option CSt} (h : chkR T E P o) (h1 : ¬ b → o = none) (h2 : b → chkR T E P o → P (.ok .non (stS T s E))) : if b then P (.ok .non (stS T s E)) else P (.er ⟨"InvalidShape", []⟩ (stS T s E)) := by
  by_cases hb : b
  · rw [if_pos hb]
    exact h2 hb h
  · rw [if_neg hb]
    rw [h1 hb] at h
    exact h _ st_take
/-- the plain check of an item -/
theorem wm_plain {k : Nat} {T : Sto} {s : CSt} {E : List (List Str)} {d : Dv} {i : It} (hi : IsI T d i) (hw : WfI i) (ho : ∀ a b, i ≠ .odd a b) {P : Rs Dv → Prop} (h : chkR T E P (plainC s i)) :
    Wm (run (k + 2) fn_ShapeCheck__check_plain [.ref (T.length + 1), d]) (stS T s E) P := by
  have hz := szl
  have ger : ∀ {S' : Sto}, S'.take T.length = T → plainC s i = none → P (.er ⟨"InvalidShape", []⟩ S') := fun hS e => by
    rw [e] at h
    exact h _ hS
  rw [rn_ShapeCheck__check_plain, wm_def, m_ShapeCheck__check_plain]
  cases i with
  | number n sz o lo hi' =>
    unfold IsI at hi
    have hs := st_seq hi s E
    simp only [plainC] at h ger
    have ti : ∀ S, inD S (.str o) (.tup [.str "big", .str "little"]) = some (.bl (decide (o = Str.ofString "big" ∨ o = Str.ofString "little"))) := fun S => by
      have e : seqOf S (.tup [.str "big", .str "little"]) = some ([(Str.ofString "big" : Str), Str.ofString "little"].map .str) := rfl
      rw [seq_in e]
      simp
    by_cases h1 : sz = 1 ∨ sz = 2
    · have e1 : k_GREATEST.lookup sz = some (.int (gr sz)) := by
        rcases h1 with rfl | rfl <;> rfl
      by_cases h2 : o = Str.ofString "big" ∨ o = Str.ofString "little"
      · by_cases h3 : 0 ≤ lo
        · by_cases h4 : lo ≤ hi'
          · by_cases h5 : hi' ≤ gr sz
            · rw [if_pos ⟨h1, h2, h3, h4, h5⟩] at h
              simp [seq_ix hs, wm_require, e1, ti, h2, h3, h4, h5]
              exact h
            · have := fun {S'} hS => ger (S' := S') hS (if_neg (by simp [h5]))
              simp [seq_ix hs, wm_require, e1, ti, h2, h3, h4, h5]
              exact this st_take
          · have := fun {S'} hS => ger (S' := S') hS (if_neg (by simp [h4]))
            simp [seq_ix hs, wm_require, e1, ti, h2, h3, h4]
            exact this st_take
        · have := fun {S'} hS => ger (S' := S') hS (if_neg (by simp [h3]))
          simp [seq_ix hs, wm_require, e1, ti, h2, h3]
          exact this st_take
      · have := fun {S'} hS => ger (S' := S') hS (if_neg (by simp [h2]))
        simp [seq_ix hs, wm_require, e1, ti, h2]
        exact this st_take
    · have e1 : k_GREATEST.lookup sz = none := by
        rw [not_or] at h1
        have b1 : (sz == 1) = false := by simpa using h1.1
        have b2 : (sz == 2) = false := by simpa using h1.2
        simp [k_GREATEST, List.lookup, b1, b2]
      have := fun {S'} hS => ger (S' := S') hS (if_neg (by simp [h1]))
      simp [seq_ix hs, wm_require, e1, ti]
      exact this st_take
  | bytes n u =>
    unfold IsI at hi
    have hs := st_seq hi s E
    simp only [plainC] at h
    simp [seq_ix hs]
    exact h
  | text n e m =>
    unfold IsI at hi
    have hs := st_seq hi s E
    simp only [plainC] at h ger
    have wb : ∀ (S : Sto) (P : Rs Dv → Prop), Wm (run (k + 1) fn_is_byte [.int e]) S P ↔ P (.ok (.bl (decide (0 ≤ e ∧ e ≤ 255))) S) := fun S P => by
      rw [rn_is_byte, wm_def, m_is_byte]
      by_cases h0 : 0 ≤ e <;> simp [h0]
    by_cases h1 : 0 ≤ e ∧ e ≤ 255
    · by_cases h2 : 0 ≤ m
      · by_cases h3 : m ≤ 64
        · rw [if_pos ⟨h1, h2, h3⟩] at h
          simp [seq_ix hs, wm_require, wb, h1, h2, h3]
          exact h
        · have := fun {S'} hS => ger (S' := S') hS (if_neg (by simp [h3]))
          simp [seq_ix hs, wm_require, wb, h1, h2, h3]
          exact this st_take
      · have := fun {S'} hS => ger (S' := S') hS (if_neg (by simp [h2]))
        simp [seq_ix hs, wm_require, wb, h1, h2]
        exact this st_take
    · have := fun {S'} hS => ger (S' := S') hS (if_neg (by simp [h1]))
      simp [seq_ix hs, wm_require, wb, h1]
      exact this st_take
  | check n m =>
    unfold IsI at hi
    have hs := st_seq hi s E
    simp only [plainC] at h ger
    by_cases h1 : 1 ≤ m
    · by_cases h2 : m ≤ 16
      · by_cases h3 : s.checks = 0
        · rw [if_pos ⟨⟨h1, h2⟩, h3⟩] at h
          have hx : ∀ s' i, ixD (stS T s' E) d (.int i) = L2.atI [.str "check", .str n, .int m] i := fun s' i => seq_ix (st_seq hi s' E) i
          simp [hx, wm_require, h1, h2, h3]
          simpa [h3] using h
        · have := fun {S'} hS => ger (S' := S') hS (if_neg (by simp [h3]))
          simp [seq_ix hs, wm_require, h1, h2, h3]
          exact this st_take
      · have := fun {S'} hS => ger (S' := S') hS (if_neg (by simp [h2]))
        simp [seq_ix hs, wm_require, h1, h2]
        exact this st_take
    · have := fun {S'} hS => ger (S' := S') hS (if_neg (by simp [h1]))
      simp [seq_ix hs, wm_require, h1]
      exact this st_take
  | pad n m f =>
    unfold IsI at hi
    have hs := st_seq hi s E
    simp only [plainC] at h ger
    have wb : ∀ (S : Sto) (P : Rs Dv → Prop), Wm (run (k + 1) fn_is_byte [.int f]) S P ↔ P (.ok (.bl (decide (0 ≤ f ∧ f ≤ 255))) S) := fun S P => by
      rw [rn_is_byte, wm_def, m_is_byte]
      by_cases h0 : 0 ≤ f <;> simp [h0]
    have ti : ∀ S, inD S (.int m) (.tup [.int 1, .int 2, .int 4, .int 8, .int 16]) = some (.bl (decide (m = 1 ∨ m = 2 ∨ m = 4 ∨ m = 8 ∨ m = 16))) := fun S => by
      have e : seqOf S (.tup [.int 1, .int 2, .int 4, .int 8, .int 16]) = some (([1, 2, 4, 8, 16] : List Int).map .int) := rfl
      rw [seq_inI e]
      simp
    by_cases h1 : m = 1 ∨ m = 2 ∨ m = 4 ∨ m = 8 ∨ m = 16
    · by_cases h2 : 0 ≤ f ∧ f ≤ 255
      · rw [if_pos ⟨h1, h2⟩] at h
        simp [seq_ix hs, wm_require, wb, ti, h1, h2]
        exact h
      · have := fun {S'} hS => ger (S' := S') hS (if_neg (by simp [h2]))
        simp [seq_ix hs, wm_require, wb, ti, h1, h2]
        exact this st_take
    · have := fun {S'} hS => ger (S' := S') hS (if_neg (by simp [h1]))
      simp [seq_ix hs, wm_require, wb, ti, h1]
      exact this st_take
  | rep n u b =>
    unfold IsI at hi
    obtain ⟨db, hi, l, h1, h2⟩ := hi
    have hs := st_seq hi s E
    simp only [plainC] at h
    simp [seq_ix hs]
    exact h
  | eit n bs =>
    unfold IsI at hi
    obtain ⟨db, l, hi, h1, h2⟩ := hi
    have hs := st_seq hi s E
    have hb := st_seq h1 s E
    have hl := IsB_length h2
    simp only [plainC] at h ger
    by_cases h3 : 2 ≤ bs.length
    · by_cases h4 : bs.length ≤ 4
      · rw [if_pos ⟨h3, h4⟩] at h
        simp [seq_ix hs, seq_len hb, wm_require, hl]
        simp [show (2 : Int) ≤ bs.length by omega, show (bs.length : Int) ≤ 4 by omega]
        exact h
      · have := fun {S'} hS => ger (S' := S') hS (if_neg (by simp [h4]))
        simp [seq_ix hs, seq_len hb, wm_require, hl]
        simp [show (2 : Int) ≤ bs.length by omega, show ¬ (bs.length : Int) ≤ 4 by omega]
        exact this st_take
    · have := fun {S'} hS => ger (S' := S') hS (if_neg (by simp [h3]))
      simp [seq_ix hs, seq_len hb, wm_require, hl]
      simp [show ¬ (2 : Int) ≤ bs.length by omega]
      exact this st_take
  | swi n w vs bs =>
    unfold IsI at hi
    obtain ⟨db, cs, l, hi, h1, h2, h3⟩ := hi
    obtain ⟨z, rfl, rfl, rfl⟩ := CasesR_zip h2
    have hzl : z.length ≤ sizeLine := by
      unfold WfI at hw
      have := hw.2.2.1
      simp at this
      omega
    have hs := st_seq hi s E
    have hb := st_seq h1 s E
    simp only [plainC] at h ger
    have hg : k_GREATEST.lookup 2 = some (Dv.int 65535) := rfl
    simp [seq_ix hs]
    rw [lcF_map (S := stS T s E) (src := fun S => seqOf S db) z (fun p => .tup [.int p.1, p.2]) (fun p => some (.int p.1)) (by simp [seq_ix hs, seq_src hb]) hb hzl (by
      intro p hp
      simp)]
    have ev : z.filterMap (fun p => some (Dv.int p.1)) = (z.map (·.1)).map .int := by simp
    rw [ev]
    have hlen : (z.map (·.1)).length = z.length := by simp
    generalize z.map (·.1) = vs at *
    rw [← hlen] at hzl
    clear h2 h3 hi hb h1
    by_cases g1 : 1 ≤ vs.length
    · by_cases g2 : vs.length ≤ 8
      · simp [wm_require, show (1 : Int) ≤ vs.length by omega, show (vs.length : Int) ≤ 8 by omega, ws_for]
        refine for_inv (fun j env S' => S' = stS T s E ∧ j ≤ vs.length ∧ (∀ v ∈ vs.take j, 0 ≤ v ∧ v ≤ 65535) ∧ (vs.take j).Nodup ∧ ∃ a b c, env = [some (.ref (T.length + 1)), some d, some (.lst (vs.map .int)), a, b, c]) ?_ ?_ ?_
        · refine ⟨rfl, Nat.zero_le _, by simp, by simp, _, _, _, rfl⟩
        · rintro j x env S' hx ⟨rfl, hj, i1, i2, a, b, c, rfl⟩
          have hjl : j < vs.length := by
            rcases Nat.lt_or_ge j vs.length with q | q
            · exact q
            · rw [List.getElem?_eq_none (by simp [enumOf]; exact q)] at hx
              cases hx
          have hxe : x = .tup [.int j, .int vs[j]] := by
            simp [enumOf, hjl] at hx
            exact hx.symm
          subst hxe
          have ht : seqOf (stS T s E) (.lst ((vs.take j).map .int)) = some ((vs.take j).map .int) := rfl
          have hcut : cutG (vs.map Dv.int) none (some (j : Int)) = (vs.map Dv.int).take j := cutG_head
          have hni : ninD (stS T s E) (.int vs[j]) (.lst ((vs.map Dv.int).take j)) = some (.bl (decide (vs[j] ∉ vs.take j))) := by
            rw [← List.map_take]
            exact seq_ninI ht
          have hts : vs.take (j + 1) = vs.take j ++ [vs[j]] := by simp
          by_cases g3 : 0 ≤ vs[j]
          · by_cases g4 : vs[j] ≤ 65535
            · by_cases g5 : vs[j] ∉ vs.take j
              · simp [hg, wm_require, g3, g4, hcut, hni, g5]
                refine ⟨by omega, ?_, ?_⟩
                · rw [hts]
                  intro v hv
                  rcases List.mem_append.mp hv with hv | hv
                  · exact i1 v hv
                  · rw [List.mem_singleton] at hv
                    subst hv
                    exact ⟨g3, g4⟩
                · rw [hts, List.nodup_append]
                  refine ⟨i2, by simp, ?_⟩
                  intro u hu v hv e
                  rw [List.mem_singleton] at hv
                  subst hv
                  exact g5 (e ▸ hu)
              · simp [hg, wm_require, g3, g4, hcut, hni, g5]
                refine ger st_take (if_neg fun q => g5 fun hm => ?_)
                have nd := q.2.2.sublist (List.take_sublist (j + 1) vs)
                rw [hts, List.nodup_append] at nd
                exact nd.2.2 _ hm _ (List.mem_singleton.mpr rfl) rfl
            · simp [hg, wm_require, g3, g4, hcut, hni]
              exact ger st_take (if_neg fun q => g4 (q.2.1 _ (List.getElem_mem hjl)).2)
          · simp [hg, wm_require, g3, hcut, hni]
            exact ger st_take (if_neg fun q => g3 (q.2.1 _ (List.getElem_mem hjl)).1)
        · rintro env S' ⟨rfl, hj, i1, i2, a, b, c, rfl⟩
          have el : (enumOf (vs.map Dv.int)).length = vs.length := by simp [enumOf]
          rw [el, List.take_length] at i1 i2
          rw [if_pos ⟨⟨g1, g2⟩, i1, i2⟩] at h
          simp [seq_ix hs]
          exact h
      · simp [wm_require, show (1 : Int) ≤ vs.length by omega, show ¬ (vs.length : Int) ≤ 8 by omega]
        exact ger st_take (if_neg (by simp [g2]))
    · simp [wm_require, show ¬ (1 : Int) ≤ vs.length by omega]
      exact ger st_take (if_neg (by simp [g1]))
  | odd a b => exact absurd rfl (ho a b)
end L05

namespace L05
open PySem PySem.Spec PyProof.Rows L2 ML

theorem useOk_num {vis : List Str} {nums : Nums} {most x : Int} : useOk vis nums most (.num x) ↔ 0 ≤ x ∧ x ≤ most := by simp [useOk, bnd]
theorem useOk_nam {vis : List Str} {nums : Nums} {most : Int} {m : Str} : useOk vis nums most (.nam m) ↔ m ∈ vis ∧ 0 ≤ (bnd nums (.nam m)).1 ∧ (bnd nums (.nam m)).2 ≤ most := Iff.rfl
theorem wm_uses {k : Nat} {T : Sto} {s : CSt} {E : List (List Str)} {vis : List Str} {d dv : Dv} {i : It} (hi : IsI T d i) (hv : seqOf (stS T s E) dv = some (vis.map .str)) (hk : ∀ v ∈ vis, (s.nums.lookup v).isSome = true) {P : Rs Dv → Prop} (h : chkR T E P (usesC vis s i)) (ho : ∀ a b, i ≠ .odd a b) :
    Wm (run (k + 2) fn_ShapeCheck__check_uses [.ref (T.length + 1), d, dv]) (stS T s E) P := by
  have hz := szl
  have ger : ∀ {S' : Sto}, S'.take T.length = T → usesC vis s i = none → P (.er ⟨"InvalidShape", []⟩ S') := fun hS e => by
    rw [e] at h
    exact h _ hS
  have ti : ∀ (S : Sto) (w : Str), inD S (.str w) (.tup [.str "bytes", .str "repeat"]) = some (.bl (decide (w = Str.ofString "bytes" ∨ w = Str.ofString "repeat"))) := fun S w => by
    have e : seqOf S (.tup [.str "bytes", .str "repeat"]) = some ([(Str.ofString "bytes" : Str), Str.ofString "repeat"].map .str) := rfl
    rw [seq_in e]
    simp
  have t1 : ∀ S (i : Int), isiD S [.int i, .ty "int"] = some (.bl true) := fun _ _ => rfl
  have t2 : ∀ S (i : Str), isiD S [.str i, .ty "int"] = some (.bl false) := fun _ _ => rfl
  have wb : ∀ {u : Use}, u.res s.nums → ∀ P, Wm (run (k + 1) fn_bounds [u.dv, .ref (T.length + 3)]) (stS T s E) P ↔ P (.ok (.tup [.int (bnd s.nums u).1, .int (bnd s.nums u).2]) (stS T s E)) := fun hr P => wm_bounds st_num hr
  rw [rn_ShapeCheck__check_uses, wm_def, m_ShapeCheck__check_uses]
  cases i with
  | number n sz o lo hi' =>
    unfold IsI at hi
    have hs := st_seq hi s E
    simp only [usesC] at h
    simp [seq_ix hs, ti, hz]
    exact h
  | text n e m =>
    unfold IsI at hi
    have hs := st_seq hi s E
    simp only [usesC] at h
    simp [seq_ix hs, ti, hz]
    exact h
  | check n m =>
    unfold IsI at hi
    have hs := st_seq hi s E
    simp only [usesC] at h
    simp [seq_ix hs, ti, hz]
    exact h
  | pad n m f =>
    unfold IsI at hi
    have hs := st_seq hi s E
    simp only [usesC] at h
    simp [seq_ix hs, ti, hz]
    exact h
  | eit n bs =>
    unfold IsI at hi
    obtain ⟨db, l, hi, h1, h2⟩ := hi
    have hs := st_seq hi s E
    simp only [usesC] at h
    simp [seq_ix hs, ti, hz]
    exact h
  | swi n w vs bs =>
    unfold IsI at hi
    obtain ⟨db, cs, l, hi, h1, h2, h3⟩ := hi
    have hs := st_seq hi s E
    simp only [usesC] at h ger
    by_cases g1 : w ∈ vis
    · rw [if_pos g1] at h
      simp [seq_ix hs, ti, hz, seq_in hv, g1, wm_require]
      exact h
    · simp [seq_ix hs, ti, hz, seq_in hv, g1, wm_require]
      exact ger st_take (if_neg g1)
  | odd a b => exact absurd rfl (ho a b)
  | bytes n u =>
    unfold IsI at hi
    have hs := st_seq hi s E
    simp only [usesC] at h ger
    cases u with
    | num x =>
      have wb' := fun P => wb (u := .num x) trivial P
      simp only [Use.dv] at hs wb'
      simp only [bnd] at wb'
      by_cases g1 : 0 ≤ x
      · by_cases g2 : x ≤ 64
        · rw [if_pos (useOk_num.mpr ⟨g1, g2⟩)] at h
          simp [seq_ix hs, ti, hz, t1, wb', wm_require, g1, g2]
          exact h
        · simp [seq_ix hs, ti, hz, t1, wb', wm_require, g1, g2]
          exact ger st_take (if_neg fun q => g2 (useOk_num.mp q).2)
      · simp [seq_ix hs, ti, hz, t1, wb', wm_require, g1]
        exact ger st_take (if_neg fun q => g1 (useOk_num.mp q).1)
    | nam m =>
      simp only [Use.dv] at hs
      by_cases g0 : m ∈ vis
      · have wb' := fun P => wb (u := .nam m) (hk m g0) P
        simp only [Use.dv] at wb'
        have un := fun most => useOk_nam (vis := vis) (nums := s.nums) (most := most) (m := m)
        generalize hbb : bnd s.nums (.nam m) = bb at un wb'
        by_cases g1 : 0 ≤ bb.1
        · by_cases g2 : bb.2 ≤ 64
          · rw [if_pos ((un _).mpr ⟨g0, g1, g2⟩)] at h
            simp [seq_ix hs, ti, hz, t2, seq_in hv, g0, wb', wm_require, g1, g2]
            exact h
          · simp [seq_ix hs, ti, hz, t2, seq_in hv, g0, wb', wm_require, g1, g2]
            exact ger st_take (if_neg fun q => g2 ((un _).mp q).2.2)
        · simp [seq_ix hs, ti, hz, t2, seq_in hv, g0, wb', wm_require, g1]
          exact ger st_take (if_neg fun q => g1 ((un _).mp q).2.1)
      · simp [seq_ix hs, ti, hz, t2, seq_in hv, g0, wm_require]
        exact ger st_take (if_neg fun q => g0 (useOk_nam.mp q).1)
  | rep n u b =>
    unfold IsI at hi
    obtain ⟨db, hi, l, h1, h2⟩ := hi
    have hs := st_seq hi s E
    simp only [usesC] at h ger
    cases u with
    | num x =>
      have wb' := fun P => wb (u := .num x) trivial P
      simp only [Use.dv] at hs wb'
      simp only [bnd] at wb'
      by_cases g1 : 0 ≤ x
      · by_cases g2 : x ≤ 16
        · rw [if_pos (useOk_num.mpr ⟨g1, g2⟩)] at h
          simp [seq_ix hs, ti, hz, t1, wb', wm_require, g1, g2]
          exact h
        · simp [seq_ix hs, ti, hz, t1, wb', wm_require, g1, g2]
          exact ger st_take (if_neg fun q => g2 (useOk_num.mp q).2)
      · simp [seq_ix hs, ti, hz, t1, wb', wm_require, g1]
        exact ger st_take (if_neg fun q => g1 (useOk_num.mp q).1)
    | nam m =>
      simp only [Use.dv] at hs
      by_cases g0 : m ∈ vis
      · have wb' := fun P => wb (u := .nam m) (hk m g0) P
        simp only [Use.dv] at wb'
        have un := fun most => useOk_nam (vis := vis) (nums := s.nums) (most := most) (m := m)
        generalize hbb : bnd s.nums (.nam m) = bb at un wb'
        by_cases g1 : 0 ≤ bb.1
        · by_cases g2 : bb.2 ≤ 16
          · rw [if_pos ((un _).mpr ⟨g0, g1, g2⟩)] at h
            simp [seq_ix hs, ti, hz, t2, seq_in hv, g0, wb', wm_require, g1, g2]
            exact h
          · simp [seq_ix hs, ti, hz, t2, seq_in hv, g0, wb', wm_require, g1, g2]
            exact ger st_take (if_neg fun q => g2 ((un _).mp q).2.2)
        · simp [seq_ix hs, ti, hz, t2, seq_in hv, g0, wb', wm_require, g1]
          exact ger st_take (if_neg fun q => g1 ((un _).mp q).2.1)
      · simp [seq_ix hs, ti, hz, t2, seq_in hv, g0, wm_require]
        exact ger st_take (if_neg fun q => g0 (useOk_nam.mp q).1)
/-- the lengths of the blocks -/
theorem wm_lengths {k : Nat} {T : Sto} {s : CSt} {E : List (List Str)} {d : Dv} {i : It} (hk : 2 * hI i + 2 ≤ k) (hi : IsI T d i) (ho : ∀ a b, i ≠ .odd a b) (h8 : i.blocks.length ≤ 8) (hr : ResB s.nums i.blocks) {P : Rs Dv → Prop} (h : chkR T E P (lengthsC s i)) :
    Wm (run k fn_ShapeCheck__check_lengths [.ref (T.length + 1), d]) (stS T s E) P := by
  have hz := szl
  have ger : ∀ {S' : Sto}, S'.take T.length = T → lengthsC s i = none → P (.er ⟨"InvalidShape", []⟩ S') := fun hS e => by
    rw [e] at h
    exact h _ hS
  obtain ⟨k, rfl⟩ : ∃ j, k = j + 1 + 1 := ⟨k - 2, by omega⟩
  rw [rn_ShapeCheck__check_lengths, wm_def, m_ShapeCheck__check_lengths]
  have hi2 : IsI (stS T s E) d i := IsI_pre _ hi
  obtain ⟨ds, b1, b2⟩ := rn_blocks (k := k) hi2 (by omega) ho
  have hBk : i.blocks ≠ [] → 2 * hB i.blocks + 3 ≤ k + 1 := by
    intro hne
    cases i <;> simp [It.blocks, hI, L05.hB] at hne hk ⊢ <;> omega
  have main : ∀ P : Rs Dv → Prop, P (.ok (.lst ((leastB s.nums i.blocks).map .int)) (stS T s E)) → Wm (lcF (iVal (eArg (aCons (getv 1) aNil) (run (k + 1) fn_blocks_of))) [3] (gSet 3) tYes' (eArg (aCons (getv 3) (aCons (eBnd (getv 0) (getF ["ShapeCheck"] "numbers")) aNil)) (run (k + 1) fn_least_of_items)) [some (.ref (T.length + 1)), some d, none, none]) (stS T s E) P := by
    intro P hP
    by_cases hne : i.blocks = []
    · rw [hne] at b1 hP
      unfold IsB at b1
      subst b1
      rw [lcF_map (S := stS T s E) (src := fun _ => some []) ([] : List Unit) (fun _ => .non) (fun _ => none) (by simp [b2]) rfl (by simp) (by simp)]
      exact hP
    · obtain ⟨z, rfl, h4, h5, h6⟩ := least_blocks (fun b _ i _ => sp_least st_num i) (hBk hne) b1 hr
      have hzl : z.length ≤ sizeLine := by
        rw [h4] at h8
        simp at h8
        omega
      rw [lcF_map (S := stS T s E) (src := fun _ => some (z.map (·.1))) z (fun p => p.1) (fun p => some (.int (leastL s.nums p.2))) (by simp [b2]) rfl hzl (by
        intro p hp
        simp [h6 p hp])]
      rw [h5] at hP
      simpa [Function.comp_def] using hP
  rw [ws_seq, ws_set]
  refine main _ ?_
  clear main b2
  cases i with
  | number n sz o lo hi' =>
    unfold IsI at hi
    have hs := st_seq hi s E
    simp only [lengthsC] at h
    simp [seq_ix hs, hz]
    exact h
  | bytes n u =>
    unfold IsI at hi
    have hs := st_seq hi s E
    simp only [lengthsC] at h
    simp [seq_ix hs, hz]
    exact h
  | text n e m =>
    unfold IsI at hi
    have hs := st_seq hi s E
    simp only [lengthsC] at h
    simp [seq_ix hs, hz]
    exact h
  | check n m =>
    unfold IsI at hi
    have hs := st_seq hi s E
    simp only [lengthsC] at h
    simp [seq_ix hs, hz]
    exact h
  | pad n m f =>
    unfold IsI at hi
    have hs := st_seq hi s E
    simp only [lengthsC] at h
    simp [seq_ix hs, hz]
    exact h
  | swi n w vs bs =>
    unfold IsI at hi
    obtain ⟨db, cs, l, hi, h1, h2, h3⟩ := hi
    have hs := st_seq hi s E
    simp only [lengthsC] at h
    simp [seq_ix hs, hz]
    exact h
  | odd a b => exact absurd rfl (ho a b)
  | rep n u b =>
    unfold IsI at hi
    obtain ⟨db, hi, l, h1, h2⟩ := hi
    have hs := st_seq hi s E
    simp only [lengthsC] at h ger
    by_cases g : 0 < leastL s.nums b
    · rw [if_pos g] at h
      simp [seq_ix hs, hz, It.blocks, leastB, wm_require, g]
      exact h
    · simp [seq_ix hs, hz, It.blocks, leastB, wm_require, g]
      exact ger st_take (if_neg g)
  | eit n bs =>
    unfold IsI at hi
    obtain ⟨db, l, hi, h1, h2⟩ := hi
    have hs := st_seq hi s E
    simp only [lengthsC] at h ger
    have hc : ∀ S, countD S (.lst ((leastB s.nums bs).map .int)) [.int 0] = some (.int ((leastB s.nums bs).count 0 : Nat)) := fun S => by
      have e : intsOf ((leastB s.nums bs).map .int) = some (leastB s.nums bs) := by
        generalize leastB s.nums bs = l
        induction l with
        | nil => rfl
        | cons a r ih => simp [intsOf, ih]
      simp [countD, e]
    have ht : ∀ S l, tyD S (.lst l) "list" = true := fun _ _ => rfl
    by_cases g : (leastB s.nums bs).count 0 ≤ 1
    · rw [if_pos g] at h
      simp [seq_ix hs, hz, It.blocks, wm_require, hc, ht]
      simp [show ((leastB s.nums bs).count 0 : Int) ≤ 1 by omega]
      exact h
    · simp [seq_ix hs, hz, It.blocks, wm_require, hc, ht]
      simp [show ¬ ((leastB s.nums bs).count 0 : Int) ≤ 1 by omega]
      exact ger st_take (if_neg g)
end L05

namespace L05
open PySem PySem.Spec PyProof.Rows L2 ML

/-! ### what a check keeps -/
structure Inv (vis : List Str) (s : CSt) : Prop where
  vk : ∀ v ∈ vis, (s.nums.lookup v).isSome = true
  kn : ∀ x ∈ s.nums, x.1 ∈ s.names
  ord : ∀ x ∈ s.nums, x.2.1 ≤ x.2.2
  ln : s.names.length ≤ 30
  nl : s.nums.length ≤ s.names.length
  vl : vis.length ≤ s.nums.length
  nd : (s.nums.map (·.1)).Nodup
def Ext (s s' : CSt) : Prop := (∃ e, s'.nums = s.nums ++ e) ∧ ∃ e, s'.names = s.names ++ e
theorem Ext.refl (s : CSt) : Ext s s := ⟨⟨[], by simp⟩, [], by simp⟩
theorem Ext.trans {a b c : CSt} (h : Ext a b) (g : Ext b c) : Ext a c := by
  obtain ⟨⟨e, h1⟩, f, h2⟩ := h
  obtain ⟨⟨e', g1⟩, f', g2⟩ := g
  exact ⟨⟨e ++ e', by rw [g1, h1, List.append_assoc]⟩, f ++ f', by rw [g2, h2, List.append_assoc]⟩
theorem look_ext {nums e : Nums} {n : Str} (h : (nums.lookup n).isSome = true) : (nums ++ e).lookup n = nums.lookup n := by
  obtain ⟨p, hp⟩ := Option.isSome_iff_exists.mp h
  rw [List.lookup_append, hp]
  rfl
theorem Use.res_ext {nums e : Nums} {u : Use} (h : u.res nums) : u.res (nums ++ e) ∧ bnd (nums ++ e) u = bnd nums u := by
  cases u with
  | num i => exact ⟨trivial, rfl⟩
  | nam n =>
    simp only [Use.res] at h ⊢
    simp only [bnd, look_ext h]
    exact ⟨h, trivial⟩
theorem ResI_ext {nums e : Nums} (i : It) : ResI nums i → ResI (nums ++ e) i := by
  refine It.rec (motive_1 := fun i => ResI nums i → ResI (nums ++ e) i) (motive_2 := fun b => ResL nums b → ResL (nums ++ e) b) (motive_3 := fun bs => ResB nums bs → ResB (nums ++ e) bs) ?_ ?_ ?_ ?_ ?_ ?_ ?_ ?_ ?_ ?_ ?_ ?_ ?_ i
  · intros; unfold ResI; trivial
  · intro n u h; unfold ResI at h ⊢; exact (Use.res_ext h).1
  · intros; unfold ResI; trivial
  · intros; unfold ResI; trivial
  · intros; unfold ResI; trivial
  · intro n u b ih h
    unfold ResI at h ⊢
    obtain ⟨h1, h2, h3, h4, h5⟩ := h
    obtain ⟨g1, g2⟩ := Use.res_ext (e := e) h1.1
    rw [g2]
    exact ⟨⟨g1, h1.2⟩, h2, h3, h4, ih h5⟩
  · intro n bs ih h
    unfold ResI at h ⊢
    exact ⟨h.1, h.2.1, ih h.2.2⟩
  · intro n w vs bs ih h
    unfold ResI at h ⊢
    exact ⟨h.1, h.2.1, h.2.2.1, ih h.2.2.2⟩
  · intro a b h; unfold ResI at h; exact h.elim
  · intros; unfold ResL; trivial
  · intro i r h1 h2 h
    unfold ResL at h ⊢
    exact ⟨h1 h.1, h2 h.2⟩
  · intros; unfold ResB; trivial
  · intro b r h1 h2 h
    unfold ResB at h ⊢
    exact ⟨h.1, h1 h.2.1, h2 h.2.2⟩
theorem ResL_all {nums : Nums} : ∀ {b : List It}, ResL nums b ↔ ∀ i ∈ b, ResI nums i
  | [] => by unfold ResL; simp
  | i :: r => by unfold ResL; rw [ResL_all (b := r)]; simp
theorem ResB_all {nums : Nums} : ∀ {b : List (List It)}, ResB nums b ↔ ∀ i ∈ b, i.length ≤ 12 ∧ ResL nums i
  | [] => by unfold ResB; simp
  | i :: r => by unfold ResB; rw [ResB_all (b := r)]; simp [and_assoc]
theorem ResL_ext {nums e : Nums} {b : List It} (h : ResL nums b) : ResL (nums ++ e) b := ResL_all.mpr fun i hi => ResI_ext i (ResL_all.mp h i hi)
theorem ResB_ext {nums e : Nums} {b : List (List It)} (h : ResB nums b) : ResB (nums ++ e) b := ResB_all.mpr fun i hi => ⟨(ResB_all.mp h i hi).1, ResL_ext (ResB_all.mp h i hi).2⟩
theorem Inv.back {vis vis' : List Str} {s s' : CSt} (h : Inv vis s) (g : Inv vis' s') (e : Ext s s') : Inv vis s' := by
  obtain ⟨⟨x, hx⟩, _⟩ := e
  refine ⟨fun v hv => ?_, g.kn, g.ord, g.ln, g.nl, ?_, g.nd⟩
  · rw [hx, look_ext (h.vk v hv)]
    exact h.vk v hv
  · have := h.vl
    rw [hx, List.length_append]
    omega
theorem nameC_some {s s1 : CSt} {i : It} (h : nameC s i = some s1) : (∀ a b, i ≠ .odd a b) ∧ nameB i.nm.cps.toList = true ∧ i.nm ∉ s.names ∧ s.names.length < 30 ∧ s1 = { s with names := s.names ++ [i.nm] } := by
  cases i with
  | odd a b => cases h
  | _ =>
    refine ⟨(by intro a b q; cases q), ?_⟩
    simp only [nameC] at h
    split at h
    · rename_i hc
      exact ⟨hc.1, hc.2.1, hc.2.2, (Option.some.inj h).symm⟩
    · cases h
theorem plainC_some {s s1 : CSt} {i : It} (h : plainC s i = some s1) : s1.names = s.names ∧ s1.nums = s.nums := by
  cases i <;> simp only [plainC] at h <;> first | (split at h <;> first | (cases h; exact ⟨rfl, rfl⟩) | cases h) | (cases h; exact ⟨rfl, rfl⟩)
theorem usesC_some {vis : List Str} {s s1 : CSt} {i : It} (h : usesC vis s i = some s1) : s1 = s := by
  cases i <;> simp only [usesC] at h <;> first | (split at h <;> first | (cases h; rfl) | cases h) | (cases h; rfl)
theorem lengthsC_some {s s1 : CSt} {i : It} (h : lengthsC s i = some s1) : s1 = s := by
  cases i <;> simp only [lengthsC] at h <;> first | (split at h <;> first | (cases h; rfl) | cases h) | (cases h; rfl)
theorem innC_blocks {vis : List Str} {dp : Nat} {s : CSt} {i : It} : innC vis dp s i = blocksC vis dp s i.blocks := by
  cases i <;> simp only [innC, It.blocks, blocksC]
  case rep n u b =>
    cases (if b.length ≤ 12 ∧ dp + 1 ≤ 3 then itemsC vis (dp + 1) s b else none) <;> rfl
theorem Inv.name {vis : List Str} {s : CSt} {n : Str} (h : Inv vis s) (hl : s.names.length < 30) (c : Int) : Inv vis { names := s.names ++ [n], nums := s.nums, checks := c } :=
  ⟨h.vk, fun x hx => List.mem_append_left _ (h.kn x hx), h.ord, by simp; omega, by simp; have := h.nl; omega, h.vl, h.nd⟩
theorem bnd_le {s : CSt} {vis : List Str} (h : Inv vis s) (u : Use) : (bnd s.nums u).1 ≤ (bnd s.nums u).2 := by
  cases u with
  | num i => exact Int.le_refl _
  | nam n =>
    simp only [bnd]
    cases hl : s.nums.lookup n with
    | none => simp
    | some p =>
      have : (n, p) ∈ s.nums := by
        have aux : ∀ l : Nums, l.lookup n = some p → (n, p) ∈ l := by
          intro l
          induction l with
          | nil => intro q; cases q
          | cons a r ih =>
            intro q
            obtain ⟨m, w⟩ := a
            rw [List.lookup_cons] at q
            split at q
            · rename_i e
              cases q
              have : n = m := by simpa using e
              subst this
              exact List.mem_cons_self
            · exact List.mem_cons_of_mem _ (ih q)
        exact aux _ hl
      simpa using h.ord _ this
theorem Inv.num {vis : List Str} {s s5 : CSt} {i : It} (h : Inv vis s5) (hs : Inv vis s) (hn : i.nm ∉ s.names) (e : ∃ e, s5.names = s.names ++ [i.nm] ++ e ∧ ∃ n, s5.nums = s.nums ++ n ∧ (i.blocks = [] → n = [])) (hp : ∀ n sz o lo hi, i = .number n sz o lo hi → lo ≤ hi) : Inv (visC vis i) (numC s5 i) := by
  cases i with
  | number n sz o lo hi =>
    obtain ⟨e, h1, m, h2, h3⟩ := e
    have hm := h3 rfl
    subst hm
    simp only [List.append_nil] at h2
    simp only [It.nm] at hn h1
    simp only [visC, numC]
    have hf : s5.nums.lookup n = none := by
      rw [h2]
      cases hl : s.nums.lookup n with
      | none => rfl
      | some p =>
        exfalso
        have aux : ∀ l : Nums, l.lookup n = some p → ∃ q, (n, q) ∈ l := by
          intro l
          induction l with
          | nil => intro q; cases q
          | cons a r ih =>
            intro q
            obtain ⟨m, w⟩ := a
            rw [List.lookup_cons] at q
            split at q
            · rename_i e
              have : n = m := by simpa using e
              subst this
              exact ⟨_, List.mem_cons_self⟩
            · obtain ⟨q, hq⟩ := ih q
              exact ⟨q, List.mem_cons_of_mem _ hq⟩
        obtain ⟨q, hq⟩ := aux _ hl
        exact hn (hs.kn _ hq)
    refine ⟨fun v hv => ?_, fun x hx => ?_, fun x hx => ?_, h.ln, ?_, ?_, ?_⟩
    · rw [List.lookup_append]
      rcases List.mem_append.mp hv with hv | hv
      · obtain ⟨p, hp⟩ := Option.isSome_iff_exists.mp (h.vk v hv)
        rw [hp]
        rfl
      · rw [List.mem_singleton] at hv
        subst hv
        rw [hf]
        simp
    · rcases List.mem_append.mp hx with hx | hx
      · exact h.kn x hx
      · rw [List.mem_singleton] at hx
        subst hx
        rw [h1]
        simp
    · rcases List.mem_append.mp hx with hx | hx
      · exact h.ord x hx
      · rw [List.mem_singleton] at hx
        subst hx
        exact hp _ _ _ _ _ rfl
    · have := hs.nl
      rw [h1, h2]
      simp
      omega
    · have := h.vl
      simp
      exact this
    · rw [List.map_append, List.nodup_append]
      refine ⟨h.nd, by simp, ?_⟩
      intro a ha c hc e
      simp only [List.map_cons, List.map_nil, List.mem_singleton] at hc
      subst hc
      subst e
      obtain ⟨y, hy, hy2⟩ := List.mem_map.mp ha
      rw [h2] at hy
      exact hn (hy2 ▸ hs.kn y hy)
  | _ => exact h
theorem cons_inv {i : It} {r : List It} (ih1 : ∀ vis dp s s', WfI i → innC vis dp s i = some s' → Inv vis s → Inv vis s' ∧ Ext s s' ∧ ResB s'.nums i.blocks) (ih2 : ∀ vis dp s s', WfL r → itemsC vis dp s r = some s' → Inv vis s → (∃ vis', Inv vis' s') ∧ Ext s s' ∧ ResL s'.nums r)
    (vis : List Str) (dp : Nat) (s s' : CSt) (hw : WfL (i :: r)) (h : itemsC vis dp s (i :: r) = some s') (iv : Inv vis s) : (∃ vis', Inv vis' s') ∧ Ext s s' ∧ ResL s'.nums (i :: r) := by
  unfold WfL at hw
  simp only [itemsC] at h
  obtain ⟨s1, h1, q1⟩ := Option.bind_eq_some_iff.mp h
  obtain ⟨s2, h2, q2⟩ := Option.bind_eq_some_iff.mp q1
  obtain ⟨s3, h3, q3⟩ := Option.bind_eq_some_iff.mp q2
  obtain ⟨s4, h4, q4⟩ := Option.bind_eq_some_iff.mp q3
  obtain ⟨s5, h5, q5⟩ := Option.bind_eq_some_iff.mp q4
  clear h q1 q2 q3 q4
  obtain ⟨n0, n1, n2, n3, rfl⟩ := nameC_some h1
  obtain ⟨p1, p2⟩ := plainC_some h2
  have := usesC_some h3
  subst this
  have := lengthsC_some h5
  subst this
  have iv3 : Inv vis s3 := by
    have := iv.name (n := i.nm) n3 s3.checks
    have e : s3 = { names := s.names ++ [i.nm], nums := s.nums, checks := s3.checks } := by
      cases s3
      simp only at p1 p2
      subst p1 p2
      rfl
    rw [e]
    exact this
  obtain ⟨iv5, ⟨⟨en, e1⟩, em, e2⟩, rb⟩ := ih1 _ _ _ _ hw.1 h4 iv3
  have ivn : Inv (visC vis i) (numC s5 i) := by
    refine iv5.num iv n2 ⟨em, by rw [e2, p1], en, by rw [e1, p2], fun hb => ?_⟩ ?_
    · have : s5 = s3 := by
        rw [innC_blocks, hb] at h4
        simp only [blocksC] at h4
        cases h4
        rfl
      rw [this] at e1
      simpa using e1
    · rintro n sz o lo hi rfl
      simp only [plainC] at h2
      split at h2
      · rename_i hc
        exact hc.2.2.2.1
      · cases h2
  obtain ⟨v', g2, g3⟩ := ih2 _ _ _ _ hw.2 q5 ivn
  have e35 : Ext s3 s5 := ⟨⟨en, e1⟩, em, e2⟩
  have e5n : Ext s5 (numC s5 i) := by
    cases i <;> first | exact Ext.refl _ | exact ⟨⟨[_], rfl⟩, [], by simp [numC]⟩
  have e03 : Ext s s3 := ⟨⟨[], by rw [p2]; simp⟩, [i.nm], p1⟩
  refine ⟨v', Ext.trans e03 (Ext.trans e35 (Ext.trans e5n g2)), ?_⟩
  unfold ResL
  refine ⟨?_, g3⟩
  have rb' : ResB s'.nums i.blocks := by
    obtain ⟨⟨x, hx⟩, _⟩ := Ext.trans e5n g2
    rw [hx]
    exact ResB_ext rb
  have ur : ∀ u : Use, ∀ most, useOk vis s3.nums most u → u.res s'.nums ∧ bnd s'.nums u = bnd s3.nums u := by
    intro u most hu
    obtain ⟨⟨x, hx⟩, _⟩ := Ext.trans e35 (Ext.trans e5n g2)
    rw [hx]
    refine Use.res_ext ?_
    cases u with
    | num i => trivial
    | nam n => exact iv3.vk n hu.1
  cases i with
  | bytes n u =>
    simp only [usesC] at h3
    split at h3
    · rename_i hc
      unfold ResI
      exact (ur u _ hc).1
    · cases h3
  | rep n u b =>
    simp only [usesC] at h3
    split at h3
    · rename_i hc
      obtain ⟨u1, u2⟩ := ur u _ hc
      unfold ResI
      simp only [It.blocks, ResB] at rb'
      rw [u2]
      have := bnd_le iv3 u
      have h0 := hc.2.1
      have h1 := hc.2.2
      exact ⟨⟨u1, by omega, h1⟩, h0, by omega, rb'.1, rb'.2.1⟩
    · cases h3
  | eit n bs =>
    simp only [plainC] at h2
    split at h2
    · rename_i hc
      unfold ResI
      exact ⟨by intro q; subst q; simp at hc, by omega, rb'⟩
    · cases h2
  | swi n w vs bs =>
    simp only [plainC] at h2
    have hwl := hw.1
    unfold WfI at hwl
    split at h2
    · rename_i hc
      unfold ResI
      have := hwl.2.2.2.1
      exact ⟨by intro q; subst q; simp at this; simp [this] at hc, by omega, this, rb'⟩
    · cases h2
  | odd a b => exact absurd rfl (n0 a b)
  | _ => unfold ResI; trivial
/-- what a check that was passed tells -/
theorem items_inv (i : It) : (∀ vis dp s s', WfI i → innC vis dp s i = some s' → Inv vis s → Inv vis s' ∧ Ext s s' ∧ ResB s'.nums i.blocks) := by
  refine It.rec (motive_1 := fun i => ∀ vis dp s s', WfI i → innC vis dp s i = some s' → Inv vis s → Inv vis s' ∧ Ext s s' ∧ ResB s'.nums i.blocks)
    (motive_2 := fun b => ∀ vis dp s s', WfL b → itemsC vis dp s b = some s' → Inv vis s → (∃ vis', Inv vis' s') ∧ Ext s s' ∧ ResL s'.nums b)
    (motive_3 := fun bs => ∀ vis dp s s', WfB bs → blocksC vis dp s bs = some s' → Inv vis s → Inv vis s' ∧ Ext s s' ∧ ResB s'.nums bs) ?_ ?_ ?_ ?_ ?_ ?_ ?_ ?_ ?_ ?_ ?_ ?_ ?_ i
  · intro n sz o lo hi vis dp s s' hw h iv; simp only [innC] at h; cases h; exact ⟨iv, Ext.refl _, by simp [It.blocks, ResB]⟩
  · intro n u vis dp s s' hw h iv; simp only [innC] at h; cases h; exact ⟨iv, Ext.refl _, by simp [It.blocks, ResB]⟩
  · intro n sz o vis dp s s' hw h iv; simp only [innC] at h; cases h; exact ⟨iv, Ext.refl _, by simp [It.blocks, ResB]⟩
  · intro n sz vis dp s s' hw h iv; simp only [innC] at h; cases h; exact ⟨iv, Ext.refl _, by simp [It.blocks, ResB]⟩
  · intro n sz o vis dp s s' hw h iv; simp only [innC] at h; cases h; exact ⟨iv, Ext.refl _, by simp [It.blocks, ResB]⟩
  · intro n u b ih vis dp s s' hw h iv
    simp only [innC] at h
    unfold WfI at hw
    split at h
    · rename_i hc
      obtain ⟨⟨v', g1⟩, g2, g3⟩ := ih _ _ _ _ hw.2.2 h iv
      exact ⟨iv.back g1 g2, g2, by simp [It.blocks, ResB, hc.1, g3]⟩
    · cases h
  · intro n bs ih vis dp s s' hw h iv
    simp only [innC] at h
    unfold WfI at hw
    exact ih _ _ _ _ hw.2.2 h iv
  · intro n w vs bs ih vis dp s s' hw h iv
    simp only [innC] at h
    unfold WfI at hw
    exact ih _ _ _ _ hw.2.2.2.2 h iv
  · intro a b vis dp s s' hw h iv; simp only [innC] at h; cases h; exact ⟨iv, Ext.refl _, by simp [It.blocks, ResB]⟩
  · intro vis dp s s' hw h iv
    simp only [itemsC] at h
    cases h
    exact ⟨⟨vis, iv⟩, Ext.refl _, by simp [ResL]⟩
  · intro i r ih1 ih2
    exact cons_inv ih1 ih2
  · intro vis dp s s' hw h iv
    simp only [blocksC] at h
    cases h
    exact ⟨iv, Ext.refl _, by simp [ResB]⟩
  · intro b r ih1 ih2 vis dp s s' hw h iv
    unfold WfB at hw
    simp only [blocksC] at h
    obtain ⟨s1, h1, h⟩ := Option.bind_eq_some_iff.mp h
    split at h1
    · rename_i hc
      obtain ⟨⟨v', g1⟩, g2, g3⟩ := ih1 _ _ _ _ hw.1 h1 iv
      obtain ⟨f1, f2, f3⟩ := ih2 _ _ _ _ hw.2 h (iv.back g1 g2)
      refine ⟨f1, Ext.trans g2 f2, ?_⟩
      unfold ResB
      obtain ⟨⟨x, hx⟩, _⟩ := f2
      refine ⟨hc.1, ?_, f3⟩
      rw [hx]
      exact ResL_ext g3
    · cases h1
theorem items_invL : ∀ (b : List It) (vis : List Str) (dp : Nat) (s s' : CSt), WfL b → itemsC vis dp s b = some s' → Inv vis s → (∃ vis', Inv vis' s') ∧ Ext s s' ∧ ResL s'.nums b
  | [], vis, dp, s, s', hw, h, iv => by
    simp only [itemsC] at h
    cases h
    exact ⟨⟨vis, iv⟩, Ext.refl _, by simp [ResL]⟩
  | i :: r, vis, dp, s, s', hw, h, iv => cons_inv (items_inv i) (fun vis dp s s' => items_invL r vis dp s s') vis dp s s' hw h iv
end L05

namespace L05
open PySem PySem.Spec PyProof.Rows L2 ML

theorem lookup_all {p : Dv → Prop} {k : Str} {v : Dv} : ∀ {l : List (Str × Dv)}, (∀ x ∈ l, p x.2) → l.lookup k = some v → p v
  | [], _, h => by cases h
  | a :: r, hp, h => by
    obtain ⟨m, w⟩ := a
    rw [List.lookup_cons] at h
    split at h
    · cases h
      exact hp _ List.mem_cons_self
    · exact lookup_all (fun x hx => hp x (List.mem_cons_of_mem _ hx)) h
theorem parts_int {k : Str} {v : Dv} (h : k_PARTS.lookup k = some v) : ∃ m : Int, v = .int m := by
  refine lookup_all (l := k_PARTS) (p := fun v => ∃ m : Int, v = .int m) ?_ h
  intro x hx
  simp only [k_PARTS, List.mem_cons, List.not_mem_nil, or_false] at hx
  rcases hx with rfl | rfl | rfl | rfl | rfl | rfl | rfl | rfl <;> exact ⟨_, rfl⟩
theorem item_form {T : Sto} {d : Dv} {i : It} (hi : IsI T d i) (ho : ∀ a b, i ≠ .odd a b) : ∃ kind rest, seqOf T d = some (.str kind :: .str i.nm :: rest) ∧ k_PARTS.lookup kind = some (.int ((rest.length : Int) + 1 + 1)) ∧ PyData.strOk kind = true ∧ ((kind == Str.ofString "number") = true ↔ ∃ n sz o lo hi, i = .number n sz o lo hi) := by
  cases i with
  | odd a b => exact absurd rfl (ho a b)
  | number n sz o lo hi' =>
    unfold IsI at hi
    exact ⟨_, _, hi, rfl, so_number, by simp⟩
  | bytes n u =>
    unfold IsI at hi
    exact ⟨_, _, hi, rfl, so_bytes, by simp⟩
  | text n u m =>
    unfold IsI at hi
    exact ⟨_, _, hi, rfl, so_text, by simp⟩
  | check n u =>
    unfold IsI at hi
    exact ⟨_, _, hi, rfl, so_check, by simp⟩
  | pad n u m =>
    unfold IsI at hi
    exact ⟨_, _, hi, rfl, so_pad, by simp⟩
  | rep n u b =>
    unfold IsI at hi
    obtain ⟨db, hi, _⟩ := hi
    exact ⟨_, _, hi, rfl, so_repeat, by simp⟩
  | eit n b =>
    unfold IsI at hi
    obtain ⟨db, l, hi, _⟩ := hi
    exact ⟨_, _, hi, rfl, so_either, by simp⟩
  | swi n w vs bs =>
    unfold IsI at hi
    obtain ⟨db, cs, l, hi, _⟩ := hi
    exact ⟨_, _, hi, rfl, so_switch, by simp⟩
theorem nm_wf {i : It} (h : WfI i) (ho : ∀ a b, i ≠ .odd a b) : okS i.nm := by
  cases i with
  | odd a b => exact absurd rfl (ho a b)
  | _ => unfold WfI at h; first | exact h | exact h.1
theorem WfL_all : ∀ {b : List It}, WfL b ↔ ∀ i ∈ b, WfI i
  | [] => by unfold WfL; simp
  | i :: r => by unfold WfL; rw [WfL_all (b := r)]; simp
theorem WfB_all : ∀ {b : List (List It)}, WfB b ↔ ∀ i ∈ b, WfL i
  | [] => by unfold WfB; simp
  | i :: r => by unfold WfB; rw [WfB_all (b := r)]; simp
theorem blocks_wf {i : It} (h : WfI i) : WfB i.blocks := by
  cases i <;> unfold WfI at h <;> simp only [It.blocks] <;> first | exact h.2.2 | exact h.2.2.2.2 | (unfold WfB; first | trivial | (unfold WfB; exact ⟨h.2.2, trivial⟩))
theorem hB_blocks {i : It} {b : List It} (h : b ∈ i.blocks) : hL b + 1 ≤ hI i := by
  cases i <;> simp only [It.blocks, List.not_mem_nil] at h
  · rw [List.mem_singleton] at h
    subst h
    unfold hI
    omega
  · have := hL_mem h
    unfold hI
    omega
  · have := hL_mem h
    unfold hI
    omega
theorem IsB_get {T : Sto} {b : List It} {bs : List (List It)} : ∀ {ds : List Dv}, IsB T ds bs → ∀ {j : Nat} {x : Dv}, ds[j]? = some x → bs[j]? = some b → ∃ l, seqOf T x = some l ∧ IsL T l b := by
  induction bs with
  | nil => intro ds h j x h1 h2; cases h2
  | cons c r ih =>
    intro ds h j x h1 h2
    unfold IsB at h
    obtain ⟨d, t, rfl, g1, g2⟩ := h
    cases j with
    | zero =>
      cases h1
      cases h2
      exact g1
    | succ j => exact ih g2 h1 h2
theorem IsL_get {T : Sto} {b : It} {bs : List It} : ∀ {ds : List Dv}, IsL T ds bs → ∀ {j : Nat} {x : Dv}, ds[j]? = some x → bs[j]? = some b → IsI T x b := by
  induction bs with
  | nil => intro ds h j x h1 h2; cases h2
  | cons c r ih =>
    intro ds h j x h1 h2
    unfold IsL at h
    obtain ⟨d, t, rfl, g1, g2⟩ := h
    cases j with
    | zero =>
      cases h1
      cases h2
      exact g1
    | succ j => exact ih g2 h1 h2
theorem rn_blocksT {k : Nat} {T : Sto} {d : Dv} {i : It} (hi : IsI T d i) (hw : i.blocks.length ≤ 1000) (ho : ∀ a b, i ≠ .odd a b) : ∃ ds, IsB T ds i.blocks ∧ ∀ s E P, Wm (run (k + 1) fn_blocks_of [d]) (stS T s E) P ↔ P (.ok (.lst ds) (stS T s E)) := by
  obtain ⟨ds, h1, h2⟩ := rn_blocksX (k := k) hi hw ho
  exact ⟨ds, h1, fun s E P => h2 _ P⟩
theorem step_inv {vis : List Str} {dp : Nat} {i : It} {s s1 s2 s3 s4 s5 : CSt} (hw : WfI i) (h1 : nameC s i = some s1) (h2 : plainC s1 i = some s2) (h3 : usesC vis s2 i = some s3) (h4 : innC vis dp s3 i = some s4) (h5 : lengthsC s4 i = some s5) (iv : Inv vis s) :
    Inv (visC vis i) (numC s5 i) ∧ ∀ n sz o lo hi, i = .number n sz o lo hi → s5.nums = s.nums := by
  obtain ⟨n0, n1, n2, n3, rfl⟩ := nameC_some h1
  obtain ⟨p1, p2⟩ := plainC_some h2
  have := usesC_some h3
  subst this
  have := lengthsC_some h5
  subst this
  have iv3 : Inv vis s3 := by
    have := iv.name (n := i.nm) n3 s3.checks
    have e : s3 = { names := s.names ++ [i.nm], nums := s.nums, checks := s3.checks } := by
      cases s3
      simp only at p1 p2
      subst p1 p2
      rfl
    rw [e]
    exact this
  obtain ⟨iv5, ⟨⟨en, e1⟩, em, e2⟩, rb⟩ := items_inv i _ _ _ _ hw h4 iv3
  have hb : i.blocks = [] → s5 = s3 := fun hb => by
    rw [innC_blocks, hb] at h4
    simp only [blocksC] at h4
    cases h4
    rfl
  refine ⟨iv5.num iv n2 ⟨em, by rw [e2, p1], en, by rw [e1, p2], fun q => ?_⟩ ?_, ?_⟩
  · rw [hb q] at e1
    simpa using e1
  · rintro n sz o lo hi rfl
    simp only [plainC] at h2
    split at h2
    · rename_i hc
      exact hc.2.2.2.1
    · cases h2
  · rintro n sz o lo hi rfl
    rw [hb rfl]
    exact p2
theorem inner_inv {vis : List Str} {dp : Nat} {i : It} {s s1 s2 s3 : CSt} (h1 : nameC s i = some s1) (h2 : plainC s1 i = some s2) (h3 : usesC vis s2 i = some s3) (iv : Inv vis s) : Inv vis s3 := by
  obtain ⟨n0, n1, n2, n3, rfl⟩ := nameC_some h1
  obtain ⟨p1, p2⟩ := plainC_some h2
  have := usesC_some h3
  subst this
  have := iv.name (n := i.nm) n3 s3.checks
  have e : s3 = { names := s.names ++ [i.nm], nums := s.nums, checks := s3.checks } := by
    cases s3
    simp only at p1 p2
    subst p1 p2
    rfl
  rw [e]
  exact this
theorem okS_nil : okS (Str.ofString "") := ⟨by decide +kernel, by decide +kernel⟩
theorem block_inv {vis : List Str} {dp : Nat} {b : List It} {s s' : CSt} (hw : WfL b) (h : listC' vis (dp + 1) s b = some s') (iv : Inv vis s) : Inv vis s' := by
  refine (items_inv (.rep (Str.ofString "") (.num 0) b) vis dp s s' ?_ ?_ iv).1
  · unfold WfI
    exact ⟨okS_nil, trivial, hw⟩
  · simp only [innC]
    exact h
theorem blocks_8 {s s1 : CSt} {i : It} (hw : WfI i) (h : plainC s i = some s1) : i.blocks.length ≤ 8 := by
  cases i <;> simp only [It.blocks, List.length_nil, List.length_singleton, Nat.zero_le, Nat.reduceLeDiff] <;> simp only [plainC] at h <;> split at h
  · rename_i hc
    omega
  · cases h
  · rename_i hc
    unfold WfI at hw
    omega
  · cases h
theorem putKD_new {n : Str} {lo hi : Int} {nums : Nums} (h : ∀ x ∈ nums, x.1 ≠ n) : putKD (numD nums) (.inr n) (.tup [.int lo, .int hi]) = numD (nums ++ [(n, lo, hi)]) := by
  unfold putKD
  have : ((numD nums).any fun kv => decide (kv.1 = (Sum.inr n : Key))) = false := by
    rw [List.any_eq_false]
    intro p hp
    obtain ⟨x, hx, rfl⟩ := List.mem_map.mp hp
    simp only [decide_eq_true_eq]
    exact fun q => h x hx (Sum.inr.inj q)
  rw [this]
  simp [numD]
@[simp] theorem st_topG {T : Sto} {s : CSt} {E : List (List Str)} {v : List Str} {h : T.length + 4 + E.length < (stS T s (E ++ [v])).length} : (stS T s (E ++ [v]))[T.length + 4 + E.length] = .lst (v.map .str) := by
  have := st_top (T := T) (s := s) (E := E) (v := v)
  rw [List.getElem?_eq_getElem h] at this
  exact Option.some.inj this
/-- check_items -/
theorem wm_items : ∀ (k : Nat) {b : List It} {T : Sto} {s : CSt} {E : List (List Str)} {vis : List Str} {dp : Nat} {d dv : Dv} {l : List Dv}, 2 * hL b + 5 ≤ k → T.all (belowC T.length) = true → seqOf T d = some l → IsL T l b → WfL b → Inv vis s → seqOf (stS T s E) dv = some (vis.map .str) →
    ∀ {P : Rs Dv → Prop}, chkR T E P (listC' vis dp s b) → Wm (run k fn_ShapeCheck__check_items [.ref (T.length + 1), d, dv, .int dp]) (stS T s E) P := by
  intro k
  induction k with
  | zero => intro b T s E vis dp d dv l hk; omega
  | succ k ih =>
    intro b T s E vis dp d dv l hk hT hd hl hw iv hv P h
    have hz := szl
    rw [rn_ShapeCheck__check_items, wm_def, m_ShapeCheck__check_items]
    have hdl := IsL_length hl
    have hds := st_seq hd s E
    unfold listC' at h
    obtain ⟨k, rfl⟩ : ∃ j, k = j + 4 := ⟨k - 4, by omega⟩
    by_cases g1 : b.length ≤ 12
    · by_cases g2 : dp ≤ 3
      · rw [if_pos ⟨g1, g2⟩] at h
        have hvl : (vis.map Dv.str).length ≤ sizeLine := by
          have := iv.vl
          have := iv.nl
          have := iv.ln
          simp
          omega
        rw [ws_seq]
        simp [seq_len hds, hdl, wm_require, show (b.length : Int) ≤ 12 by omega, show (dp : Int) ≤ 3 by omega, seq_listC hv hvl, -ws_seq]
        rw [ws_seq]
        simp [seq_len hds, hdl, wm_require, seq_listC hv hvl, st_app, ws_for, seq_src (st_seq hd _ _), -ws_seq]
        rw [show seqOf (stS T s (E ++ [vis])) d = some l from st_seq hd _ _]
        simp only [wopt_some]
        generalize hres : itemsC vis dp s b = res at h
        have herr : ∀ S' : Sto, S'.take T.length = T → res = none → P (.er ⟨"InvalidShape", []⟩ S') := fun S' hS e => by
          rw [e] at h
          exact h _ hS
        refine forL_inv (fun j env S' => ∃ s' v', S' = stS T s' (E ++ [v']) ∧ j ≤ b.length ∧ Inv v' s' ∧ itemsC v' dp s' (b.drop j) = res ∧ ∃ a c, env = [some (.ref (T.length + 1)), some d, some dv, some (.int dp), some (.ref (T.length + 4 + E.length)), a, c]) l 0 _ _ rfl ?_ ?_ ?_ (Nat.zero_le _) ?_
        · rintro j env S' ⟨s', v', rfl, -⟩
          exact st_seq hd _ _
        · rintro j x env S' hx ⟨s', v', rfl, hj, iv', hr, a, c, rfl⟩
          have hjl : j < b.length := by
            rcases Nat.lt_or_ge j b.length with q | q
            · exact q
            · rw [List.getElem?_eq_none (by rw [hdl]; exact q)] at hx
              cases hx
          have hxi : IsI T x b[j] := IsL_get hl hx (List.getElem?_eq_getElem hjl)
          have hwi := WfL_all.mp hw _ (List.getElem_mem hjl)
          have hhi := hI_mem (List.getElem_mem hjl)
          rw [List.drop_eq_getElem_cons hjl] at hr
          generalize b[j] = i at *
          simp only [itemsC] at hr
          simp only [at_gSet, wm_pure, List.set]
          by_cases ho : ∃ p q, i = .odd p q
          · obtain ⟨p, q, rfl⟩ := ho
            simp only [nameC, Option.bind_none] at hr
            unfold IsI at hxi
            have hxi := st_seq hxi s' (E ++ [v'])
            unfold WfI at hwi
            obtain ⟨w1, w2, w3⟩ := hwi
            have fin := herr (stS T s' (E ++ [v'])) st_take hr.symm
            rw [ws_seq]
            by_cases hr0 : q = []
            · subst hr0
              simp [seq_len hxi, wm_require, -ws_seq]
              exact fin
            · have hq : 0 < q.length := List.length_pos_iff.mpr hr0
              cases hp : k_PARTS.lookup p with
              | none =>
                simp [seq_len hxi, seq_ix hxi, wm_require, hp, show (1 : Int) < q.length + 1 by omega, -ws_seq]
                exact fin
              | some v =>
                obtain ⟨m, rfl⟩ := parts_int hp
                have hne : ((q.length : Int) + 1 == m) = false := by
                  rw [beq_eq_false_iff_ne]
                  intro e
                  rcases w3 with w3 | w3
                  · exact hr0 w3
                  · exact w3 (by rw [hp, e])
                simp [seq_len hxi, seq_ix hxi, wm_require, hp, show (1 : Int) < q.length + 1 by omega, hne, -ws_seq]
                exact fin
          · have ho' : ∀ p q, i ≠ .odd p q := fun p q e => ho ⟨p, q, e⟩
            obtain ⟨kind, rest, hf, hp, hk', hnum⟩ := item_form hxi ho'
            have hix : ∀ s E z, ixD (stS T s E) x (.int z) = L2.atI (.str kind :: .str i.nm :: rest) z := fun s E z => seq_ix (st_seq hf s E) z
            have hln : ∀ s E, lenD (stS T s E) [x] = some (.int ((rest.length : Int) + 1 + 1)) := fun s E => by
              rw [seq_len (st_seq hf s E)]
              rfl
            have hnn : ∀ s E w, ninD (stS T s E) (.str w) (.ref (T.length + 2)) = some (.bl (decide (w ∉ s.names))) := fun s E w => seq_nin (l := s.names) (by
              show listOf (stS T s E) (.ref (T.length + 2)) = _
              simp)
            have hnm := nm_wf hwi ho'
            rw [ws_seq]
            simp [hln, hix, hp, wm_require, show (1 : Int) < (rest.length : Int) + 1 + 1 by omega, -ws_seq]
            rw [ws_seq]
            by_cases n1 : nameB i.nm.cps.toList = true
            · by_cases n2 : i.nm ∈ s'.names
              · have hnc : nameC s' i = none := by
                  cases i with
                  | odd p q => rfl
                  | _ => simp only [nameC]; exact if_neg fun q => q.2.1 n2
                rw [hnc] at hr
                simp [hln, hix, wm_is_name hnm.1, n1, n2, hnn, wm_require, -ws_seq]
                exact herr _ st_take hr.symm
              · by_cases n3 : s'.names.length < 30
                · have hnc : nameC s' i = some { s' with names := s'.names ++ [i.nm] } := by
                    cases i with
                    | odd p q => exact absurd rfl (ho' p q)
                    | _ => simp only [nameC]; exact if_pos ⟨n1, n2, n3⟩
                  rw [hnc, Option.bind_some] at hr
                  simp [hln, hix, wm_is_name hnm.1, n1, n2, hnn, wm_require, show (s'.names.length : Int) < 30 by omega, -ws_seq]
                  rw [ws_seq]
                  simp [hix, hz, show s'.names.length < 16777216 by omega, -ws_seq]
                  rw [ws_seq]
                  simp [-ws_seq]
                  generalize hs1 : ({ names := s'.names ++ [i.nm], nums := s'.nums, checks := s'.checks } : CSt) = s1 at *
                  refine wm_plain (k := k + 2) hxi hwi ho' ?_
                  cases hpl : plainC s1 i with
                  | none =>
                    rw [hpl] at hr
                    intro S' hS
                    exact herr _ hS hr.symm
                  | some s2 =>
                    rw [hpl, Option.bind_some] at hr
                    have iv3a := fun s3 h3 => inner_inv (dp := dp) (s2 := s2) (s3 := s3) hnc hpl h3 iv'
                    obtain ⟨p1, p2⟩ := plainC_some hpl
                    have hvk : ∀ v ∈ v', (s2.nums.lookup v).isSome = true := fun v hv => by
                      rw [p2, ← hs1]
                      exact iv'.vk v hv
                    have htop : ∀ s, seqOf (stS T s (E ++ [v'])) (.ref (T.length + 4 + E.length)) = some (v'.map .str) := fun s => by
                      show listOf (stS T s (E ++ [v'])) (.ref (T.length + 4 + E.length)) = _
                      rw [list_ref, st_top]
                      rfl
                    rw [chkR_some]
                    simp only [xk_ok, sk_nx]
                    rw [ws_seq]
                    simp [-ws_seq]
                    refine wm_uses (k := k + 2) hxi (htop s2) hvk ?_ ho'
                    cases hu : usesC v' s2 i with
                    | none =>
                      rw [hu] at hr
                      intro S' hS
                      exact herr _ hS hr.symm
                    | some s3 =>
                      rw [hu, Option.bind_some] at hr
                      have iv3 := iv3a s3 hu
                      have h8 := blocks_8 hwi hpl
                      obtain ⟨ds, b1, b2⟩ := rn_blocksT (k := k + 3) hxi (by omega) ho'
                      have hbl := IsB_length b1
                      have hwb := blocks_wf hwi
                      rw [chkR_some]
                      simp only [xk_ok, sk_nx]
                      rw [ws_seq]
                      simp [-ws_seq, ws_for, b2]
                      rw [innC_blocks] at hr
                      refine for_inv (fun m env S' => ∃ s'' c', S' = stS T s'' (E ++ [v']) ∧ m ≤ i.blocks.length ∧ Inv v' s'' ∧ blocksC v' dp s'' (i.blocks.drop m) = blocksC v' dp s3 i.blocks ∧ env = [some (.ref (T.length + 1)), some d, some dv, some (.int dp), some (.ref (T.length + 4 + E.length)), some x, c']) ?_ ?_ ?_
                      · exact ⟨s3, _, rfl, Nat.zero_le _, iv3, by rw [List.drop_zero], rfl⟩
                      · rintro m y env S' hy ⟨s'', c', rfl, hm, iv'', hb, rfl⟩
                        have hml : m < i.blocks.length := by
                          rcases Nat.lt_or_ge m i.blocks.length with q | q
                          · exact q
                          · rw [List.getElem?_eq_none (by rw [hbl]; exact q)] at hy
                            cases hy
                        obtain ⟨yl, y1, y2⟩ := IsB_get b1 hy (List.getElem?_eq_getElem hml)
                        have hyw := WfB_all.mp hwb _ (List.getElem_mem hml)
                        have hyh := hB_blocks (List.getElem_mem hml)
                        rw [List.drop_eq_getElem_cons hml] at hb
                        generalize i.blocks[m] = bl at *
                        have ihm := fun (P : Rs Dv → Prop) (hP : chkR T (E ++ [v']) P (listC' v' (dp + 1) s'' bl)) => ih (b := bl) (T := T) (s := s'') (E := E ++ [v']) (vis := v') (dp := dp + 1) (d := y) (dv := .ref (T.length + 4 + E.length)) (by omega) hT y1 y2 hyw iv'' (htop s'') hP
                        simp
                        have hcast : ((dp + 1 : Nat) : Int) = (dp : Int) + 1 := by omega
                        rw [hcast] at ihm
                        refine ihm _ ?_
                        simp only [blocksC] at hb
                        have hbq : (if bl.length ≤ 12 ∧ dp + 1 ≤ 3 then itemsC v' (dp + 1) s'' bl else none) = listC' v' (dp + 1) s'' bl := rfl
                        rw [hbq] at hb
                        cases hl2 : listC' v' (dp + 1) s'' bl with
                        | none =>
                          rw [hl2] at hb
                          intro S' hS
                          refine herr _ hS ?_
                          rw [← hr, ← hb]
                          rfl
                        | some s6 =>
                          rw [hl2, Option.bind_some] at hb
                          exact ⟨s6, rfl, by omega, block_inv hyw hl2 iv'', hb⟩
                      · rintro env S' ⟨s4, c', rfl, hm, iv4, hb, rfl⟩
                        rw [hbl, List.drop_length] at hb
                        simp only [blocksC] at hb
                        have hinn : innC v' dp s3 i = some s4 := by rw [innC_blocks, ← hb]
                        obtain ⟨-, -, rb⟩ := items_inv i _ _ _ _ hwi hinn iv3
                        rw [← hb, Option.bind_some] at hr
                        simp only [xk_ok, sk_nx]
                        rw [ws_seq]
                        simp [-ws_seq]
                        refine wm_lengths (k := k + 4) (by omega) hxi ho' h8 rb ?_
                        cases hlc : lengthsC s4 i with
                        | none =>
                          rw [hlc] at hr
                          intro S' hS
                          exact herr _ hS hr.symm
                        | some s5 =>
                          rw [hlc, Option.bind_some] at hr
                          obtain ⟨iv6, hsame⟩ := step_inv hwi hnc hpl hu hinn hlc iv'
                          rw [chkR_some]
                          simp only [xk_ok, sk_nx]
                          by_cases hn : ∃ n sz o lo hi, i = .number n sz o lo hi
                          · have hkn := hnum.mpr hn
                            obtain ⟨n, sz, o, lo, hi, rfl⟩ := hn
                            have hsm := hsame _ _ _ _ _ rfl
                            have hfr : ∀ z ∈ s5.nums, z.1 ≠ n := fun z hz e => by
                              rw [hsm] at hz
                              exact n2 (e ▸ iv'.kn z hz)
                            have hnl : s5.nums.length < 16777216 := by
                              rw [hsm]
                              have := iv'.nl
                              have := iv'.ln
                              omega
                            have hvl' : v'.length < 16777216 := by
                              have := iv'.vl
                              have := iv'.nl
                              have := iv'.ln
                              omega
                            unfold IsI at hxi
                            have hix2 : ∀ s E z, ixD (stS T s E) x (.int z) = L2.atI [.str "number", .str n, .int sz, .str o, .int lo, .int hi] z := fun s E z => seq_ix (st_seq hxi s E) z
                            simp [hix2, hz, hnl, hvl', putKD_new hfr, st_setNum]
                            exact ⟨_, _, rfl, by omega, iv6, hr⟩
                          · have hkn : (kind == Str.ofString "number") = false := by
                              rw [Bool.eq_false_iff]
                              exact fun q => hn (hnum.mp q)
                            have hnum1 : numC s5 i = s5 := by cases i <;> first | rfl | exact absurd ⟨_, _, _, _, _, rfl⟩ hn
                            have hnum2 : visC v' i = v' := by cases i <;> first | rfl | exact absurd ⟨_, _, _, _, _, rfl⟩ hn
                            rw [hnum1, hnum2] at iv6 hr
                            simp [hix, hk', hkn]
                            exact ⟨s5, v', rfl, by omega, iv6, hr⟩
                · have hnc : nameC s' i = none := by
                    cases i with
                    | odd p q => rfl
                    | _ => simp only [nameC]; exact if_neg fun q => n3 q.2.2
                  rw [hnc] at hr
                  simp [hln, hix, wm_is_name hnm.1, n1, n2, hnn, wm_require, show ¬ (s'.names.length : Int) < 30 by omega, -ws_seq]
                  exact herr _ st_take hr.symm
            · have hnc : nameC s' i = none := by
                cases i with
                | odd p q => rfl
                | _ => simp only [nameC]; exact if_neg fun q => n1 q.1
              rw [hnc] at hr
              simp [hln, hix, wm_is_name hnm.1, n1, wm_require, -ws_seq]
              exact herr _ st_take hr.symm
        · rintro env S' ⟨s', v', rfl, hj, iv', hr, a, c, rfl⟩
          rw [hdl, List.drop_length] at hr
          simp only [itemsC] at hr
          rw [← hr] at h
          simp only [chkR_some] at h
          simp [st_gc hT]
          exact h
        · exact ⟨s, vis, rfl, Nat.zero_le _, iv, by rw [List.drop_zero]; exact hres, _, _, rfl⟩
      · rw [if_neg (fun q => g2 q.2)] at h
        simp [seq_len hds, hdl, wm_require, show (b.length : Int) ≤ 12 by omega, show ¬ (dp : Int) ≤ 3 by omega]
        exact h _ st_take
    · rw [if_neg (fun q => g1 q.1)] at h
      simp [seq_len hds, hdl, wm_require, show ¬ (b.length : Int) ≤ 12 by omega]
      exact h _ st_take
end L05

namespace L05
open PySem PySem.Spec PyProof.Rows L2 ML

/-! ### a shape is made -/
def numE (x : Str × Int × Int) : Key × Dv := (.inr x.1, .tup [.int x.2.1, .int x.2.2])
theorem numD_map {nums : Nums} : numD nums = nums.map numE := rfl
theorem compDL_copy {S : Sto} {l0 : List Dv} {el : Dv → M (Option (Key × Dv))} {nums : Nums} (nd : (nums.map (·.1)).Nodup) (hl : nums.length ≤ sizeLine) (he : ∀ x ∈ nums, el (.str x.1) S = some (.ok (some (numE x)) S)) :
    ∀ (r dn : Nums), nums = dn ++ r → compDL (fun _ => some l0) l0 el (r.map fun x => .str x.1) (numD dn) S = some (.ok (numD nums) S)
  | [], dn, e => by
    simp only [List.append_nil] at e
    subst e
    simp [compDL]
  | x :: r, dn, e => by
    have hx : x ∈ nums := by rw [e]; simp
    have hlt : (numD dn).length < sizeLine := by
      rw [numD_len]
      rw [e, List.length_append, List.length_cons] at hl
      omega
    have hfr : ∀ z ∈ dn, z.1 ≠ x.1 := by
      intro z hz q
      rw [e, List.map_append, List.nodup_append] at nd
      exact nd.2.2 z.1 (List.mem_map_of_mem hz) x.1 (by simp) q
    have hput : putKD (numD dn) (.inr x.1) (.tup [.int x.2.1, .int x.2.2]) = numD (dn ++ [x]) := putKD_new hfr
    rw [List.map_cons, compDL]
    dsimp only
    rw [if_pos rfl, he x hx]
    simp only [numE]
    rw [if_pos hlt, hput]
    exact compDL_copy nd hl he r (dn ++ [x]) (by rw [e]; simp)
/-- the store in which a shape is made -/
def stG (T : Sto) (sh : Cell) (s : CSt) (nc : Cell) (X : Sto) : Sto := T ++ sh :: chkC T.length s.checks :: .lst (s.names.map .str) :: nc :: X
theorem stS_G {T : Sto} {s : CSt} : stS T s [] = stG T (.ins "Shape" []) s (.dct (numD s.nums)) [] := rfl
@[simp high] theorem sg_sh {T : Sto} {sh : Cell} {s : CSt} {nc : Cell} {X : Sto} : (stG T sh s nc X)[T.length]? = some sh := by
  unfold stG
  have := ap_ix (T := T) (X := sh :: chkC T.length s.checks :: .lst (s.names.map .str) :: nc :: X) (n := 0)
  rw [Nat.add_zero] at this
  rw [this]
  rfl
@[simp high] theorem sg_chk {T : Sto} {sh : Cell} {s : CSt} {nc : Cell} {X : Sto} : (stG T sh s nc X)[T.length + 1]? = some (chkC T.length s.checks) := by unfold stG; rw [ap_ix]; rfl
@[simp high] theorem sg_nam {T : Sto} {sh : Cell} {s : CSt} {nc : Cell} {X : Sto} : (stG T sh s nc X)[T.length + 2]? = some (.lst (s.names.map .str)) := by unfold stG; rw [ap_ix]; rfl
@[simp high] theorem sg_num {T : Sto} {sh : Cell} {s : CSt} {nc : Cell} {X : Sto} : (stG T sh s nc X)[T.length + 3]? = some nc := by unfold stG; rw [ap_ix]; rfl
@[simp high] theorem sg_len {T : Sto} {sh : Cell} {s : CSt} {nc : Cell} {X : Sto} : (stG T sh s nc X).length = T.length + 4 + X.length := by
  simp [stG]
  omega
@[simp high] theorem sg_setSh {T : Sto} {sh sh' : Cell} {s : CSt} {nc : Cell} {X : Sto} : (stG T sh s nc X).set T.length sh' = stG T sh' s nc X := by
  unfold stG
  have := set_ap (T := T) (X := sh :: chkC T.length s.checks :: .lst (s.names.map .str) :: nc :: X) (n := 0) (c := sh')
  rw [Nat.add_zero] at this
  rw [this]
  rfl
@[simp high] theorem sg_setNum {T : Sto} {sh : Cell} {s : CSt} {nc nc' : Cell} {X : Sto} : (stG T sh s nc X).set (T.length + 3) nc' = stG T sh s nc' X := by unfold stG; rw [set_ap]; rfl
@[simp high] theorem sg_app {T : Sto} {sh : Cell} {s : CSt} {nc c : Cell} {X : Sto} : stG T sh s nc X ++ [c] = stG T sh s nc (X ++ [c]) := by simp [stG]
/-- a shape -/
def shpC (p : Nat) (b : List It) (names : List Str) (bd : Nat) : Cell := .ins "Shape" [("parts", .tup (frL b)), ("names", .tup (names.map .str)), ("bounds", .ref bd)]
def shS (T : Sto) (b : List It) (s : CSt) : Sto := stG T (shpC T.length b s.names (T.length + 4)) s (.dct (numD s.nums)) [.dct (numD s.nums)]
theorem gc_no {n : Nat} {d : Dv} {S : Sto} {c : Cell} {i : Nat} (hi : i < n) (hc : S[i]? = some c) (hb : belowC n c = false) : gcS n d S = S := by
  unfold gcS
  rw [if_neg]
  rintro ⟨-, h⟩
  have : c ∈ S.take n := by
    refine List.mem_of_getElem? (i := i) ?_
    rw [List.getElem?_take_of_lt hi]
    exact hc
  rw [List.all_eq_true.mp h c this] at hb
  cases hb
theorem wm_lock {n : Nat} {fn : Env' → Sto → Option Nat} {f : Env' → M Dv} {env : Env'} {S : Sto} {l : List (Key × Dv)} {P : Rs Dv → Prop} (hn : fn env S = some n) (hl : S[n]? = some (.dct l)) (h : Wm (f env) (S.set n (.lck l)) (okK fun v S2 => S2[n]? = some (.lck l) ∧ P (.ok v (S2.set n (.dct l))))) :
    Wm (eLock fn f env) S P := by
  obtain ⟨r, e, p⟩ := h
  cases r with
  | er x s => exact p.elim
  | ok v S2 =>
    obtain ⟨p1, p2⟩ := p
    refine ⟨.ok v (S2.set n (.dct l)), ?_, p2⟩
    unfold eLock
    rw [hn]
    dsimp only
    rw [hl]
    dsimp only
    rw [e]
    dsimp only
    rw [p1]
theorem inv0 : Inv [] ⟨[], [], 0⟩ := ⟨by simp, by simp, by simp, by simp, by simp, by simp, by simp⟩
theorem shape_inv {b : List It} {s : CSt} (hw : WfL b) (h : shapeC b = some s) : Inv [] s ∧ ResL s.nums b ∧ b.length ≤ 12 ∧ 0 < b.length := by
  unfold shapeC at h
  split at h
  · rename_i h0
    have h' := h
    unfold listC' at h'
    split at h'
    · rename_i hc
      obtain ⟨⟨v', g1⟩, g2, g3⟩ := items_invL b [] 0 _ _ hw h' inv0
      exact ⟨inv0.back g1 g2, g3, hc.1, h0⟩
    · cases h'
  · cases h
theorem look_mem {x : Str × Int × Int} : ∀ {nums : Nums}, (nums.map (·.1)).Nodup → x ∈ nums → nums.lookup x.1 = some x.2
  | y :: r, nd, h => by
    rw [List.map_cons, List.nodup_cons] at nd
    obtain ⟨a, c⟩ := y
    rw [List.lookup_cons]
    rcases List.mem_cons.mp h with rfl | h
    · simp
    · have : ¬ x.1 = a := fun e => nd.1 (List.mem_map.mpr ⟨x, h, e⟩)
      have hb : (x.1 == a) = false := by simpa using this
      rw [hb]
      exact look_mem nd.2 h
theorem IsL_pre {T X : Sto} : ∀ {b : List It} {ds : List Dv}, IsL T ds b → IsL (T ++ X) ds b
  | [], _, h => by unfold IsL at h ⊢; exact h
  | i :: r, _, h => by
    unfold IsL at h ⊢
    obtain ⟨d, t, e, h1, h2⟩ := h
    exact ⟨d, t, e, IsI_pre X h1, IsL_pre h2⟩
theorem wm_dcM {fi : Env' → M Sr} {vs : List Nat} {gf : Dv → Env' → M Env'} {ft : Env' → M Bool} {fk fv : Env' → M Dv} {env : Env'} {S : Sto} {P : Rs Dv → Prop} {src : Sr} {l : List (Key × Dv)} (hi : fi env S = some (.ok src S)) (hc : compDM src (elDM vs gf ft fk fv env) S = some (.ok l S)) : Wm (dcM fi vs gf ft fk fv env) S P ↔ P (.ok (.ref S.length) (S ++ [.dct l])) := by
  refine wm_eq ?_
  unfold dcM
  show M.bind _ _ S = _
  unfold M.bind
  rw [hi]
  dsimp only
  rw [hc]
@[simp] theorem putD_parts {v : Dv} : putD (Str.ofString "parts") v [] = [((Str.ofString "parts" : Str), v)] := rfl
@[simp] theorem putD_names {a v : Dv} : putD (Str.ofString "names") v [((Str.ofString "parts" : Str), a)] = [((Str.ofString "parts" : Str), a), ((Str.ofString "names" : Str), v)] := by simp [putD]
@[simp] theorem putD_bounds {a c v : Dv} : putD (Str.ofString "bounds") v [((Str.ofString "parts" : Str), a), ((Str.ofString "names" : Str), c)] = [((Str.ofString "parts" : Str), a), ((Str.ofString "names" : Str), c), ((Str.ofString "bounds" : Str), v)] := by simp [putD]
/-- Shape(items) -/
theorem wm_shape_init {k : Nat} {b : List It} {T : Sto} {d : Dv} {l : List Dv} (hk : 2 * hL b + 6 ≤ k) (hT : T.all (belowC T.length) = true) (hd : seqOf T d = some l) (hl : IsL T l b) (hw : WfL b) {P : Rs Dv → Prop}
    (h : match shapeC b with | some s => P (.ok .non (shS T b s)) | none => ∀ S' : Sto, S'.take T.length = T → P (.er ⟨"InvalidShape", []⟩ S')) : Wm (run k fn_Shape____init__ [.ref T.length, d]) (T ++ [.ins "Shape" []]) P := by
  have hz := szl
  obtain ⟨k, rfl⟩ : ∃ j, k = j + 4 := ⟨k - 4, by omega⟩
  rw [rn_Shape____init__, wm_def, m_Shape____init__]
  have hs0 : stS T ⟨[], [], 0⟩ [] = T ++ [.ins "Shape" [], chk (T.length + 2), .lst [], .dct []] := rfl
  have g0 : gcS (T.length + 2) Dv.non (T ++ [Cell.ins "Shape" [], chk (T.length + 2), .lst [], .dct []]) = stS T ⟨[], [], 0⟩ [] := by
    rw [← hs0]
    refine gc_no (i := T.length + 1) (by omega) st_chk ?_
    simp [chkC, belowC, below]
  have cin : ∀ P, Wm (run (k + 3) fn_ShapeCheck____init__ [.ref (T.length + 1)]) (T ++ [Cell.ins "Shape" [], .ins "ShapeCheck" []]) P ↔ P (.ok .non (stS T ⟨[], [], 0⟩ [])) := fun P => by
    have := wm_cinit (k := k + 2) (S := T ++ [Cell.ins "Shape" []]) (P := P)
    simp only [List.length_append, List.length_cons, List.length_nil, List.append_assoc, List.cons_append, List.nil_append] at this
    rw [show T.length + (0 + 1) + 1 = T.length + 2 by omega] at this
    rw [g0] at this
    exact this
  have hdl := IsL_length hl
  have hds := fun s E => st_seq hd s E
  rw [ws_seq]
  simp [cin, -ws_seq]
  rw [ws_seq]
  unfold shapeC at h
  by_cases h0 : 0 < b.length
  · rw [if_pos h0] at h
    simp [seq_len (hds _ _), hdl, wm_require, show (0 : Int) < b.length by omega, h0, -ws_seq]
    rw [ws_seq]
    simp [-ws_seq]
    refine wm_items (k + 3) (dp := 0) (vis := []) (E := []) (dv := .lst []) (by omega) hT hd hl hw inv0 rfl ?_
    cases hc : listC' [] 0 ⟨[], [], 0⟩ b with
    | none =>
      rw [hc] at h
      intro S' hS
      exact h S' hS
    | some s =>
      rw [hc] at h
      have hsh : shapeC b = some s := by
        unfold shapeC
        rw [if_pos h0]
        exact hc
      obtain ⟨iv, hr, h12, -⟩ := shape_inv hw hsh
      rw [chkR_some]
      simp only [xk_ok, sk_nx]
      rw [stS_G]
      have hcp : ∀ sh nc X (P : Rs Dv → Prop), Wm (run (k + 3) fn_copied_items [d]) (stG T sh s nc X) P ↔ P (.ok (.tup (frL b)) (stG T sh s nc X)) := fun sh nc X P => by
        unfold stG
        refine wm_copied_items (nums := s.nums) (by omega) (seq_pre hd) ?_ h12 hr P
        exact IsL_pre hl
      have hnm : ∀ sh nc X (P : Rs Dv → Prop), Wm (tupleM [.ref (T.length + 2)]) (stG T sh s nc X) P ↔ P (.ok (.tup (s.names.map .str)) (stG T sh s nc X)) := fun sh nc X P => by
        refine seq_tup (l := s.names.map .str) ?_ ?_
        · show listOf (stG T sh s nc X) (.ref (T.length + 2)) = _
          rw [list_ref, sg_nam]
          rfl
        · have := iv.ln
          simp
          omega
      rw [ws_seq]
      simp [hcp, -ws_seq]
      rw [ws_seq]
      simp [hnm, -ws_seq]
      refine wm_lock (n := T.length + 3) (l := numD s.nums) ?_ (by simp) ?_
      · show (match (stG T _ s _ [])[T.length + 1]? with | some (.ins _ fs) => (match fs.lookup (Str.ofString "numbers") with | some (.ref n) => some n | _ => none) | _ => none) = _
        rw [sg_chk]
        rfl
      · rw [sg_setNum]
        have hkeys : ∀ (sh : Cell) (P : Rs Sr → Prop), Wm (keysM (.ref (T.length + 3))) (stG T sh s (.lck (numD s.nums)) []) P ↔ P (.ok (fun _ => some ((numD s.nums).map fun p => keyV p.1)) (stG T sh s (.lck (numD s.nums)) [])) := fun sh P => by
          refine wm_eq ?_
          unfold keysM
          dsimp only
          rw [sg_num]
        have hkl : (numD s.nums).map (fun p => keyV p.1) = s.nums.map fun x => .str x.1 := by
          rw [numD_map, List.map_map]
          rfl
        have hget : ∀ (sh : Cell) (x : Str × Int × Int), x ∈ s.nums → getDO (stG T sh s (.lck (numD s.nums)) []) (.ref (T.length + 3)) (.str x.1) = some (.tup [.int x.2.1, .int x.2.2]) := fun sh x hx => by
          have e1 : dctRd (stG T sh s (.lck (numD s.nums)) []) (.ref (T.length + 3)) = some (numD s.nums) := by
            show (match (stG T sh s (.lck (numD s.nums)) [])[T.length + 3]? with | some (.dct l) => some l | some (.lck l) => some l | _ => none) = _
            rw [sg_num]
          unfold getDO
          rw [e1]
          show lookD (numD s.nums) (.inr x.1) = _
          rw [lookD_numD, look_mem iv.nd hx]
          rfl
        rw [wm_dcM (src := fun _ => some ((numD s.nums).map fun p => keyV p.1)) (l := numD s.nums) (wm_run (by simp [iKeysL, hkeys])) ?_]
        · simp [-ws_seq]
          rw [gc_no (i := T.length) (by omega) sg_sh (by simp [belowC, below])]
          exact h
        · unfold compDM
          dsimp only
          rw [hkl]
          refine compDL_copy iv.nd (by have := iv.nl; have := iv.ln; omega) (fun x hx => ?_) s.nums [] rfl
          refine wm_run ?_
          simp [elDM, hget _ x hx, numE]
  · rw [if_neg h0] at h
    have hb : b = [] := List.eq_nil_of_length_eq_zero (by omega)
    subst hb
    have hdl : l.length = 0 := hdl
    simp [seq_len (hds _ _), hdl, wm_require]
    exact h _ st_take
end L05

namespace L05
open PySem PySem.Spec PyProof.Rows L2 ML

/-! ### shapes are drawn: the store -/
structure DSt where
  nm : List Str
  ck : Nat
  c : Nat
def dS (N : List Int) (s : DSt) (X : Sto) : Sto := .lst (s.nm.map .str) :: .lst (List.replicate s.ck (.int 1)) :: .lst [.lst (N.map .int), .int s.c, .ref 0, .ref 1] :: X
section
variable {N : List Int} {s : DSt} {X Y : Sto}
@[simp high] theorem ds_0 : (dS N s X)[0]? = some (.lst (s.nm.map .str)) := rfl
@[simp high] theorem ds_1 : (dS N s X)[1]? = some (.lst (List.replicate s.ck (.int 1))) := rfl
@[simp high] theorem ds_2 : (dS N s X)[2]? = some (.lst [.lst (N.map .int), .int s.c, .ref 0, .ref 1]) := rfl
@[simp] theorem ds_len : (dS N s X).length = X.length + 3 := rfl
@[simp] theorem ds_app : dS N s X ++ Y = dS N s (X ++ Y) := rfl
@[simp high] theorem ds_x {n : Nat} : (dS N s X)[n + 3]? = X[n]? := rfl
@[simp high] theorem ds_set0 {l : List Str} : (dS N s X).set 0 (.lst (l.map .str)) = dS N { s with nm := l } X := rfl
@[simp high] theorem ds_set1 {k : Nat} : (dS N s X).set 1 (.lst (List.replicate k (.int 1))) = dS N { s with ck := k } X := rfl
@[simp high] theorem ds_setx {n : Nat} {c : Cell} : (dS N s X).set (n + 3) c = dS N s (X.set n c) := rfl
theorem ds_set2 {c : Nat} : (dS N s X).set 2 (.lst [.lst (N.map .int), .int (c : Int), .ref 0, .ref 1]) = dS N { s with c := c } X := rfl
/-- the cells above hold data alone -/
def Pure (X : Sto) : Prop := X.all (belowC 0) = true
theorem ds_below (hX : Pure X) : (dS N s X).all (belowC (X.length + 3)) = true := by
  unfold dS
  simp only [List.all_cons, Bool.and_eq_true]
  refine ⟨belows_strs, ?_, ?_, ?_⟩
  · refine belows_all fun d hd => ?_
    rw [(List.mem_replicate.mp hd).2]
    rfl
  · show (belows _ (N.map .int) && (true && (decide (0 < X.length + 3) && (decide (1 < X.length + 3) && true)))) = true
    rw [belows_ints]
    simp
  · exact List.all_eq_true.mpr fun c hc => belowC_mono (Nat.zero_le _) (List.all_eq_true.mp hX c hc)
@[simp high] theorem ds_self {d : Dv} : leaveD true (X.length + 3) d (dS N s X) = .ok d (dS N s X) := by
  have e : X.length + 3 = (dS N s X).length := rfl
  unfold leaveD
  rw [e, frzD_self]
  simp only [if_true]
  rw [gcS_self]
@[simp high] theorem ds_gcself {d : Dv} : gcS (X.length + 3) d (dS N s X) = dS N s X := by
  have e : X.length + 3 = (dS N s X).length := rfl
  rw [e, gcS_self]
theorem ds_new {l : List Dv} (hX : Pure X) (hl : belows 0 l = true) : leaveD true (X.length + 3) (.ref (X.length + 3)) (dS N s (X ++ .lst l :: Y)) = .ok (.lst l) (dS N s X) := by
  have := leaveD_new (S := dS N s X) (T := Y) (l := l) (belows_mono (Nat.zero_le _) hl) (ds_below hX)
  exact this
theorem ds_old {d : Dv} (hX : Pure X) (hn : ∀ n, d ≠ .ref n) (hd : below 0 d = true) : leaveD true (X.length + 3) d (dS N s (X ++ Y)) = .ok d (dS N s X) := by
  have := leaveD_old (S := dS N s X) (T := Y) (frz := true) hn (below_mono (Nat.zero_le _) hd) (ds_below hX)
  exact this
theorem ds_tup {a n : Str} {l : List Dv} (hX : Pure X) (hl : belows 0 l = true) : leaveD true (X.length + 3) (.tup [.str a, .str n, .ref (X.length + 3)]) (dS N s (X ++ [.lst l])) = .ok (.tup [.str a, .str n, .lst l]) (dS N s X) := by
  have e1 : (dS N s (X ++ [.lst l]))[X.length + 3]? = some (.lst l) := by
    rw [ds_x, List.getElem?_append_right (Nat.le_refl _), Nat.sub_self]
    rfl
  have e2 : frzD (X.length + 3) (.tup [.str a, .str n, .ref (X.length + 3)]) (dS N s (X ++ [.lst l])) = (.tup [.str a, .str n, .lst l], (dS N s (X ++ [.lst l])).set (X.length + 3) .dead) := by
    show ((.tup [.str a, .str n, (frz1 (X.length + 3) (.ref (X.length + 3)) (dS N s (X ++ [.lst l]))).1], (frz1 (X.length + 3) (.ref (X.length + 3)) (dS N s (X ++ [.lst l]))).2) : Dv × Sto) = _
    unfold frz1
    dsimp only
    rw [if_pos (Nat.le_refl _), e1]
  unfold leaveD
  simp only [if_true]
  rw [e2]
  dsimp only
  have e3 : (dS N s (X ++ [.lst l])).set (X.length + 3) .dead = dS N s X ++ [.dead] := by
    rw [ds_setx]
    simp
  rw [e3]
  have hg : gcS (X.length + 3) (.tup [.str a, .str n, .lst l]) (dS N s X ++ [.dead]) = dS N s X := by
    have el : X.length + 3 = (dS N s X).length := rfl
    unfold gcS
    rw [el, List.take_left, if_pos]
    refine ⟨?_, ds_below hX⟩
    show (true && (true && (belows _ l && true))) = true
    rw [belows_mono (Nat.zero_le _) hl]
    rfl
  rw [hg]
end
/-! reading of pop(0) -/
theorem wm_pop0 {n : Nat} {S : Sto} {P : Rs Dv → Prop} : Wm (popAtM (.ref n) [.int 0]) S P ↔ wopt (cellLst S[n]?) fun l => ∃ d r, l = d :: r ∧ P (.ok d (S.set n (.lst r))) := by
  unfold Wm popAtM
  rw [cell_ref]
  cases cellLst S[n]? with
  | none => simp
  | some l =>
    simp only [Option.map_some, wopt_some]
    rw [if_pos (by decide)]
    cases l with
    | nil => simp [seqIndex?]
    | cons d r =>
      have h0 : seqIndex? 0 (d :: r).length = some 0 := by
        unfold seqIndex?
        simp
      rw [h0]
      constructor
      · rintro ⟨a, e, p⟩
        cases e
        exact ⟨d, r, rfl, p⟩
      · rintro ⟨d', r', e, p⟩
        cases e
        exact ⟨_, rfl, p⟩
@[simp high] theorem wm_popN {N : List Int} {n : Str} {r : List Str} {ck c : Nat} {X : Sto} {P : Rs Dv → Prop} : Wm (popAtM (.ref 0) [.int 0]) (dS N ⟨n :: r, ck, c⟩ X) P ↔ P (.ok (.str n) (dS N ⟨r, ck, c⟩ X)) := by
  rw [wm_pop0, ds_0]
  simp only [cellLst_lst, wopt_some, List.map_cons]
  constructor
  · rintro ⟨d, q, e, p⟩
    cases e
    exact p
  · intro p
    exact ⟨_, _, rfl, p⟩
/-! the numbers -/
def nx (N : List Int) (c : Nat) (m : Int) : Int := (N.getD (((c : Int) + 1).fmod 160).toNat 0).fmod m
theorem md (x m : Int) (hm : 0 < m) : 0 ≤ x.fmod m ∧ x.fmod m < m := by
  rw [Int.fmod_eq_emod_of_nonneg _ (by omega)]
  exact ⟨Int.emod_nonneg _ (by omega), Int.emod_lt_of_pos _ hm⟩
theorem nx_in (N : List Int) (c : Nat) {m : Int} (hm : 0 < m) : 0 ≤ nx N c m ∧ nx N c m < m := md _ _ hm
theorem wm_next {k : Nat} {N : List Int} {s : DSt} {X : Sto} {m : Int} (hN : N.length = 160) (hm : m ≠ 0) {P : Rs Dv → Prop} : Wm (run (k + 1) fn__law_next [.ref 2, .int m]) (dS N s X) P ↔ P (.ok (.int (nx N s.c m)) (dS N { s with c := s.c + 1 } X)) := by
  rw [rn__law_next, wm_def, m__law_next]
  have hix : ixN 4 1 = some 1 := by decide +kernel
  have a0 : ∀ a b c d : Dv, L2.atI [a, b, c, d] 0 = some a := fun _ _ _ _ => ML.atI_nat (n := 0)
  have a1 : ∀ a b c d : Dv, L2.atI [a, b, c, d] 1 = some b := fun _ _ _ _ => ML.atI_nat (n := 1)
  have hm2 := md ((s.c : Int) + 1) 160 (by decide)
  have hget : L2.atI (N.map Dv.int) (((s.c : Int) + 1).fmod 160) = some (.int (N.getD (((s.c : Int) + 1).fmod 160).toNat 0)) := by
    rw [atI_nn hm2.1, List.getElem?_map, List.getD_eq_getElem?_getD, List.getElem?_eq_getElem (by omega)]
    rfl
  have hset := ds_set2 (N := N) (s := s) (X := X) (c := s.c + 1)
  simp only [Int.natCast_add, Int.natCast_one] at hset
  simp [a0, a1, hix, hset, hN, hget, hm, nx]
end L05

namespace L05
open PySem PySem.Spec PyProof.Rows L2 ML

/-! ### what is drawn -/
structure Nm where
  n : Str
  sz : Int
  o : Str
  lo : Int
  hi : Int
def Nm.it (x : Nm) : It := .number x.n x.sz x.o x.lo x.hi
def Nm.tr (x : Nm) : Str × Int × Int := (x.n, x.lo, x.hi)
def Nm.dv (x : Nm) : Dv := .tup [.str "number", .str x.n, .int x.sz, .str x.o, .int x.lo, .int x.hi]
structure Nm.ok (x : Nm) : Prop where
  sz : x.sz = 1 ∨ x.sz = 2
  o : x.o = Str.ofString "big" ∨ x.o = Str.ofString "little"
  lo : 0 ≤ x.lo
  lh : x.lo ≤ x.hi
  hi : x.hi ≤ gr x.sz
def GoodU (A : List Nm) (most : Int) : Use → Prop
  | .num x => 0 ≤ x ∧ x ≤ most
  | .nam n => ∃ x ∈ A, x.n = n ∧ x.hi ≤ most
def numsOf : It → List Nm
  | .number n sz o lo hi => [⟨n, sz, o, lo, hi⟩]
  | _ => []
def headNum (b : List It) : Prop := ∃ (x : Nm) (r : List It), b = x.it :: r
mutual
def GoodI (A : List Nm) (dp : Nat) : It → Prop
  | .number n sz o lo hi => (⟨n, sz, o, lo, hi⟩ : Nm).ok
  | .bytes _ u => GoodU A 64 u
  | .text _ e m => (0 ≤ e ∧ e ≤ 255) ∧ 0 ≤ m ∧ m ≤ 64
  | .check _ m => 1 ≤ m ∧ m ≤ 16
  | .pad _ m f => (m = 1 ∨ m = 2 ∨ m = 4 ∨ m = 8 ∨ m = 16) ∧ 0 ≤ f ∧ f ≤ 255
  | .rep _ u b => GoodU A 16 u ∧ dp + 1 ≤ 3 ∧ b.length ≤ 12 ∧ headNum b ∧ GoodL A (dp + 1) b
  | .eit _ bs => dp + 1 ≤ 3 ∧ (2 ≤ bs.length ∧ bs.length ≤ 4) ∧ (∀ b ∈ bs.tail, headNum b) ∧ GoodB A (dp + 1) bs
  | .swi _ w vs bs => dp + 1 ≤ 3 ∧ (∃ x ∈ A, x.n = w) ∧ (1 ≤ vs.length ∧ vs.length ≤ 8) ∧ (∀ v ∈ vs, 0 ≤ v ∧ v ≤ 65535) ∧ vs.Nodup ∧ vs.length = bs.length ∧ GoodB A (dp + 1) bs
  | .odd _ _ => False
def GoodL (A : List Nm) (dp : Nat) : List It → Prop
  | [] => True
  | i :: r => GoodI A dp i ∧ GoodL (A ++ numsOf i) dp r
def GoodB (A : List Nm) (dp : Nat) : List (List It) → Prop
  | [] => True
  | b :: r => b.length ≤ 12 ∧ GoodL A dp b ∧ GoodB A dp r
end
mutual
/-- the names, outside in -/
def nmI : It → List Str
  | .number n .. => [n]
  | .bytes n _ => [n]
  | .text n .. => [n]
  | .check n _ => [n]
  | .pad n .. => [n]
  | .rep n _ b => n :: nmL b
  | .eit n bs => n :: nmB bs
  | .swi n _ _ bs => n :: nmB bs
  | .odd _ _ => []
def nmL : List It → List Str
  | [] => []
  | i :: r => nmI i ++ nmL r
def nmB : List (List It) → List Str
  | [] => []
  | b :: r => nmL b ++ nmB r
end
mutual
/-- how many checks -/
def ckI : It → Nat
  | .check _ _ => 1
  | .rep _ _ b => ckL b
  | .eit _ bs => ckB bs
  | .swi _ _ _ bs => ckB bs
  | _ => 0
def ckL : List It → Nat
  | [] => 0
  | i :: r => ckI i + ckL r
def ckB : List (List It) → Nat
  | [] => 0
  | b :: r => ckL b + ckB r
end
/-- names ns and k checks were drawn between s and s' -/
structure Step (s s' : DSt) (ns : List Str) (k : Nat) : Prop where
  nm : ∃ used, s.nm = used ++ s'.nm ∧ ns.Nodup ∧ ∀ n ∈ ns, n ∈ used
  ck : s'.ck = s.ck + k
  le : s'.ck ≤ 1
theorem Step.nodup {s s' : DSt} {ns : List Str} {k : Nat} (h : Step s s' ns k) (hn : s.nm.Nodup) : s'.nm.Nodup := by
  obtain ⟨u, e, _⟩ := h.nm
  rw [e, List.nodup_append] at hn
  exact hn.2.1
theorem Step.trans {a b c : DSt} {n1 n2 : List Str} {k1 k2 : Nat} (h : Step a b n1 k1) (g : Step b c n2 k2) (hn : a.nm.Nodup) : Step a c (n1 ++ n2) (k1 + k2) := by
  obtain ⟨u, e1, d1, m1⟩ := h.nm
  obtain ⟨v, e2, d2, m2⟩ := g.nm
  refine ⟨⟨u ++ v, by rw [e1, e2, List.append_assoc], ?_, ?_⟩, by rw [g.ck, h.ck, Nat.add_assoc], g.le⟩
  · rw [List.nodup_append]
    refine ⟨d1, d2, fun x hx y hy e => ?_⟩
    subst e
    rw [e1, e2, List.nodup_append] at hn
    exact hn.2.2 x (m1 x hx) x (List.mem_append_left _ (m2 x hy)) rfl
  · intro n hm
    rcases List.mem_append.mp hm with hm | hm
    · exact List.mem_append_left _ (m1 n hm)
    · exact List.mem_append_right _ (m2 n hm)
theorem Step.idle {s : DSt} {c : Nat} (h : s.ck ≤ 1) : Step s { s with c := c } [] 0 := ⟨⟨[], rfl, List.nodup_nil, by simp⟩, rfl, h⟩
theorem Step.one {n : Str} {r : List Str} {ck c c' : Nat} (h : ck ≤ 1) : Step ⟨n :: r, ck, c⟩ ⟨r, ck, c'⟩ [n] 0 := ⟨⟨[n], rfl, by simp, by simp⟩, rfl, h⟩
theorem Step.sameL {a b c : DSt} {ns : List Str} {k : Nat} (h : Step a b [] 0) (g : Step b c ns k) (hn : a.nm.Nodup) : Step a c ns k := by
  have := h.trans g hn
  simpa using this
theorem Step.sameR {a b c : DSt} {ns : List Str} {k : Nat} (h : Step a b ns k) (g : Step b c [] 0) (hn : a.nm.Nodup) : Step a c ns k := by
  have := h.trans g hn
  simpa using this
theorem atI_mem {l : List Dv} {i : Int} (h0 : 0 ≤ i) (h1 : i < l.length) : ∃ x ∈ l, L2.atI l i = some x := by
  rw [atI_nn h0, List.getElem?_eq_getElem (by omega)]
  exact ⟨_, List.getElem_mem _, rfl⟩
/-- one of a list of numbers, drawn -/
theorem atI_int {l : List Int} {i : Int} (h0 : 0 ≤ i) (h1 : i < l.length) : ∃ x ∈ l, L2.atI (l.map Dv.int) i = some (.int x) := by
  rw [atI_nn h0, List.getElem?_map, List.getElem?_eq_getElem (by omega)]
  exact ⟨_, List.getElem_mem _, rfl⟩
/-- a drawn number -/
theorem wm_number {k : Nat} {N : List Int} {s : DSt} {X : Sto} {nm : Str} (hN : N.length = 160) (hk : 2 ≤ k) :
    Wm (run k fn__law_number [.ref 2, .str nm]) (dS N s X) fun r => ∃ (x : Nm) (c : Nat), x.n = nm ∧ x.ok ∧ r = .ok x.dv (dS N { s with c := c } X) := by
  have hz := szl
  obtain ⟨k, rfl⟩ : ∃ j, k = j + 1 + 1 := ⟨k - 2, by omega⟩
  rw [rn__law_number, wm_def, m__law_number]
  have h2 := nx_in N s.c (m := 2) (by decide)
  obtain ⟨sz, hsz, hs⟩ : ∃ sz : Int, 1 + nx N s.c 2 = sz ∧ (sz = 1 ∨ sz = 2) := ⟨_, rfl, by omega⟩
  obtain ⟨most, hmost, hm1, hm2⟩ : ∃ most : Int, L2.atI [Dv.int 255, .int 65535] (sz - 1) = some (.int most) ∧ 255 ≤ most ∧ gr sz = most := by
    rcases hs with rfl | rfl
    · exact ⟨255, ML.atI_nat (n := 0), by decide, rfl⟩
    · exact ⟨65535, ML.atI_nat (n := 1), by decide, rfl⟩
  simp only [ws_seq, ws_set]
  simp [wm_next hN, hsz, hmost, hz, show most + 1 ≠ 0 by omega]
  have a4 := nx_in N (s.c + 1) (m := 4) (by decide)
  have a5 := nx_in N (s.c + 1 + 1) (m := most + 1) (by omega)
  have a6 := nx_in N (s.c + 1 + 1 + 1) (m := 3) (by decide)
  have a7 := nx_in N (s.c + 1 + 1 + 1 + 1) (m := 16) (by decide)
  have a8 := nx_in N (s.c + 1 + 1 + 1 + 1 + 1) (m := 4) (by decide)
  have a9 := nx_in N (s.c + 1 + 1 + 1 + 1 + 1 + 1) (m := 2) (by decide)
  obtain ⟨low, hlow, l0, l1⟩ : ∃ low : Int, L2.atI [Dv.int 0, .int (nx N (s.c + 1) 4), .int (nx N (s.c + 1 + 1) (most + 1))] (nx N (s.c + 1 + 1 + 1) 3) = some (.int low) ∧ 0 ≤ low ∧ low ≤ most := by
    obtain ⟨x, hx, e⟩ := atI_int (l := [0, nx N (s.c + 1) 4, nx N (s.c + 1 + 1) (most + 1)]) a6.1 a6.2
    refine ⟨x, e, ?_⟩
    simp only [List.mem_cons, List.not_mem_nil, or_false] at hx
    rcases hx with rfl | rfl | rfl <;> omega
  generalize nx N (s.c + 1) 4 = y4 at *
  generalize nx N (s.c + 1 + 1) (most + 1) = y5 at *
  generalize nx N (s.c + 1 + 1 + 1) 3 = y6 at *
  generalize nx N (s.c + 1 + 1 + 1 + 1) 16 = y7 at *
  generalize nx N (s.c + 1 + 1 + 1 + 1 + 1) 4 = y8 at *
  generalize nx N (s.c + 1 + 1 + 1 + 1 + 1 + 1) 2 = y9 at *
  have mn : ∀ S (i j : Int), min2D S [.int i, .int j] = some (.int (if j < i then j else i)) := fun _ _ _ => rfl
  obtain ⟨hi, hhi, i1⟩ : ∃ hi : Int, L2.atI [Dv.int low, .int most, .int (if low + y7 < most then low + y7 else most), .int (if (if low < 64 then 64 else low) < 64 then (if low < 64 then 64 else low) else 64)] y8 = some (.int hi) ∧ hi ≤ most := by
    obtain ⟨x, hx, e⟩ := atI_int (l := [low, most, (if low + y7 < most then low + y7 else most), (if (if low < 64 then 64 else low) < 64 then (if low < 64 then 64 else low) else 64)]) a8.1 a8.2
    refine ⟨x, e, ?_⟩
    simp only [List.mem_cons, List.not_mem_nil, or_false] at hx
    rcases hx with rfl | rfl | rfl | rfl
    · exact l1
    · exact Int.le_refl _
    · split <;> omega
    · (repeat' split) <;> omega
  obtain ⟨o, ho, ho2⟩ : ∃ o : Str, L2.atI [Dv.str (Str.ofString "big"), .str (Str.ofString "little")] y9 = some (.str o) ∧ (o = Str.ofString "big" ∨ o = Str.ofString "little") := by
    have : y9 = 0 ∨ y9 = 1 := by omega
    rcases this with h | h
    · rw [h]
      exact ⟨_, ML.atI_nat (n := 0), .inl rfl⟩
    · rw [h]
      exact ⟨_, ML.atI_nat (n := 1), .inr rfl⟩
  simp [hlow, mn, hhi, ho]
  refine ⟨⟨nm, sz, o, low, if low < hi then hi else low⟩, rfl, ⟨hs, ho2, l0, ?_, ?_⟩, rfl, _, rfl⟩
  · dsimp only
    split <;> omega
  · dsimp only
    split <;> omega
end L05

namespace L05
open PySem PySem.Spec PyProof.Rows L2 ML

@[simp high] theorem at4_0 {a b c d : Dv} : L2.atI [a, b, c, d] 0 = some a := ML.atI_nat (n := 0)
@[simp high] theorem at4_1 {a b c d : Dv} : L2.atI [a, b, c, d] 1 = some b := ML.atI_nat (n := 1)
@[simp high] theorem at4_2 {a b c d : Dv} : L2.atI [a, b, c, d] 2 = some c := ML.atI_nat (n := 2)
@[simp high] theorem at4_3 {a b c d : Dv} : L2.atI [a, b, c, d] 3 = some d := ML.atI_nat (n := 3)
def Ah (N : List Int) (X : Sto) (A : List Nm) (dv : Dv) : Prop := ∀ s, ownOf (dS N s X) dv = some (A.map Nm.dv)
theorem own_seq {S : Sto} {d : Dv} {l : List Dv} (h : ownOf S d = some l) : seqOf S d = some l := by
  cases d with
  | lst l' => exact h
  | ref n =>
    rw [own_ref] at h
    show listOf S (.ref n) = _
    rw [list_ref]
    exact h
  | _ => cases h
theorem own_pre {T X : Sto} {d : Dv} {l : List Dv} (h : ownOf T d = some l) : ownOf (T ++ X) d = some l := by
  cases d with
  | lst l' => exact h
  | ref n =>
    have h2 := seq_pre (X := X) (own_seq h)
    have h2 : listOf (T ++ X) (.ref n) = some l := h2
    rw [list_ref] at h2
    rw [own_ref]
    exact h2
  | _ => cases h
theorem add_own {S : Sto} {a b : Dv} {l r : List Dv} (h : ownOf S a = some l) (g : ownOf S b = some r) (hl : l.length + r.length ≤ sizeLine) : addD S a b = some (.lst (l ++ r)) := by
  have key : addL S a b = some (.lst (l ++ r)) := by
    unfold addL
    rw [h, g]
    dsimp only
    rw [if_pos hl]
  cases a with
  | lst _ => cases b <;> first | exact key | cases g
  | ref _ => cases b <;> first | exact key | cases g
  | _ => cases h
theorem Ah.seq {N : List Int} {X : Sto} {A : List Nm} {dv : Dv} (h : Ah N X A dv) (s : DSt) : seqOf (dS N s X) dv = some (A.map Nm.dv) := own_seq (h s)
theorem Ah.pre {N : List Int} {X : Sto} {A : List Nm} {dv : Dv} (h : Ah N X A dv) (Y : Sto) : Ah N (X ++ Y) A dv := fun s => by
  have := own_pre (X := Y) (h s)
  exact this
structure SOk (s : DSt) : Prop where
  nd : s.nm.Nodup
  ck : s.ck ≤ 1
  ok : ∀ n ∈ s.nm, okS n ∧ n ≠ Str.ofString ""
theorem Step.sok {s s' : DSt} {ns : List Str} {k : Nat} (h : Step s s' ns k) (g : SOk s) : SOk s' := by
  obtain ⟨u, e, _⟩ := h.nm
  exact ⟨h.nodup g.nd, h.le, fun n hn => g.ok n (by rw [e]; exact List.mem_append_right _ hn)⟩
theorem SOk.c {s : DSt} (h : SOk s) (c : Nat) : SOk { s with c := c } := ⟨h.nd, h.ck, h.ok⟩
theorem Ah.ix {N : List Int} {X : Sto} {A : List Nm} {dv : Dv} (h : Ah N X A dv) (s : DSt) {i : Int} (h0 : 0 ≤ i) (h1 : i < A.length) : ∃ x ∈ A, ixD (dS N s X) dv (.int i) = some x.dv := by
  rw [seq_ix (h.seq s), atI_nn h0, List.getElem?_map, List.getElem?_eq_getElem (by omega)]
  exact ⟨_, List.getElem_mem _, rfl⟩
/-- a length or a count is drawn -/
theorem wm_use {k : Nat} {N : List Int} {s : DSt} {X : Sto} {A : List Nm} {dv : Dv} {most : Int} (hN : N.length = 160) (hk : 2 ≤ k) (h4 : 4 ≤ most) (hA : Ah N X A dv) (hl : A.length ≤ 1000) :
    Wm (run k fn__law_use [.ref 2, dv, .int most]) (dS N s X) fun r => ∃ (u : Use) (c : Nat), GoodU A most u ∧ r = .ok u.dv (dS N { s with c := c } X) := by
  have hz := szl
  obtain ⟨k, rfl⟩ : ∃ j, k = j + 1 + 1 := ⟨k - 2, by omega⟩
  rw [rn__law_use, wm_def, m__law_use]
  have hs := hA.seq s
  have x5 : ∀ x : Nm, L2.atI [Dv.str (Str.ofString "number"), .str x.n, .int x.sz, .str x.o, .int x.lo, .int x.hi] 5 = some (.int x.hi) := fun x => ML.atI_nat (n := 5)
  have x1 : ∀ x : Nm, L2.atI [Dv.str (Str.ofString "number"), .str x.n, .int x.sz, .str x.o, .int x.lo, .int x.hi] 1 = some (.str x.n) := fun x => ML.atI_nat (n := 1)
  rw [ws_seq, ws_set, lcF_map (S := dS N s X) (src := fun S => seqOf S dv) A Nm.dv (fun x => if x.hi ≤ most then some (.str x.n) else none) (by simp [seq_src hs]) hs (by omega) (by
    intro x hx
    by_cases h : x.hi ≤ most <;> simp [Nm.dv, x5, x1, h])]
  obtain ⟨F, hF, hFm⟩ : ∃ F : List Nm, A.filterMap (fun x => if x.hi ≤ most then some (Dv.str x.n) else none) = F.map (fun x => .str x.n) ∧ ∀ x ∈ F, x ∈ A ∧ x.hi ≤ most := by
    refine ⟨A.filter (fun x => decide (x.hi ≤ most)), ?_, fun x hx => ?_⟩
    · clear hs hA hl
      induction A with
      | nil => rfl
      | cons a r ih => by_cases h : a.hi ≤ most <;> simp [h, ih]
    · rw [List.mem_filter] at hx
      exact ⟨hx.1, of_decide_eq_true hx.2⟩
  rw [hF]
  have hlast : ∀ c : Nat, ∃ x : Int, L2.atI [Dv.int 0, .int most, .int (1 + nx N c 4)] (nx N (c + 1) 3) = some (.int x) ∧ 0 ≤ x ∧ x ≤ most := by
    intro c
    have b4 := nx_in N c (m := 4) (by decide)
    have b3 := nx_in N (c + 1) (m := 3) (by decide)
    obtain ⟨x, hx, e⟩ := atI_int (l := [0, most, 1 + nx N c 4]) b3.1 b3.2
    refine ⟨x, e, ?_⟩
    simp only [List.mem_cons, List.not_mem_nil, or_false] at hx
    rcases hx with rfl | rfl | rfl <;> omega
  cases F with
  | nil =>
    obtain ⟨x, hx, x0, x1⟩ := hlast s.c
    simp [wm_next hN, hx, hz]
    exact ⟨.num x, ⟨x0, x1⟩, rfl, _, rfl⟩
  | cons y r =>
    have b2 := nx_in N s.c (m := 2) (by decide)
    by_cases h0 : nx N s.c 2 = 0
    · have hp : (0 : Int) < ((y :: r).length : Int) := by simp
      have bi := nx_in N (s.c + 1) (m := ((y :: r).length : Int)) hp
      obtain ⟨w, hw, e⟩ : ∃ w ∈ y :: r, L2.atI ((y :: r).map fun x => Dv.str x.n) (nx N (s.c + 1) ((y :: r).length : Int)) = some (.str w.n) := by
        rw [atI_nn bi.1, List.getElem?_map, List.getElem?_eq_getElem (by omega)]
        exact ⟨_, List.getElem_mem _, rfl⟩
      simp only [List.length_cons, List.map_cons, Int.natCast_add, Int.natCast_one] at e hp
      simp [wm_next hN, h0, hz, show (0 : Int) < (r.length : Int) + 1 by omega, show (r.length : Int) + 1 ≠ 0 by omega, e]
      exact ⟨.nam w.n, ⟨w, (hFm w hw).1, rfl, (hFm w hw).2⟩, rfl, _, rfl⟩
    · obtain ⟨x, hx, x0, x1⟩ := hlast (s.c + 1)
      simp [wm_next hN, h0, hz, show (0 : Int) < (r.length : Int) + 1 by omega, hx]
      exact ⟨.num x, ⟨x0, x1⟩, rfl, _, rfl⟩
end L05

namespace L05
open PySem PySem.Spec PyProof.Rows L2 ML

mutual
/-- the same, where every item is a tuple -/
def TpI (d : Dv) : It → Prop
  | .rep n u b => ∃ db ds, d = .tup [.str "repeat", .str n, u.dv, db] ∧ seqOf [] db = some ds ∧ TpL ds b
  | .eit n bs => ∃ db ds, d = .tup [.str "either", .str n, db] ∧ seqOf [] db = some ds ∧ TpB ds bs
  | .swi n w vs bs => ∃ db cs ds, d = .tup [.str "switch", .str n, .str w, db] ∧ seqOf [] db = some cs ∧ CasesR cs vs ds ∧ TpB ds bs
  | i => d = frI i
def TpL (ds : List Dv) : List It → Prop
  | [] => ds = []
  | i :: r => ∃ d t, ds = d :: t ∧ TpI d i ∧ TpL t r
def TpB (ds : List Dv) : List (List It) → Prop
  | [] => ds = []
  | b :: r => ∃ d t, ds = d :: t ∧ (∃ l, seqOf [] d = some l ∧ TpL l b) ∧ TpB t r
end
theorem TpI.is {i : It} : ∀ {d : Dv}, TpI d i → IsI [] d i := by
  refine It.rec (motive_1 := fun i => ∀ {d : Dv}, TpI d i → IsI [] d i) (motive_2 := fun b => ∀ {ds : List Dv}, TpL ds b → IsL [] ds b) (motive_3 := fun bs => ∀ {ds : List Dv}, TpB ds bs → IsB [] ds bs) ?_ ?_ ?_ ?_ ?_ ?_ ?_ ?_ ?_ ?_ ?_ ?_ ?_ i
  · intro n sz o lo hi d h; simp only [TpI] at h; rw [h, IsI, frI]; rfl
  · intro n u d h; simp only [TpI] at h; rw [h, IsI, frI]; rfl
  · intro n e m d h; simp only [TpI] at h; rw [h, IsI, frI]; rfl
  · intro n m d h; simp only [TpI] at h; rw [h, IsI, frI]; rfl
  · intro n e m d h; simp only [TpI] at h; rw [h, IsI, frI]; rfl
  · intro n u b ih d h
    rw [TpI] at h
    obtain ⟨db, ds, rfl, h2, h3⟩ := h
    rw [IsI]
    exact ⟨db, rfl, ds, h2, ih h3⟩
  · intro n bs ih d h
    rw [TpI] at h
    obtain ⟨db, ds, rfl, h2, h3⟩ := h
    rw [IsI]
    exact ⟨db, ds, rfl, h2, ih h3⟩
  · intro n w vs bs ih d h
    rw [TpI] at h
    obtain ⟨db, cs, ds, rfl, h2, h3, h4⟩ := h
    rw [IsI]
    exact ⟨db, cs, ds, rfl, h2, h3, ih h4⟩
  · intro a b d h; simp only [TpI] at h; rw [h, IsI, frI]; rfl
  · intro ds h; rw [TpL] at h; rw [IsL]; exact h
  · intro i r h1 h2 ds h
    rw [TpL] at h
    obtain ⟨d, t, rfl, a, b⟩ := h
    rw [IsL]
    exact ⟨d, t, rfl, h1 a, h2 b⟩
  · intro ds h; rw [TpB] at h; rw [IsB]; exact h
  · intro i r h1 h2 ds h
    rw [TpB] at h
    obtain ⟨d, t, rfl, ⟨l, a1, a2⟩, b⟩ := h
    rw [IsB]
    exact ⟨d, t, rfl, ⟨l, a1, h1 a2⟩, h2 b⟩
theorem TpL.is : ∀ {b : List It} {ds : List Dv}, TpL ds b → IsL [] ds b
  | [], _, h => by rw [TpL] at h; rw [IsL]; exact h
  | i :: r, _, h => by
    rw [TpL] at h
    obtain ⟨d, t, rfl, a, b⟩ := h
    rw [IsL]
    exact ⟨d, t, rfl, a.is, b.is⟩
theorem TpB.is : ∀ {b : List (List It)} {ds : List Dv}, TpB ds b → IsB [] ds b
  | [], _, h => by rw [TpB] at h; rw [IsB]; exact h
  | i :: r, _, h => by
    rw [TpB] at h
    obtain ⟨d, t, rfl, ⟨l, a1, a2⟩, b⟩ := h
    rw [IsB]
    exact ⟨d, t, rfl, ⟨l, a1, a2.is⟩, b.is⟩
end L05

namespace L05
open PySem PySem.Spec PyProof.Rows L2 ML

def numsL : List It → List Nm
  | [] => []
  | i :: r => numsOf i ++ numsL r
theorem numsL_app {b c : List It} : numsL (b ++ c) = numsL b ++ numsL c := by
  induction b with
  | nil => rfl
  | cons i r ih => simp only [List.cons_append, numsL, ih, List.append_assoc]
theorem nmL_app {b c : List It} : nmL (b ++ c) = nmL b ++ nmL c := by
  induction b with
  | nil => simp [nmL]
  | cons i r ih => simp only [List.cons_append, nmL, ih, List.append_assoc]
theorem ckL_app {b c : List It} : ckL (b ++ c) = ckL b + ckL c := by
  induction b with
  | nil => simp [ckL]
  | cons i r ih => simp only [List.cons_append, ckL, ih, Nat.add_assoc]
theorem GoodL_app {dp : Nat} : ∀ {b c : List It} {A : List Nm}, GoodL A dp (b ++ c) ↔ GoodL A dp b ∧ GoodL (A ++ numsL b) dp c
  | [], c, A => by simp [GoodL, numsL]
  | i :: r, c, A => by
    simp only [List.cons_append, GoodL, numsL]
    rw [GoodL_app (b := r), List.append_assoc, and_assoc]
theorem IsLapp : ∀ {b c : List It} {ds es : List Dv}, TpL ds b → TpL es c → TpL (ds ++ es) (b ++ c)
  | [], c, ds, es, h, g => by
    unfold TpL at h
    subst h
    exact g
  | i :: r, c, ds, es, h, g => by
    unfold TpL at h
    obtain ⟨d, t, rfl, h1, h2⟩ := h
    rw [List.cons_append, List.cons_append, TpL]
    exact ⟨d, t ++ es, rfl, h1, IsLapp h2 g⟩
theorem IsLone {d : Dv} {i : It} (h : TpI d i) : TpL [d] [i] := by
  rw [TpL]
  exact ⟨d, [], rfl, h, by rw [TpL]⟩
theorem belows_app {n : Nat} {l r : List Dv} (h : belows n l = true) (g : belows n r = true) : belows n (l ++ r) = true := by
  induction l with
  | nil => exact g
  | cons d t ih =>
    unfold belows at h
    rw [Bool.and_eq_true] at h
    rw [List.cons_append]
    unfold belows
    rw [h.1, ih h.2]
    rfl
theorem Nm.isI (x : Nm) (T : Sto) : TpI x.dv x.it := by
  unfold Nm.it TpI
  rfl
theorem Nm.below0 (x : Nm) : below 0 x.dv = true := rfl
theorem pure_app {X Y : Sto} (h : Pure X) (g : Pure Y) : Pure (X ++ Y) := by
  unfold Pure at *
  rw [List.all_append, h, g]
  rfl
theorem pure_lst {l : List Dv} (h : belows 0 l = true) : Pure [.lst l] := by
  unfold Pure
  simp [belowC, h]
theorem belows_nms {A : List Nm} : belows 0 (A.map Nm.dv) = true := belows_all fun d hd => by
  obtain ⟨x, _, rfl⟩ := List.mem_map.mp hd
  rfl
def ItemsR (N : List Int) (dp : Nat) (s : DSt) (X : Sto) (A : List Nm) (many : Nat) (r : Rs Dv) : Prop := ∃ ds b s', r = .ok (.lst ds) (dS N s' X) ∧ TpL ds b ∧ belows 0 ds = true ∧ GoodL A dp b ∧ b.length ≤ many ∧ Step s s' (nmL b) (ckL b) ∧ (0 < many → s.nm ≠ [] → b ≠ [])
def ItemsOk (N : List Int) (dp : Nat) : Prop := ∀ (k : Nat) (s : DSt) (X : Sto) (A : List Nm) (dv : Dv) (many : Nat), 4 * (3 - dp) + 4 ≤ k → many ≤ 12 → Pure X → SOk s → Ah N X A dv → A.length ≤ 20 * dp →
  Wm (run k fn__law_items [.ref 2, dv, .int dp, .int many]) (dS N s X) (ItemsR N dp s X A many)
/-- what an item's drawing tells -/
def ItemR (N : List Int) (dp : Nat) (s : DSt) (X : Sto) (A : List Nm) (r : Rs Dv) : Prop := ∃ d i s', r = .ok d (dS N s' X) ∧ TpI d i ∧ below 0 d = true ∧ (∀ n, d ≠ .ref n) ∧ GoodI A dp i ∧ Step s s' (nmI i) (ckI i) ∧ ∀ x : Nm, i = x.it → d = x.dv
def ItemOk (N : List Int) (dp : Nat) : Prop := ∀ (k : Nat) (s : DSt) (X : Sto) (A : List Nm) (dv : Dv), 4 * (3 - dp) + 3 ≤ k → Pure X → SOk s → s.nm ≠ [] → Ah N X A dv → A.length ≤ 20 * dp + 12 →
  Wm (run k fn__law_item [.ref 2, dv, .int dp]) (dS N s X) (ItemR N dp s X A)
def NestedOk (N : List Int) (dp : Nat) : Prop := ∀ (k : Nat) (s : DSt) (X : Sto) (A : List Nm) (dv : Dv) (kind : Int), 4 * (3 - dp) + 2 ≤ k → Pure X → SOk s → 4 < s.nm.length → Ah N X A dv → A.length ≤ 20 * dp + 12 → kind = 5 ∨ kind = 6 ∨ kind = 7 →
  Wm (run k fn__law_nested [.ref 2, dv, .int dp, .int kind]) (dS N s X) (ItemR N dp s X A)
/-- a block without a first number; one with the first number -/
def BlockR (N : List Int) (dp : Nat) (s : DSt) (X : Sto) (A : List Nm) (nm : Str) (r : Rs Dv) : Prop := ∃ ds b s', r = .ok (.lst ds) (dS N s' X) ∧ TpL ds b ∧ belows 0 ds = true ∧ GoodL A dp b ∧ b.length ≤ 12 ∧
    (nm = Str.ofString "" ∧ Step s s' (nmL b) (ckL b) ∨ nm ≠ Str.ofString "" ∧ ∃ (x : Nm) (t : List It), b = x.it :: t ∧ x.n = nm ∧ Step s s' (nmL t) (ckL t))
def BlockOk (N : List Int) (dp : Nat) : Prop := ∀ (k : Nat) (s : DSt) (X : Sto) (A : List Nm) (dv : Dv) (nm : Str), 4 * (3 - dp) + 5 ≤ k → Pure X → SOk s → Ah N X A dv → A.length + 1 ≤ 20 * dp → okS nm →
  Wm (run k fn__law_block [.ref 2, dv, .int dp, .str nm]) (dS N s X) (BlockR N dp s X A nm)
def ItemsJ (N : List Int) (dp : Nat) (s : DSt) (X : Sto) (A : List Nm) (dv : Dv) (many : Nat) (j : Nat) (env : Env') (S : Sto) : Prop := ∃ ds b s' a6 a7, S = dS N s' (X ++ [.lst ds, .lst ((A ++ numsL b).map Nm.dv)]) ∧ env = [some (.ref 2), some dv, some (.int dp), some (.int many), some (.ref (X.length + 3)), some (.ref (X.length + 1 + 3)), a6, a7] ∧ TpL ds b ∧ belows 0 ds = true ∧ GoodL A dp b ∧ b.length ≤ j ∧ Step s s' (nmL b) (ckL b) ∧ (b = [] → s'.nm = s.nm) ∧ (0 < j → s.nm ≠ [] → b ≠ [])
theorem numsOf_len (i : It) : (numsOf i).length ≤ 1 := by cases i <;> simp [numsOf]
theorem numsL_len : ∀ (b : List It), (numsL b).length ≤ b.length
  | [] => Nat.le_refl _
  | i :: r => by
    have h1 := numsOf_len i
    have h2 := numsL_len r
    simp only [numsL, List.length_append, List.length_cons]
    omega
theorem wm_items_d {N : List Int} {dp : Nat} (hN : N.length = 160) (hd : dp ≤ 3) (hi : ItemOk N dp) : ItemsOk N dp := by
  intro k s X A dv many hk hm hX hs hA hl
  have hz := szl
  obtain ⟨k, rfl⟩ : ∃ j, k = j + 1 := ⟨k - 1, by omega⟩
  rw [rn__law_items, wm_def, m__law_items]
  simp only [ws_seq, ws_set]
  have hsq := (hA.pre [.lst []]).seq s
  simp [ws_for, hz, seq_listC hsq (by simp; omega)]
  refine ⟨by omega, ?_⟩
  refine for_inv (ItemsJ N dp s X A dv many) ?_ ?_ ?_
  · refine ⟨[], [], s, _, _, ?_, rfl, by rw [TpL], rfl, by rw [GoodL]; trivial, Nat.le_refl _, Step.idle hs.ck, fun _ => rfl, fun h => absurd h (by decide)⟩
    simp [numsL]
  · rintro j d env S hdd ⟨ds, b, s', a6, a7, rfl, rfl, h1, h2, h3, h4, h5, h6, h7⟩
    obtain ⟨hj, rfl⟩ := range_at (f := fun i : Nat => .int (i : Int)) hdd
    have hs' := h5.sok hs
    obtain ⟨V, hV⟩ : ∃ V, V = A ++ numsL b := ⟨_, rfl⟩
    rw [← hV]
    by_cases hn : s'.nm = []
    · simp [hn]
      exact ⟨ds, b, s', _, _, by rw [hV], rfl, h1, h2, h3, Nat.le_succ_of_le h4, h5, h6, fun _ hne hb => hne ((h6 hb) ▸ hn)⟩
    · have hnl := numsL_len b
      have hVl : V.length ≤ A.length + b.length := by
        rw [hV, List.length_append]
        omega
      have hp : 0 < s'.nm.length := List.length_pos_iff.mpr hn
      have hA2 : Ah N (X ++ [.lst ds, .lst (V.map Nm.dv)]) V (.ref (X.length + 1 + 3)) := fun s0 => by
        rw [own_ref, ds_x, List.getElem?_append_right (by omega), show X.length + 1 - X.length = 1 by omega]
        rfl
      have hX2 : Pure (X ++ [.lst ds, .lst (V.map Nm.dv)]) := pure_app hX (by
        unfold Pure
        simp only [List.all_cons, List.all_nil, belowC, Bool.and_true, Bool.and_eq_true]
        exact ⟨h2, belows_nms⟩)
      simp only [at_gSet, wm_pure, List.set]
      simp [hp, -ws_seq]
      rw [ws_seq]
      simp [-ws_seq]
      refine (hi k s' _ V _ (by omega) hX2 hs' hn hA2 (by omega)).imp ?_
      rintro r ⟨d, i, s2, rfl, i1, i2, i3, i4, i5, i6⟩
      have x1 : (X ++ [Cell.lst ds, .lst (V.map Nm.dv)])[X.length]? = some (.lst ds) := by
        rw [List.getElem?_append_right (Nat.le_refl _), Nat.sub_self]
        rfl
      have x2 : ∀ ds', (X ++ [Cell.lst ds', .lst (V.map Nm.dv)])[X.length + 1]? = some (.lst (V.map Nm.dv)) := fun ds' => by
        rw [List.getElem?_append_right (by omega), show X.length + 1 - X.length = 1 by omega]
        rfl
      have y1 : (X ++ [Cell.lst ds, .lst (V.map Nm.dv)]).set X.length (.lst (ds ++ [d])) = X ++ [.lst (ds ++ [d]), .lst (V.map Nm.dv)] := by
        rw [List.set_append_right _ _ (Nat.le_refl _), Nat.sub_self]
        rfl
      have y2 : ∀ l, (X ++ [Cell.lst (ds ++ [d]), .lst (V.map Nm.dv)]).set (X.length + 1) (.lst l) = X ++ [.lst (ds ++ [d]), .lst l] := fun l => by
        rw [List.set_append_right _ _ (by omega), show X.length + 1 - X.length = 1 by omega]
        rfl
      have hdsl := IsL_length h1.is
      simp only [xk_ok, sk_nx]
      rw [ws_seq]
      simp [x1, y1, hz, show ds.length < 16777216 by omega, -ws_seq]
      have hst := h5.trans i5 hs.nd
      have done : ∀ W, W = A ++ numsL (b ++ [i]) → ItemsJ N dp s X A dv many (j + 1) [some (Dv.ref 2), some dv, some (.int dp), some (.int many), some (.ref (X.length + 3)), some (.ref (X.length + 1 + 3)), some (.int j), some d] (dS N s2 (X ++ [.lst (ds ++ [d]), .lst (W.map Nm.dv)])) := fun W hW => by
        refine ⟨ds ++ [d], b ++ [i], s2, _, _, by rw [hW], rfl, IsLapp h1 (IsLone i1), belows_app h2 (by unfold belows; rw [i2]; rfl), GoodL_app.mpr ⟨h3, ?_⟩, by simp; exact h4, ?_, fun e => absurd e (by simp), fun _ _ => by simp⟩
        · rw [← hV]
          exact ⟨i4, by rw [GoodL]; trivial⟩
        · rw [nmL_app, ckL_app]
          have e1 : nmL [i] = nmI i := by simp [nmL]
          have e2 : ckL [i] = ckI i := by simp [ckL]
          rw [e1, e2]
          exact hst
      have ho : ∀ p q, i ≠ .odd p q := by
        intro p q e
        rw [e] at i4
        exact i4
      obtain ⟨kind, rest, hf, -, hk', hnum⟩ := item_form i1.is ho
      have hix : ∀ S, ixD S d (.int 0) = some (.str kind) := fun S => by
        have := seq_ix (seq_pre (X := S) hf) 0
        simp only [List.nil_append] at this
        rw [this]
        exact ML.atI_nat (n := 0)
      by_cases hnm : ∃ n sz o lo hi, i = .number n sz o lo hi
      · have hkn := hnum.mpr hnm
        obtain ⟨n, sz, o, lo, hi', rfl⟩ := hnm
        have hd := i6 ⟨n, sz, o, lo, hi'⟩ rfl
        have dn := done (V ++ [⟨n, sz, o, lo, hi'⟩]) (by rw [hV, numsL_app]; simp [numsL, numsOf])
        rw [List.map_append, List.map_singleton] at dn
        simp [hix, hk', hkn, x2, y2, hz, show V.length < 16777216 by omega]
        rw [← hd] at dn
        exact dn
      · have hkn : (kind == Str.ofString "number") = false := by
          rw [Bool.eq_false_iff]
          exact fun q => hnm (hnum.mp q)
        have e : numsOf i = [] := by cases i <;> first | rfl | exact absurd ⟨_, _, _, _, _, rfl⟩ hnm
        have dn := done V (by rw [hV, numsL_app]; simp [numsL, e])
        simp [hix, hk', hkn]
        exact dn
  · rintro env S ⟨ds, b, s', a6, a7, rfl, rfl, h1, h2, h3, h4, h5, h6, h7⟩
    have hlen : ((List.range many).map fun i : Nat => Dv.int (i : Int)).length = many := by simp
    rw [hlen] at h4 h7
    have hnew := ds_new (N := N) (s := s') (Y := [.lst ((A ++ numsL b).map Nm.dv)]) hX h2
    rw [List.map_append] at hnew
    simp [hnew]
    exact ⟨ds, b, s', rfl, h1, h2, h3, h4, h5, h7⟩
end L05

namespace L05
open PySem PySem.Spec PyProof.Rows L2 ML

/-- a comprehension whose elements change the store -/
theorem compL_inv {src : Sr} {l0 : List Dv} {el : Dv → M (Option Dv)} {P : Rs Dv → Prop} (J : Nat → List Dv → Sto → Prop) (hs : ∀ k acc S, J k acc S → src S = some l0)
    (step : ∀ k d acc S, l0[k]? = some d → J k acc S → Wm (el d) S (okK fun y S' => match y with | some y => acc.length < sizeLine ∧ J (k + 1) (acc ++ [y]) S' | none => J (k + 1) acc S'))
    (fin : ∀ acc S, J l0.length acc S → P (.ok (.lst acc) S)) : ∀ (l : List Dv) (k : Nat) (acc : List Dv) (S : Sto), l0.drop k = l → k ≤ l0.length → J k acc S → ∃ r, (compL src l0 el l acc S).map frzR = some r ∧ P r
  | [], k, acc, S, hd, hk, h => by
    have hk2 : k = l0.length := by
      have := List.drop_eq_nil_iff.mp hd
      omega
    subst hk2
    refine ⟨.ok (.lst acc) S, ?_, fin acc S h⟩
    unfold compL
    rw [if_pos (hs _ _ _ h)]
    rfl
  | d :: r, k, acc, S, hd, hk, h => by
    have hlt : k < l0.length := by
      rcases Nat.lt_or_ge k l0.length with q | q
      · exact q
      · rw [List.drop_eq_nil_of_le q] at hd
        cases hd
    have hg : l0[k]? = some d := by
      rw [List.drop_eq_getElem_cons hlt] at hd
      rw [List.getElem?_eq_getElem hlt]
      exact congrArg some (List.cons.inj hd).1
    have hr : l0.drop (k + 1) = r := by
      rw [List.drop_eq_getElem_cons hlt] at hd
      exact (List.cons.inj hd).2
    obtain ⟨q, e, p⟩ := step k d acc S hg h
    cases q with
    | er x s => exact p.elim
    | ok y S' =>
      rw [compL]
      dsimp only
      rw [if_pos (hs _ _ _ h), e]
      cases y with
      | none =>
        dsimp only
        exact compL_inv J hs step fin r (k + 1) acc S' hr hlt p
      | some y =>
        obtain ⟨p1, p2⟩ := p
        dsimp only
        rw [if_pos p1]
        exact compL_inv J hs step fin r (k + 1) (acc ++ [y]) S' hr hlt p2
theorem lcF_inv {fi : Env' → M Sr} {vs : List Nat} {gf : Dv → Env' → M Env'} {ft : Env' → M Bool} {fe : Env' → M Dv} {env : Env'} {S S1 : Sto} {P : Rs Dv → Prop} {src : Sr} {l0 : List Dv} (J : Nat → List Dv → Sto → Prop)
    (hi : Wm (fi env) S fun r => r = .ok src S1) (h0 : J 0 [] S1) (hs : ∀ k acc S, J k acc S → src S = some l0)
    (step : ∀ k d acc S, l0[k]? = some d → J k acc S → Wm (elM vs gf ft fe env d) S (okK fun y S' => match y with | some y => acc.length < sizeLine ∧ J (k + 1) (acc ++ [y]) S' | none => J (k + 1) acc S'))
    (fin : ∀ acc S, J l0.length acc S → P (.ok (.lst acc) S)) : Wm (lcF fi vs gf ft fe env) S P := by
  obtain ⟨r, e, p⟩ := compL_inv J hs step fin l0 0 [] S1 rfl (Nat.zero_le _) h0
  refine ⟨r, ?_, p⟩
  unfold lcF
  show M.bind _ _ S = _
  unfold M.bind
  rw [wm_run hi]
  dsimp only
  unfold compM
  rw [hs _ _ _ h0]
  exact e
theorem fr_block_none {t : List Dv} : True := trivial
theorem wm_block_d {N : List Int} {dp : Nat} (hN : N.length = 160) (hd : dp ≤ 3) (hi : ItemsOk N dp) : BlockOk N dp := by
  intro k s X A dv nm hk hX hs hA hl hnm
  have hz := szl
  obtain ⟨k, rfl⟩ : ∃ j, k = j + 1 + 1 := ⟨k - 2, by omega⟩
  rw [rn__law_block, wm_def, m__law_block]
  have b3 := nx_in N s.c (m := 3) (by decide)
  obtain ⟨many, hmany⟩ : ∃ many : Nat, nx N s.c 3 = many := ⟨(nx N s.c 3).toNat, by omega⟩
  have so0 : PyData.strOk (Str.ofString "") = true := by decide +kernel
  rw [ws_seq]
  simp [wm_next hN, hmany, -ws_seq]
  rw [ws_seq]
  by_cases h0 : nm = Str.ofString ""
  · subst h0
    simp [so0]
    refine (hi (k + 1) _ X A dv many (by omega) (by omega) hX (hs.c _) hA (by omega)).imp ?_
    rintro r ⟨ds, b, s', rfl, i1, i2, i3, i4, i5, -⟩
    simp
    exact ⟨ds, b, s', rfl, i1, i2, i3, by omega, .inl ⟨rfl, Step.sameL (Step.idle hs.ck) i5 hs.nd⟩⟩
  · have hb : (nm == Str.ofString "") = false := by simpa using h0
    simp [so0, hnm.2, hb, h0]
    refine (wm_number (k := k + 1) hN (by omega)).imp ?_
    rintro r ⟨x, c, x1, x2, rfl⟩
    have hadd : addD (dS N ⟨s.nm, s.ck, c⟩ X) dv (.lst [x.dv]) = some (.lst ((A ++ [x]).map Nm.dv)) := by
      rw [add_own (hA _) rfl (by simp; omega)]
      simp
    simp [hz, hadd]
    refine (hi (k + 1) ⟨s.nm, s.ck, c⟩ X (A ++ [x]) _ many (by omega) (by omega) hX (hs.c _) (fun s => by simp) (by simp; omega)).imp ?_
    rintro r ⟨ds, b, s', rfl, i1, i2, i3, i4, i5, -⟩
    have hdl := IsL_length i1.is
    have hadd2 : addD (dS N s' X) (.lst [x.dv]) (.lst ds) = some (.lst (x.dv :: ds)) := add_own (l := [x.dv]) rfl rfl (by simp; omega)
    simp [hz, hadd2, show 1 + ds.length ≤ 16777216 by omega]
    refine ⟨x.dv :: ds, x.it :: b, s', rfl, ?_, ?_, ?_, by simp; omega, .inr ⟨h0, x, b, rfl, x1, Step.sameL (Step.idle hs.ck) i5 hs.nd⟩⟩
    · rw [TpL]
      exact ⟨_, _, rfl, x.isI [], i1⟩
    · unfold belows
      rw [x.below0, i2]
      rfl
    · rw [GoodL]
      exact ⟨x2, i3⟩
end L05

namespace L05
open PySem PySem.Spec PyProof.Rows L2 ML

theorem Use.below0 (u : Use) : below 0 u.dv = true := by cases u <;> rfl
theorem GoodB_all {A : List Nm} {dp : Nat} : ∀ {bs : List (List It)}, GoodB A dp bs ↔ ∀ b ∈ bs, b.length ≤ 12 ∧ GoodL A dp b
  | [] => by simp [GoodB]
  | b :: r => by
    rw [GoodB, GoodB_all (bs := r)]
    simp [and_assoc]
theorem nmB_app {b c : List (List It)} : nmB (b ++ c) = nmB b ++ nmB c := by
  induction b with
  | nil => simp [nmB]
  | cons i r ih => simp only [List.cons_append, nmB, ih, List.append_assoc]
theorem ckB_app {b c : List (List It)} : ckB (b ++ c) = ckB b + ckB c := by
  induction b with
  | nil => simp [ckB]
  | cons i r ih => simp only [List.cons_append, ckB, ih, Nat.add_assoc]
theorem IsBapp : ∀ {b c : List (List It)} {ds es : List Dv}, TpB ds b → TpB es c → TpB (ds ++ es) (b ++ c)
  | [], c, ds, es, h, g => by
    unfold TpB at h
    subst h
    exact g
  | i :: r, c, ds, es, h, g => by
    unfold TpB at h
    obtain ⟨d, t, rfl, h1, h2⟩ := h
    rw [List.cons_append, List.cons_append, TpB]
    exact ⟨d, t ++ es, rfl, h1, IsBapp h2 g⟩
theorem IsBone {ds : List Dv} {b : List It} (h : TpL ds b) : TpB [.lst ds] [b] := by
  rw [TpB]
  exact ⟨.lst ds, [], rfl, ⟨ds, rfl, h⟩, by rw [TpB]⟩
theorem belows_one {n : Nat} {d : Dv} (h : below n d = true) : belows n [d] = true := by
  unfold belows
  rw [h]
  rfl
/-- a repeat is drawn -/
theorem wm_nested_rep {N : List Int} {dp : Nat} (hN : N.length = 160) (hd : dp ≤ 2) (hb : BlockOk N (dp + 1)) : ∀ (k : Nat) (s : DSt) (X : Sto) (A : List Nm) (dv : Dv), 4 * (3 - dp) + 2 ≤ k → Pure X → SOk s → 4 < s.nm.length → Ah N X A dv → A.length ≤ 20 * dp + 12 →
    Wm (run k fn__law_nested [.ref 2, dv, .int dp, .int 5]) (dS N s X) (ItemR N dp s X A) := by
  intro k s X A dv hk hX hs hl hA hAl
  have hz := szl
  obtain ⟨k, rfl⟩ : ∃ j, k = j + 1 + 1 := ⟨k - 2, by omega⟩
  rw [rn__law_nested, wm_def, m__law_nested]
  obtain ⟨nm, ck, c⟩ := s
  match nm, hl with
  | n1 :: n2 :: r, hl =>
    have g1 : ∀ l : List Str, cellLst (some (.lst (l.map .str))) = some (l.map .str) := fun _ => rfl
    simp only [ws_seq, ws_set, ws_if]
    have hs2 : SOk ⟨r, ck, c⟩ := ⟨(List.nodup_cons.mp (List.nodup_cons.mp hs.nd).2).2, hs.ck, fun n hn => hs.ok n (List.mem_cons_of_mem _ (List.mem_cons_of_mem _ hn))⟩
    have ok2 := (hs.ok n2 (by simp)).1
    have hne2 := (hs.ok n2 (by simp)).2
    simp [-List.map_cons]
    refine (wm_use (k := k + 1) (s := ⟨r, ck, c⟩) (most := 16) hN (by omega) (by decide) hA (by omega)).imp ?_
    rintro q ⟨u, c1, hu, rfl⟩
    simp [-List.map_cons]
    have hcast : ((dp : Int) + 1) = ((dp + 1 : Nat) : Int) := by omega
    rw [hcast]
    refine (hb (k + 1) ⟨r, ck, c1⟩ X A dv n2 (by omega) hX (hs2.c c1) hA (by omega) ok2).imp ?_
    rintro q ⟨ds, b, s', rfl, i1, i2, i3, i4, i5⟩
    rcases i5 with ⟨e, _⟩ | ⟨_, x, t, rfl, hx, hst⟩
    · exact absurd e hne2
    · simp [hz, -List.map_cons]
      refine ⟨_, .rep n1 u (x.it :: t), s', rfl, ?_, ?_, by intro n; nofun, ?_, ?_, ?_⟩
      · rw [TpI]
        exact ⟨.lst ds, ds, rfl, rfl, i1⟩
      · show (true && (true && (below 0 u.dv && (belows 0 ds && true)))) = true
        rw [u.below0, i2]
        rfl
      · rw [GoodI]
        exact ⟨hu, by omega, i4, ⟨x, t, rfl⟩, i3⟩
      · have e1 : nmI (.rep n1 u (x.it :: t)) = n1 :: n2 :: nmL t := by
          rw [nmI, nmL, ← hx]
          rfl
        have e2 : ckI (.rep n1 u (x.it :: t)) = ckL t := by
          rw [ckI, ckL]
          have : ckI x.it = 0 := by simp [Nm.it, ckI]
          omega
        rw [e1, e2]
        have st1 : Step ⟨n1 :: n2 :: r, ck, c⟩ ⟨n2 :: r, ck, c⟩ [n1] 0 := Step.one hs.ck
        have st2 : Step ⟨n2 :: r, ck, c⟩ ⟨r, ck, c1⟩ [n2] 0 := Step.one hs.ck
        have := (st1.trans (st2.trans hst (List.nodup_cons.mp hs.nd).2) hs.nd)
        simpa using this
      · intro x e
        cases e
end L05

namespace L05
open PySem PySem.Spec PyProof.Rows L2 ML

/-- while the choices are drawn: the first names fs were popped before -/
def EitJ (N : List Int) (dp : Nat) (X : Sto) (A : List Nm) (fs rest : List Str) (ck : Nat) (pre : List (Option Dv)) (suf : List (Option Dv)) (j : Nat) (env : Env') (S : Sto) : Prop := ∃ ds bs s' us a5, S = dS N s' (X ++ [.lst ds]) ∧ env = pre ++ a5 :: suf ∧ TpB ds bs ∧ belows 0 ds = true ∧ bs.length = j + 1 ∧ (∀ b ∈ bs.tail, headNum b) ∧ GoodB A (dp + 1) bs ∧
  rest = us ++ s'.nm ∧ (nmB bs).Nodup ∧ (∀ n ∈ nmB bs, n ∈ fs.take j ∨ n ∈ us) ∧ s'.ck = ck + ckB bs ∧ SOk s'
theorem wm_nested_eit {N : List Int} {dp : Nat} (hN : N.length = 160) (hd : dp ≤ 2) (hb : BlockOk N (dp + 1)) : ∀ (k : Nat) (s : DSt) (X : Sto) (A : List Nm) (dv : Dv) (kind : Int), 4 * (3 - dp) + 2 ≤ k → Pure X → SOk s → 4 < s.nm.length → Ah N X A dv → A.length ≤ 20 * dp + 12 → (kind = 6 ∨ kind = 7 ∧ A = []) →
    Wm (run k fn__law_nested [.ref 2, dv, .int dp, .int kind]) (dS N s X) (ItemR N dp s X A) := by
  intro k s X A dv kind hk hX hs hl hA hAl hkind
  have hz := szl
  obtain ⟨k, rfl⟩ : ∃ j, k = j + 1 + 1 := ⟨k - 2, by omega⟩
  rw [rn__law_nested, wm_def, m__law_nested]
  obtain ⟨nm, ck, c⟩ := s
  match nm, hl with
  | n1 :: r, hl =>
    have hr4 : 4 ≤ r.length := by simp at hl; omega
    have hk5 : ¬ kind = 5 := by rcases hkind with h | ⟨h, _⟩ <;> omega
    have hcast : ((dp : Int) + 1) = ((dp + 1 : Nat) : Int) := by omega
    have hsr : SOk ⟨r, ck, c⟩ := ⟨(List.nodup_cons.mp hs.nd).2, hs.ck, fun n hn => hs.ok n (List.mem_cons_of_mem _ hn)⟩
    rw [ws_seq]
    simp [-List.map_cons, -ws_seq]
    rw [ws_seq]
    simp [hk5, -ws_seq]
    rw [ws_seq]
    have hlen := seq_len (hA.seq ⟨r, ck, c⟩)
    have b3 := nx_in N c (m := 3) (by decide)
    obtain ⟨m, hm, hm1, hm3⟩ : ∃ m : Nat, 1 + nx N c 3 = m ∧ 1 ≤ m ∧ m ≤ 3 := ⟨(1 + nx N c 3).toNat, by omega, by omega, by omega⟩
    -- the suite of the choices
    have suite : Ws (sSeq (sSet 6 (lcF (iArg (aCons (eOp addD (eC (.int 1)) (eArg (aCons (getv 0) (aCons (eC (.int 3)) aNil)) (run (k + 1) fn__law_next))) aNil) rng1M) [7] (gSet 7) tYes' (eMt "list" (eOp ixD (getv 0) (eC (.int 2))) (aCons (eC (.int 0)) aNil) (popAtM))))
      (sSeq (sSet 8 (eArg (aCons (eArg (aCons (getv 0) (aCons (getv 1) (aCons (eOp addD (getv 2) (eC (.int 1))) (aCons (eC (.str "")) aNil)))) (run (k + 1) fn__law_block)) aNil) mkC))
      (sSeq (sFor (iVal (getv 6)) (gSet 5) (sExp (eMt "list" (getv 8) (aCons (eArg (aCons (getv 0) (aCons (getv 1) (aCons (eOp addD (getv 2) (eC (.int 1))) (aCons (getv 5) aNil)))) (run (k + 1) fn__law_block)) aNil) (appendM))))
      (sRet (eArg (aCons (eC (.str "either")) (aCons (getv 4) (aCons (getv 8) aNil))) mkT))))) [some (.ref 2), some dv, some (.int dp), some (.int kind), some (.str n1), none, none, none, none, none, none] (dS N ⟨r, ck, c⟩ X) (fun o => ∃ d S', o = .rt d S' ∧ ∃ e, leaveD true (X.length + 3) d S' = e ∧ ItemR N dp ⟨n1 :: r, ck, c⟩ X A e) := by
      rw [ws_seq, ws_set]
      refine lcF_inv (S1 := dS N ⟨r, ck, c + 1⟩ X) (src := fun _ => some ((List.range m).map fun i : Nat => .int (i : Int))) (l0 := (List.range m).map fun i : Nat => .int (i : Int)) (fun k acc S => acc = (r.map Dv.str).take k ∧ S = dS N ⟨r.drop k, ck, c + 1⟩ X ∧ k ≤ m) ?_ ⟨by simp, by simp, Nat.zero_le _⟩ (fun _ _ _ _ => rfl) ?_ ?_
      · simp [wm_next hN, hm]
        omega
      · rintro j d acc S hd' ⟨rfl, rfl, hjm⟩
        obtain ⟨hj, rfl⟩ := range_at (f := fun i : Nat => .int (i : Int)) hd'
        have hjr : j < r.length := by omega
        have hdr : r.drop j = r[j] :: r.drop (j + 1) := List.drop_eq_getElem_cons hjr
        have htk : (r.map Dv.str).take (j + 1) = (r.map Dv.str).take j ++ [.str r[j]] := by
          rw [List.take_add_one, List.getElem?_map, List.getElem?_eq_getElem hjr]
          rfl
        simp [htk, hz]
        rw [hdr, wm_popN]
        simp
        omega
      · rintro acc S ⟨rfl, rfl, -⟩
        have hl0 : ((List.range m).map fun i : Nat => Dv.int (i : Int)).length = m := by simp
        rw [hl0]
        simp only [xk_ok, sk_nx]
        obtain ⟨fs, hfs⟩ : ∃ fs, fs = r.take m := ⟨_, rfl⟩
        obtain ⟨rest, hrest⟩ : ∃ rest, rest = r.drop m := ⟨_, rfl⟩
        have hsplit : r = fs ++ rest := by rw [hfs, hrest, List.take_append_drop]
        have hfsl : fs.length = m := by rw [hfs, List.length_take]; omega
        have hmap : (r.map Dv.str).take m = fs.map .str := by rw [hfs, List.map_take]
        rw [hmap, ← hrest]
        have hs1 : SOk ⟨rest, ck, c + 1⟩ := ⟨by
          have := hsr.nd
          rw [hsplit, List.nodup_append] at this
          exact this.2.1, hs.ck, fun n hn => hsr.ok n (by
            show n ∈ r
            rw [hsplit]
            exact List.mem_append_right _ hn)⟩
        have okE : okS (Str.ofString "") := okS_nil
        rw [ws_seq]
        simp [-ws_seq, -List.map_take, -List.map_drop]
        rw [hcast]
        refine (hb (k + 1) ⟨rest, ck, c + 1⟩ X A dv _ (by omega) hX hs1 hA (by omega) okE).imp ?_
        rintro q ⟨ds, b, s', rfl, i1, i2, i3, i4, i5⟩
        rcases i5 with ⟨_, hst⟩ | ⟨hx, -⟩
        · obtain ⟨us, hus, hnd, hsub⟩ := hst.nm
          simp [hz, -ws_seq, -List.map_take, -List.map_drop]
          rw [ws_seq]
          simp [ws_for, -List.map_take, -List.map_drop, -ws_seq]
          refine for_inv (EitJ N dp X A fs rest ck [some (.ref 2), some dv, some (.int dp), some (.int kind), some (.str n1)] [some (.lst (fs.map .str)), none, some (.ref (X.length + 3)), none, none]) ?_ ?_ ?_
          · refine ⟨[.lst ds], [b], s', us, none, rfl, rfl, IsBone i1, belows_one (by exact i2), rfl, by simp, ?_, hus, ?_, ?_, ?_, hst.sok hs1⟩
            · rw [GoodB]
              exact ⟨i4, i3, by rw [GoodB]; trivial⟩
            · simpa [nmB] using hnd
            · intro n hn
              exact .inr (hsub n (by simpa [nmB] using hn))
            · have := hst.ck
              simpa [ckB] using this
          · rintro j d env S hd' ⟨ds', bs, s2, us2, a5, rfl, rfl, j1, j2, j3, j4, j5, j7, j6', j8, j9, j10⟩
            obtain ⟨f, hfj, hfm, rfl⟩ := map_at hd'
            have hfr : f ∈ r := by rw [hsplit]; exact List.mem_append_left _ hfm
            have hfok := hsr.ok f hfr
            simp [-List.map_take, -List.map_drop]
            rw [hcast]
            have hX2 : Pure (X ++ [.lst ds']) := pure_app hX (pure_lst j2)
            refine (hb (k + 1) s2 (X ++ [.lst ds']) A dv f (by omega) hX2 j10 (hA.pre _) (by omega) hfok.1).imp ?_
            rintro q ⟨es, b2, s3, rfl, e1, e2, e3, e4, e5⟩
            rcases e5 with ⟨e, _⟩ | ⟨_, x, t, rfl, hx, hst2⟩
            · exact absurd e hfok.2
            · have x1 : (X ++ [Cell.lst ds'])[X.length]? = some (.lst ds') := by
                rw [List.getElem?_append_right (Nat.le_refl _), Nat.sub_self]
                rfl
              have y1 : (X ++ [Cell.lst ds']).set X.length (.lst (ds' ++ [.lst es])) = X ++ [.lst (ds' ++ [.lst es])] := by
                rw [List.set_append_right _ _ (Nat.le_refl _), Nat.sub_self]
                rfl
              have hjl : j < m := by
                rcases Nat.lt_or_ge j m with q | q
                · exact q
                · rw [List.getElem?_eq_none (by omega)] at hfj
                  cases hfj
              have hdl := IsB_length j1.is
              simp [x1, y1, hz, show ds'.length < 16777216 by omega]
              obtain ⟨us3, hus3, hnd3, hsub3⟩ := hst2.nm
              have hnd0 := hsr.nd
              have hnd0 : (fs ++ (us2 ++ (us3 ++ s3.nm))).Nodup := by
                rw [← hus3, ← j7, ← hsplit]
                exact hnd0
              rw [List.nodup_append] at hnd0
              obtain ⟨nf, nr, nfr⟩ := hnd0
              rw [List.nodup_append] at nr
              obtain ⟨nu, nr2, nur⟩ := nr
              have hfnt : f ∉ fs.take j := fun hmem => by
                have : fs.take (j + 1) = fs.take j ++ [f] := by
                  rw [List.take_add_one, hfj]
                  rfl
                have nd := nf.sublist (List.take_sublist (j + 1) fs)
                rw [this, List.nodup_append] at nd
                exact nd.2.2 f hmem f (by simp) rfl
              have htk : fs.take (j + 1) = fs.take j ++ [f] := by
                rw [List.take_add_one, hfj]
                rfl
              have hnb : nmB (bs ++ [x.it :: t]) = nmB bs ++ (f :: nmL t) := by
                rw [nmB_app]
                simp [nmB, nmL, Nm.it, nmI, hx]
              have hcb : ckB (bs ++ [x.it :: t]) = ckB bs + ckL t := by
                rw [ckB_app]
                simp [ckB, ckL, Nm.it, ckI]
              refine ⟨ds' ++ [.lst es], bs ++ [x.it :: t], s3, us2 ++ us3, _, rfl, rfl, IsBapp j1 (IsBone e1), belows_app j2 (belows_one (by exact e2)), by simp [j3], ?_, ?_, ?_, ?_, ?_, ?_, hst2.sok j10⟩
              · intro b hbm
                cases bs with
                | nil => simp at j3
                | cons b0 br =>
                  rw [List.cons_append, List.tail_cons] at hbm
                  rcases List.mem_append.mp hbm with h | h
                  · exact j4 b h
                  · rw [List.mem_singleton] at h
                    exact ⟨x, t, h⟩
              · rw [GoodB_all] at j5 ⊢
                intro b hbm
                rcases List.mem_append.mp hbm with h | h
                · exact j5 b h
                · rw [List.mem_singleton] at h
                  subst h
                  exact ⟨e4, e3⟩
              · rw [j7, hus3, List.append_assoc]
              · rw [hnb, List.nodup_append]
                refine ⟨j6', ?_, ?_⟩
                · rw [List.nodup_cons]
                  refine ⟨fun h => ?_, hnd3⟩
                  exact nfr f hfm f (List.mem_append_right _ (List.mem_append_left _ (hsub3 f h))) rfl
                · intro a ha c hc e
                  subst e
                  rcases List.mem_cons.mp hc with h | h
                  · subst h
                    rcases j8 a ha with h | h
                    · exact hfnt h
                    · exact nfr a hfm a (List.mem_append_left _ h) rfl
                  · have h3 := hsub3 a h
                    rcases j8 a ha with h | h
                    · exact nfr a (List.mem_of_mem_take h) a (List.mem_append_right _ (List.mem_append_left _ h3)) rfl
                    · exact nur a h a (List.mem_append_left _ h3) rfl
              · intro n hn
                rw [hnb] at hn
                rw [htk]
                rcases List.mem_append.mp hn with h | h
                · rcases j8 n h with h | h
                  · exact .inl (List.mem_append_left _ h)
                  · exact .inr (List.mem_append_left _ h)
                · rcases List.mem_cons.mp h with h | h
                  · exact .inl (List.mem_append_right _ (by simp [h]))
                  · exact .inr (List.mem_append_right _ (hsub3 n h))
              · rw [hcb, hst2.ck, j9, Nat.add_assoc]
          · rintro env S ⟨ds', bs, s2, us2, a5, rfl, rfl, j1, j2, j3, j4, j5, j7, j6', j8, j9, j10⟩
            have hl1 : (fs.map Dv.str).length = m := by simp [hfsl]
            rw [hl1] at j3 j8
            have htk : fs.take m = fs := by rw [← hfsl, List.take_length]
            rw [htk] at j8
            simp [hz]
            refine ⟨_, _, ⟨rfl, rfl⟩, ?_⟩
            rw [ds_tup hX j2]
            refine ⟨_, .eit n1 bs, s2, rfl, ?_, ?_, by intro n; nofun, ?_, ?_, ?_⟩
            · rw [TpI]
              exact ⟨.lst ds', ds', rfl, rfl, j1⟩
            · show (true && (true && (belows 0 ds' && true))) = true
              rw [j2]
              rfl
            · rw [GoodI]
              exact ⟨by omega, ⟨by omega, by omega⟩, j4, j5⟩
            · refine ⟨⟨n1 :: (fs ++ us2), ?_, ?_, ?_⟩, ?_, j10.ck⟩
              · show n1 :: r = n1 :: (fs ++ us2) ++ s2.nm
                rw [hsplit, j7]
                simp
              · rw [nmI, List.nodup_cons]
                refine ⟨fun h => ?_, j6'⟩
                have hn1 := (List.nodup_cons.mp hs.nd).1
                refine hn1 ?_
                show n1 ∈ r
                rw [hsplit, j7]
                rcases j8 n1 h with h | h
                · exact List.mem_append_left _ h
                · exact List.mem_append_right _ (List.mem_append_left _ h)
              · intro n hn
                rw [nmI] at hn
                rcases List.mem_cons.mp hn with h | h
                · simp [h]
                · rcases j8 n h with h | h
                  · exact List.mem_cons_of_mem _ (List.mem_append_left _ h)
                  · exact List.mem_cons_of_mem _ (List.mem_append_right _ h)
              · rw [j9, ckI]
            · intro x e
              cases e
        · exact absurd rfl hx
    have fin : ∀ (rest : SF) o, (∃ d S', o = So.rt d S' ∧ ∃ e, leaveD true (X.length + 3) d S' = e ∧ ItemR N dp ⟨n1 :: r, ck, c⟩ X A e) → sk rest (dk true (dS N ⟨n1 :: r, ck, c⟩ X) (ItemR N dp ⟨n1 :: r, ck, c⟩ X A)) o := by
      rintro rest o ⟨d, S', rfl, e, he, hi⟩
      show ItemR N dp _ X A (leaveD true (X.length + 3) d S')
      rw [he]
      exact hi
    rcases hkind with rfl | ⟨rfl, rfl⟩
    · simp [-ws_seq]
      exact suite.imp (fin _)
    · simp [hlen, -ws_seq]
      exact suite.imp (fin _)
end L05

namespace L05
open PySem PySem.Spec PyProof.Rows L2 ML

def SwJ (N : List Int) (dp : Nat) (X : Sto) (A : List Nm) (s0 : DSt) (vl : Nat → Int) (j : Nat) (acc : List Dv) (S : Sto) : Prop := ∃ (z : List (Int × Dv)) (bs : List (List It)) (s' : DSt), acc = z.map (fun p => .tup [.int p.1, p.2]) ∧ S = dS N s' X ∧ z.map (·.1) = (List.range j).map vl ∧ TpB (z.map (·.2)) bs ∧ belows 0 (z.map (·.2)) = true ∧ GoodB A (dp + 1) bs ∧ Step s0 s' (nmB bs) (ckB bs)
theorem belows_cases : ∀ {z : List (Int × Dv)}, belows 0 (z.map (·.2)) = true → belows 0 (z.map fun p => Dv.tup [.int p.1, p.2]) = true
  | [], _ => rfl
  | p :: r, h => by
    rw [List.map_cons] at h ⊢
    unfold belows at h ⊢
    rw [Bool.and_eq_true] at h ⊢
    refine ⟨?_, belows_cases h.2⟩
    show (true && (below 0 p.2 && true)) = true
    rw [h.1]
    rfl
theorem CasesR_of : ∀ {z : List (Int × Dv)}, CasesR (z.map fun p => Dv.tup [.int p.1, p.2]) (z.map (·.1)) (z.map (·.2))
  | [] => trivial
  | p :: r => ⟨rfl, CasesR_of⟩
theorem wm_nested_swi {N : List Int} {dp : Nat} (hN : N.length = 160) (hd : dp ≤ 2) (hb : BlockOk N (dp + 1)) : ∀ (k : Nat) (s : DSt) (X : Sto) (A : List Nm) (dv : Dv), 4 * (3 - dp) + 2 ≤ k → Pure X → SOk s → 4 < s.nm.length → Ah N X A dv → A.length ≤ 20 * dp + 12 → A ≠ [] →
    Wm (run k fn__law_nested [.ref 2, dv, .int dp, .int 7]) (dS N s X) (ItemR N dp s X A) := by
  intro k s X A dv hk hX hs hl hA hAl hne
  have hz := szl
  obtain ⟨k, rfl⟩ : ∃ j, k = j + 1 + 1 := ⟨k - 2, by omega⟩
  rw [rn__law_nested, wm_def, m__law_nested]
  obtain ⟨nm, ck, c⟩ := s
  match nm, hl with
  | n1 :: r, hl =>
    have hcast : ((dp : Int) + 1) = ((dp + 1 : Nat) : Int) := by omega
    have hsr : SOk ⟨r, ck, c⟩ := ⟨(List.nodup_cons.mp hs.nd).2, hs.ck, fun n hn => hs.ok n (List.mem_cons_of_mem _ hn)⟩
    have hlen := seq_len (hA.seq ⟨r, ck, c⟩)
    have hAp : 0 < A.length := List.length_pos_iff.mpr hne
    have hne0 : ¬ ((A.length : Int) = 0) := by omega
    rw [ws_seq]
    simp [-List.map_cons, -ws_seq]
    rw [ws_seq]
    simp [-ws_seq]
    rw [ws_seq]
    simp [hlen, hne, -ws_seq]
    rw [ws_seq]
    have bf := nx_in N c (m := 1000) (by decide)
    have b4 := nx_in N (c + 1) (m := 4) (by decide)
    have b8 := nx_in N (c + 1 + 1) (m := 8) (by decide)
    obtain ⟨m, hm, hm1, hm3⟩ : ∃ m : Nat, 1 + nx N (c + 1 + 1) 8 = m ∧ 1 ≤ m ∧ m ≤ 8 := ⟨(1 + nx N (c + 1 + 1) 8).toNat, by omega, by omega, by omega⟩
    obtain ⟨first, hfirst⟩ : ∃ first, nx N c 1000 = first := ⟨_, rfl⟩
    obtain ⟨step, hstep⟩ : ∃ step, 1 + 2 * nx N (c + 1) 4 = step := ⟨_, rfl⟩
    have hst4 : step = 1 ∨ step = 3 ∨ step = 5 ∨ step = 7 := by omega
    simp [wm_next hN, hfirst, -ws_seq]
    rw [ws_seq]
    simp [wm_next hN, hstep, -ws_seq]
    rw [ws_seq, ws_set]
    have hs1 : SOk ⟨r, ck, c + 1 + 1 + 1⟩ := hsr.c _
    refine lcF_inv (S1 := dS N ⟨r, ck, c + 1 + 1 + 1⟩ X) (src := fun _ => some ((List.range m).map fun i : Nat => .int (i : Int))) (l0 := (List.range m).map fun i : Nat => .int (i : Int)) (SwJ N dp X A ⟨r, ck, c + 1 + 1 + 1⟩ (fun j => first + 8064 * (((j : Int) * step).fmod 8))) ?_ ⟨[], [], _, rfl, rfl, rfl, by simp [TpB], rfl, by rw [GoodB]; trivial, Step.idle hs.ck⟩ (fun _ _ _ _ => rfl) ?_ ?_
    · simp [wm_next hN, hm]
      omega
    · rintro j d acc S hd' ⟨z, bs, s', rfl, rfl, z1, z2, z3, z4, z5⟩
      obtain ⟨hj, rfl⟩ := range_at (f := fun i : Nat => .int (i : Int)) hd'
      have hzl : z.length = j := by
        have := congrArg List.length z1
        simpa using this
      have hm8 := md ((j : Int) * step) 8 (by decide)
      simp
      refine ⟨by omega, ?_⟩
      rw [hcast]
      refine (hb (k + 1) s' X A dv _ (by omega) hX (z5.sok hs1) hA (by omega) okS_nil).imp ?_
      rintro q ⟨ds, b, s2, rfl, i1, i2, i3, i4, i5⟩
      rcases i5 with ⟨_, hst⟩ | ⟨hx, -⟩
      · simp [hz, hzl, show j < 16777216 by omega]
        refine ⟨z ++ [(first + 8064 * (((j : Int) * step).fmod 8), .lst ds)], bs ++ [b], s2, by simp, rfl, ?_, ?_, ?_, ?_, ?_⟩
        · rw [List.map_append, z1, List.range_succ, List.map_append]
          rfl
        · rw [List.map_append]
          exact IsBapp z2 (IsBone i1)
        · rw [List.map_append]
          exact belows_app z3 (belows_one (by exact i2))
        · rw [GoodB_all] at z4 ⊢
          intro b' hb'
          rcases List.mem_append.mp hb' with h | h
          · exact z4 b' h
          · rw [List.mem_singleton] at h
            subst h
            exact ⟨i4, i3⟩
        · rw [nmB_app, ckB_app]
          have e1 : nmB [b] = nmL b := by simp [nmB]
          have e2 : ckB [b] = ckL b := by simp [ckB]
          rw [e1, e2]
          exact z5.trans hst hsr.nd
      · exact absurd rfl hx
    · rintro acc S ⟨z, bs, s', rfl, rfl, z1, z2, z3, z4, z5⟩
      have hl0 : ((List.range m).map fun i : Nat => Dv.int (i : Int)).length = m := by simp
      rw [hl0] at z1
      have hlen' := seq_len (hA.seq s')
      have bA := nx_in N s'.c (m := (A.length : Int)) (by omega)
      obtain ⟨x, hxm, hxe⟩ := hA.ix ⟨s'.nm, s'.ck, s'.c + 1⟩ bA.1 bA.2
      have x1 : L2.atI [Dv.str (Str.ofString "number"), .str x.n, .int x.sz, .str x.o, .int x.lo, .int x.hi] 1 = some (.str x.n) := ML.atI_nat (n := 1)
      simp [hlen', wm_next hN, hne, hxe, Nm.dv, x1, hz]
      have hzl : z.length = m := by
        have := congrArg List.length z1
        simpa using this
      refine ⟨_, .swi n1 x.n (z.map (·.1)) bs, _, rfl, ?_, ?_, by intro n; nofun, ?_, ?_, ?_⟩
      · rw [TpI]
        exact ⟨.lst _, _, _, rfl, rfl, CasesR_of, z2⟩
      · show (true && (true && (true && (belows 0 _ && true)))) = true
        rw [belows_cases z3]
        rfl
      · rw [GoodI]
        have hbl := IsB_length z2.is
        refine ⟨by omega, ⟨x, hxm, rfl⟩, ⟨by simp; omega, by simp; omega⟩, ?_, ?_, by simp at hbl ⊢; exact hbl, z4⟩
        · intro w hw
          rw [z1] at hw
          obtain ⟨j, hj, rfl⟩ := List.mem_map.mp hw
          have hm8 := md ((j : Int) * step) 8 (by decide)
          omega
        · rw [z1, List.nodup_iff_pairwise_ne, List.pairwise_map]
          refine List.Pairwise.imp_of_mem ?_ List.nodup_range
          intro a b ha hb' hab e
          have ha8 := List.mem_range.mp ha
          have hb8 := List.mem_range.mp hb'
          apply hab
          have e8 : ((a : Int) * step).fmod 8 = ((b : Int) * step).fmod 8 := by omega
          rw [Int.fmod_eq_emod_of_nonneg _ (by decide), Int.fmod_eq_emod_of_nonneg _ (by decide)] at e8
          rcases hst4 with h | h | h | h <;> rw [h] at e8 <;> omega
      · have st1 : Step ⟨n1 :: r, ck, c⟩ ⟨r, ck, c + 1 + 1 + 1⟩ [n1] 0 := Step.one hs.ck
        have := st1.trans z5 hs.nd
        have h2 : Step s' ⟨s'.nm, s'.ck, s'.c + 1⟩ [] 0 := Step.idle z5.le
        have := this.sameR h2 hs.nd
        rw [nmI, ckI]
        simpa using this
      · intro x e
        cases e
theorem wm_nested_d {N : List Int} {dp : Nat} (hN : N.length = 160) (hd : dp ≤ 2) (hb : BlockOk N (dp + 1)) : NestedOk N dp := by
  intro k s X A dv kind hk hX hs hl hA hAl hkind
  rcases hkind with rfl | rfl | rfl
  · exact wm_nested_rep hN hd hb k s X A dv hk hX hs hl hA hAl
  · exact wm_nested_eit hN hd hb k s X A dv 6 hk hX hs hl hA hAl (.inl rfl)
  · by_cases hA0 : A = []
    · exact wm_nested_eit hN hd hb k s X A dv 7 hk hX hs hl hA hAl (.inr ⟨rfl, hA0⟩)
    · exact wm_nested_swi hN hd hb k s X A dv hk hX hs hl hA hAl hA0
end L05

namespace L05
open PySem PySem.Spec PyProof.Rows L2 ML

theorem wm_item_d {N : List Int} {dp : Nat} (hN : N.length = 160) (hd : dp ≤ 3) (hn : dp ≤ 2 → NestedOk N dp) : ItemOk N dp := by
  intro k s X A dv hk hX hs hne hA hAl
  have hz := szl
  obtain ⟨k, rfl⟩ : ∃ j, k = j + 1 + 1 + 1 := ⟨k - 3, by omega⟩
  rw [rn__law_item, wm_def, m__law_item]
  obtain ⟨nm, ck, c⟩ := s
  match nm, hne with
  | n1 :: r, _ =>
    have hsr : SOk ⟨r, ck, c + 1⟩ := ⟨(List.nodup_cons.mp hs.nd).2, hs.ck, fun n hn => hs.ok n (List.mem_cons_of_mem _ hn)⟩
    have hck : ck ≤ 1 := hs.ck
    have ok1 := (hs.ok n1 (by simp)).1
    have b10 := nx_in N c (m := 10) (by decide)
    have hrepl : ∀ S : Sto, S[1]? = some (.lst (List.replicate ck (.int 1))) → lenD S [.ref 1] = some (.int ck) := fun S h => by
      rw [op_lenRef, list_ref, h]
      simp
    have hst : ∀ c', Step ⟨n1 :: r, ck, c⟩ ⟨r, ck, c'⟩ [n1] 0 := fun c' => Step.one hs.ck
    -- a number is drawn
    have hnumber : Wm (run (k + 1 + 1) fn__law_number [.ref 2, .str n1]) (dS N ⟨r, ck, c + 1⟩ X) fun q => ∃ d S', q = .ok d S' ∧ ItemR N dp ⟨n1 :: r, ck, c⟩ X A (leaveD true (X.length + 3) d S') := by
      refine (wm_number (k := k + 1 + 1) (s := ⟨r, ck, c + 1⟩) hN (by omega)).imp ?_
      rintro q ⟨x, c', x1, x2, rfl⟩
      refine ⟨_, _, rfl, ?_⟩
      rw [ds_self]
      refine ⟨x.dv, x.it, _, rfl, x.isI [], x.below0, by intro n; nofun, ?_, ?_, ?_⟩
      · unfold Nm.it
        rw [GoodI]
        exact x2
      · have e1 : nmI x.it = [n1] := by rw [← x1]; rfl
        have e2 : ckI x.it = 0 := rfl
        rw [e1, e2]
        exact hst c'
      · rintro ⟨a, b', c2, d, e⟩ h
        obtain ⟨a', b2, c3, d', e'⟩ := x
        simp only [Nm.it, It.number.injEq] at h
        obtain ⟨rfl, rfl, rfl, rfl, rfl⟩ := h
        rfl
    obtain ⟨kind, hkd⟩ : ∃ kind, nx N c 10 = kind := ⟨_, rfl⟩
    rw [hkd] at b10
    rw [ws_seq]
    simp [wm_next hN, hkd, -ws_seq, -List.map_cons]
    rw [ws_seq]
    by_cases k3 : kind < 3
    · simp [k3, -ws_seq, -List.map_cons]
      refine hnumber.imp ?_
      rintro q ⟨d, S', rfl, h⟩
      simpa using h
    by_cases k8 : kind = 8 ∧ 0 < ck
    · obtain ⟨k8, kck⟩ := k8
      subst k8
      simp [hrepl, kck, -ws_seq, -List.map_cons]
      refine hnumber.imp ?_
      rintro q ⟨d, S', rfl, h⟩
      simpa using h
    have leaf : ∀ (i : It) (c' : Nat), nmI i = [n1] → ckI i = 0 → Step ⟨n1 :: r, ck, c⟩ ⟨r, ck, c'⟩ (nmI i) (ckI i) := fun i c' h1 h2 => by
      rw [h1, h2]
      exact hst c'
    have b3a := nx_in N (c + 1) (m := 3) (by decide)
    have b9 := nx_in N (c + 1 + 1) (m := 9) (by decide)
    have b3b := nx_in N (c + 1 + 1) (m := 3) (by decide)
    have b3c := nx_in N (c + 1 + 1 + 1) (m := 3) (by decide)
    have b16 := nx_in N (c + 1) (m := 16) (by decide)
    have b5 := nx_in N (c + 1) (m := 5) (by decide)
    have b256 := nx_in N (c + 1 + 1) (m := 256) (by decide)
    by_cases e3 : kind = 3
    · subst e3
      simp [-ws_seq, -List.map_cons]
      rw [ws_seq]
      simp [-ws_seq, -List.map_cons]
      refine (wm_use (k := k + 1 + 1) (s := ⟨r, ck, c + 1⟩) (most := 64) hN (by omega) (by decide) hA (by omega)).imp ?_
      rintro q ⟨u, c1, hu, rfl⟩
      simp [hz]
      refine ⟨_, .bytes n1 u, _, rfl, by simp only [TpI, frI], ?_, by intro n; nofun, by rw [GoodI]; exact hu, leaf _ c1 rfl rfl, by intro x h; cases h⟩
      show (true && (true && (below 0 u.dv && true))) = true
      rw [u.below0]
      rfl
    by_cases e4 : kind = 4
    · subst e4
      obtain ⟨e, he, hem⟩ := atI_int (l := [0, 255, 10]) b3a.1 b3a.2
      obtain ⟨m, hm, hmm⟩ := atI_int (l := [0, 64, nx N (c + 1 + 1) 9]) b3c.1 b3c.2
      simp only [List.map_cons, List.map_nil] at hem hmm
      simp [-ws_seq, -List.map_cons]
      rw [ws_seq]
      simp [-ws_seq, -List.map_cons]
      rw [ws_seq]
      simp [-ws_seq, -List.map_cons, wm_next hN, hz, hem, hmm]
      refine ⟨_, .text n1 e m, _, rfl, by simp only [TpI, frI], rfl, by intro n; nofun, ?_, leaf _ _ rfl rfl, by intro x h; cases h⟩
      rw [GoodI]
      simp only [List.mem_cons, List.not_mem_nil, or_false] at he hm
      refine ⟨?_, ?_⟩
      · rcases he with rfl | rfl | rfl <;> omega
      · rcases hm with rfl | rfl | rfl <;> omega
    by_cases e8 : kind = 8
    · subst e8
      have hck0 : ck = 0 := by
        rcases Nat.eq_zero_or_pos ck with h | h
        · exact h
        · exact absurd ⟨rfl, h⟩ k8
      subst hck0
      obtain ⟨m, hm, hmm⟩ := atI_int (l := [1, 16, 1 + nx N (c + 1) 16]) b3b.1 b3b.2
      simp only [List.map_cons, List.map_nil] at hmm
      have hset : ∀ l : List Str, (dS N ⟨l, 0, c + 1⟩ X).set 1 (.lst [.int 1]) = dS N ⟨l, 1, c + 1⟩ X := fun _ => rfl
      have happ : ∀ (e : Env') (P : Rs Dv → Prop), e[0]? = some (some (.ref 2)) → (Wm (eMt "list" (eOp ixD (getv 0) (eC (.int 3))) (aCons (eC (.int 1)) aNil) appendM e) (dS N ⟨n1 :: r, 0, c + 1⟩ X) P ↔ P (.ok .non (dS N ⟨n1 :: r, 1, c + 1⟩ X))) := fun e P he => by
        simp [he, hset, hz]
      simp [hrepl, -ws_seq, -List.map_cons]
      rw [ws_seq]
      simp [-ws_seq, -List.map_cons]
      rw [ws_seq]
      simp [-ws_seq, -List.map_cons]
      rw [ws_seq]
      simp [-ws_seq, -List.map_cons]
      rw [ws_seq, ws_exp, happ _ _ rfl]
      simp [-List.map_cons, wm_next hN, hz, hmm]
      refine ⟨_, .check n1 m, _, rfl, by simp only [TpI, frI], rfl, by intro n; nofun, ?_, ?_, by intro x h; cases h⟩
      · rw [GoodI]
        simp only [List.mem_cons, List.not_mem_nil, or_false] at hm
        rcases hm with rfl | rfl | rfl <;> omega
      · exact ⟨⟨[n1], rfl, by simp [nmI], by simp [nmI]⟩, rfl, Nat.le_refl _⟩
    by_cases e9 : kind = 9
    · subst e9
      obtain ⟨m, hm, hmm⟩ := atI_int (l := [1, 2, 4, 8, 16]) b5.1 b5.2
      obtain ⟨f, hf, hfm⟩ := atI_int (l := [0, 255, nx N (c + 1 + 1) 256]) b3c.1 b3c.2
      simp only [List.map_cons, List.map_nil] at hmm hfm
      simp [-ws_seq, -List.map_cons]
      rw [ws_seq]
      simp [-ws_seq, -List.map_cons]
      rw [ws_seq]
      simp [-ws_seq, -List.map_cons]
      rw [ws_seq]
      simp [-ws_seq, -List.map_cons]
      rw [ws_seq]
      simp [-ws_seq, -List.map_cons, wm_next hN, hz, hmm, hfm]
      refine ⟨_, .pad n1 m f, _, rfl, by simp only [TpI, frI], rfl, by intro n; nofun, ?_, leaf _ _ rfl rfl, by intro x h; cases h⟩
      rw [GoodI]
      simp only [List.mem_cons, List.not_mem_nil, or_false] at hm hf
      refine ⟨hm, ?_⟩
      rcases hf with rfl | rfl | rfl <;> omega
    · have k567 : kind = 5 ∨ kind = 6 ∨ kind = 7 := by omega
      have k8' : ¬ (kind = 8 ∧ 0 < ck) := fun h => e8 h.1
      simp [k3, e3, e4, e8, e9, -ws_seq, -List.map_cons]
      rw [ws_seq]
      simp [k3, e3, e4, e8, e9, -ws_seq, -List.map_cons]
      rw [ws_seq]
      simp [k3, e3, e4, e8, e9, -ws_seq, -List.map_cons]
      rw [ws_seq]
      simp [k3, e3, e4, e8, e9, -ws_seq, -List.map_cons]
      rw [ws_seq]
      simp [k3, e3, e4, e8, e9, -ws_seq, -List.map_cons]
      rw [ws_seq]
      have hl0 : ∀ S : Sto, S[0]? = some (.lst ((n1 :: r).map .str)) → lenD S [.ref 0] = some (.int ((r.length : Int) + 1)) := fun S h => by
        rw [op_lenRef, list_ref, h]
        simp
      by_cases d3 : dp = 3
      · subst d3
        simp [-ws_seq, -List.map_cons]
        refine hnumber.imp ?_
        rintro q ⟨d, S', rfl, h⟩
        simpa using h
      · have d3' : ¬ ((dp : Int) = 3) := by omega
        by_cases l14 : r.length + 1 < 14
        · simp [d3', hl0, show (r.length : Int) + 1 < 14 by omega, -ws_seq, -List.map_cons]
          refine hnumber.imp ?_
          rintro q ⟨d, S', rfl, h⟩
          simpa using h
        · simp [d3', hl0, show ¬ ((r.length : Int) + 1 < 14) by omega, -ws_seq, -List.map_cons]
          have hs2 : SOk ⟨n1 :: r, ck, c + 1⟩ := hs.c _
          refine (hn (by omega) (k + 1 + 1) ⟨n1 :: r, ck, c + 1⟩ X A dv kind (by omega) hX hs2 (by simp; omega) hA hAl k567).imp ?_
          rintro q ⟨d, i, s', rfl, i1, i2, i3, i4, i5, i6⟩
          simp
          refine ⟨d, i, s', rfl, i1, i2, i3, i4, ?_, i6⟩
          exact Step.sameL (Step.idle (s := ⟨n1 :: r, ck, c⟩) hck) i5 hs.nd
/-- all of a shape's items -/
theorem draw_items {N : List Int} (hN : N.length = 160) : ∀ (t dp : Nat), dp + t = 3 → ItemsOk N dp
  | 0, dp, h => wm_items_d hN (by omega) (wm_item_d hN (by omega) fun h => by omega)
  | t + 1, dp, h => wm_items_d hN (by omega) (wm_item_d hN (by omega) fun hd => wm_nested_d hN hd (wm_block_d hN (by omega) (draw_items hN t (dp + 1) (by omega))))
end L05

namespace L05
open PySem PySem.Spec PyProof.Rows L2 ML

theorem lcC_map {α : Type} {fi : Env' → M Sr} {vs : List Nat} {gf : Dv → Env' → M Env'} {ft : Env' → M Bool} {fe : Env' → M Dv} {env : Env'} {S : Sto} {P : Rs Dv → Prop} {src : Sr} (l : List α) (g : α → Dv) (f : α → Option Dv)
    (hi : Wm (fi env) S fun r => r = .ok src S) (hs : src S = some (l.map g)) (hl : l.length ≤ sizeLine) (he : ∀ x ∈ l, Wm (elM vs gf ft fe env (g x)) S fun r => r = .ok (f x) S) : Wm (lcC fi vs gf ft fe env) S P ↔ P (.ok (.ref S.length) (S ++ [.lst (l.filterMap f)])) := by
  refine wm_eq ?_
  unfold lcC
  show M.bind _ _ S = _
  unfold M.bind
  rw [wm_run hi]
  dsimp only
  unfold compM
  rw [hs]
  dsimp only
  rw [compL_map hs l [] (fun d hd => wm_run (he d hd)) (by simpa using hl), List.nil_append]
  rfl
/-! ### the names of a drawn shape -/
def NMi (i : Int) : Nat := NM.cps.toList.getD i.toNat 97
theorem NM_len : NM.cps.toList.length = 36 := by decide +kernel
theorem NM_nodup : NM.cps.toList.Nodup := by decide +kernel
theorem NMi_mem {i : Int} (h0 : 0 ≤ i) (h1 : i < 36) : L2.atI NM.cps.toList i = some (NMi i) ∧ NMi i ∈ NM.cps.toList := by
  have hl : i.toNat < NM.cps.toList.length := by rw [NM_len]; omega
  have e : NM.cps.toList[i.toNat]? = some (NM.cps.toList[i.toNat]) := List.getElem?_eq_getElem hl
  rw [atI_nn h0]
  unfold NMi
  rw [List.getD_eq_getElem?_getD, e]
  exact ⟨rfl, List.getElem_mem hl⟩
theorem NMi_letter {i : Int} (h0 : 0 ≤ i) (h1 : i < 26) : NMi i ∈ LT.cps.toList := by
  have : ∀ n : Nat, n < 26 → NM.cps.toList.getD n 97 ∈ LT.cps.toList := by decide +kernel
  exact this i.toNat (by omega)
theorem NMi_inj {i j : Int} (h0 : 0 ≤ i) (h1 : i < 36) (g0 : 0 ≤ j) (g1 : j < 36) (e : NMi i = NMi j) : i = j := by
  have key : ∀ a : Nat, a < 36 → ∀ b : Nat, b < 36 → NM.cps.toList.getD a 97 = NM.cps.toList.getD b 97 → a = b := by decide +kernel
  have := key i.toNat (by omega) j.toNat (by omega) e
  omega
structure Pre (n : Nat) (p : Str) : Prop where
  le : p.length = n
  hd : ∃ c r, cd p = c :: r ∧ c ∈ LT.cps.toList
  al : ∀ c ∈ cd p, c ∈ NM.cps.toList
theorem cd_sign (c : Nat) : cd (⟨#[c]⟩ : Str) = [c] := rfl
theorem Pre.add {n : Nat} {p : Str} {c : Nat} (h : Pre n p) (hc : c ∈ NM.cps.toList) : Pre (n + 1) (p ++ ⟨#[c]⟩) := by
  obtain ⟨h1, ⟨a, r, h2, h3⟩, h4⟩ := h
  refine ⟨?_, ⟨a, r ++ [c], by rw [cd_append, h2, cd_sign]; rfl, h3⟩, fun x hx => ?_⟩
  · rw [cds_len] at h1 ⊢
    rw [cd_append, cd_sign, List.length_append]
    simp [h1]
  · rw [cd_append, cd_sign] at hx
    rcases List.mem_append.mp hx with hx | hx
    · exact h4 x hx
    · rw [List.mem_singleton] at hx
      exact hx ▸ hc
/-- a name of the shape: the k-th -/
def nmK (p : Str) (place : Nat) (shift : Int) (k : Nat) : Str := cutS p none (some (place : Int)) ++ ⟨#[NMi ((shift + k).fmod 36)]⟩ ++ cutS p (some (place : Int)) none
theorem nmK_cd (p : Str) (place : Nat) (shift : Int) (k : Nat) : cd (nmK p place shift k) = (cd p).take place ++ NMi ((shift + k).fmod 36) :: (cd p).drop place := by
  unfold nmK
  rw [cd_append, cd_append, cd_cut, cd_cut, cutG_head, cutG_tail, cd_sign]
  simp
theorem NM_small : ∀ c ∈ NM.cps.toList, c < 0x110000 := by decide +kernel
theorem nmK_ok {n : Nat} {p : Str} (h : Pre n p) (hn : n ≤ 11) {place : Nat} (hp : 1 ≤ place) (shift : Int) (k : Nat) : okS (nmK p place shift k) ∧ nmK p place shift k ≠ Str.ofString "" ∧ nameB (nmK p place shift k).cps.toList = true := by
  have hcd := nmK_cd p place shift k
  obtain ⟨a, r, h2, h3⟩ := h.hd
  have hm := md (shift + k) 36 (by decide)
  have hmem := (NMi_mem hm.1 hm.2).2
  have hall : ∀ c ∈ cd (nmK p place shift k), c ∈ NM.cps.toList := by
    intro c hc
    rw [hcd] at hc
    rcases List.mem_append.mp hc with hc | hc
    · exact h.al c (List.mem_of_mem_take hc)
    · rcases List.mem_cons.mp hc with hc | hc
      · exact hc ▸ hmem
      · exact h.al c (List.mem_of_mem_drop hc)
  have hlen : (cd (nmK p place shift k)).length = n + 1 := by
    have hl := h.le
    rw [cds_len] at hl
    rw [hcd, List.length_append, List.length_cons, List.length_take, List.length_drop]
    omega
  have hhead : ∃ t, cd (nmK p place shift k) = a :: t := by
    rw [hcd, h2]
    obtain ⟨q, rfl⟩ : ∃ q, place = q + 1 := ⟨place - 1, by omega⟩
    exact ⟨_, rfl⟩
  obtain ⟨t, ht⟩ := hhead
  refine ⟨⟨?_, (strOk_iff _).mpr fun c hc => NM_small c (hall c hc)⟩, fun e => ?_, ?_⟩
  · rw [cds_len, hlen]
    omega
  · have := congrArg cd e
    rw [ht] at this
    cases this
  · have e : (nmK p place shift k).cps.toList = cd (nmK p place shift k) := rfl
    rw [e]
    unfold nameB
    rw [hlen]
    rw [ht] at hall ⊢
    simp only [Bool.and_eq_true, decide_eq_true_eq, List.all_eq_true, List.getElem?_cons_zero]
    exact ⟨⟨⟨by omega, by omega⟩, h3⟩, hall⟩
theorem nmK_inj {p : Str} {place : Nat} {shift : Int} {i j : Nat} (hi : i < 30) (hj : j < 30) (e : nmK p place shift i = nmK p place shift j) : i = j := by
  have h := congrArg cd e
  rw [nmK_cd, nmK_cd] at h
  have h2 := List.append_cancel_left h
  have h3 := (List.cons.inj h2).1
  have a := md (shift + i) 36 (by decide)
  have b := md (shift + j) 36 (by decide)
  have h4 := NMi_inj a.1 a.2 b.1 b.2 h3
  rw [Int.fmod_eq_emod_of_nonneg _ (by decide), Int.fmod_eq_emod_of_nonneg _ (by decide)] at h4
  omega
/-- what the drawing begins with -/
structure Beg (ns : List Str) : Prop where
  len : ns.length = 30
  nd : ns.Nodup
  ok : ∀ n ∈ ns, okS n ∧ n ≠ Str.ofString "" ∧ nameB n.cps.toList = true
theorem beg_of {n : Nat} {p : Str} (h : Pre n p) (hn : n ≤ 11) {place : Nat} (hp : 1 ≤ place) (shift : Int) : Beg ((List.range 30).map (nmK p place shift)) := by
  refine ⟨by simp, ?_, fun x hx => ?_⟩
  · rw [List.nodup_iff_pairwise_ne, List.pairwise_map]
    refine List.Pairwise.imp_of_mem ?_ List.nodup_range
    intro a b ha hb hab e
    exact hab (nmK_inj (List.mem_range.mp ha) (List.mem_range.mp hb) e)
  · obtain ⟨k, _, rfl⟩ := List.mem_map.mp hx
    exact nmK_ok h hn hp shift k
theorem wm_begin {k : Nat} {N : List Int} (hN : N.length = 160) (hsm : small N) :
    Wm (run (k + 1) fn__law_begin [.lst (N.map .int)]) [] fun r => ∃ ns, Beg ns ∧ r = .ok (.ref 2) (dS N ⟨ns, 0, 6⟩ []) := by
  have hz := szl
  rw [rn__law_begin, wm_def, m__law_begin]
  obtain ⟨v, hg, hv⟩ : ∃ v : Nat → Int, (∀ i : Nat, i < 160 → N[i]? = some (v i)) ∧ ∀ i : Nat, i < 160 → 0 ≤ v i ∧ v i < 1009 := by
    refine ⟨fun i => N.getD i 0, fun i hi => ?_, fun i hi => ?_⟩
    · dsimp only
      rw [List.getD_eq_getElem?_getD, List.getElem?_eq_getElem (by omega)]
      rfl
    · dsimp only
      rw [List.getD_eq_getElem?_getD, List.getElem?_eq_getElem (by omega)]
      exact hsm _ (List.getElem_mem _)
  have hgi : ∀ i : Nat, i < 160 → L2.atI (N.map Dv.int) (i : Int) = some (.int (v i)) := fun i hi => by
    rw [ML.atI_nat, List.getElem?_map, hg i hi]
    rfl
  have g0 := hgi 0 (by decide)
  have g1 := hgi 1 (by decide)
  have g2 := hgi 2 (by decide)
  have g3 := hgi 3 (by decide)
  have g4 := hgi 4 (by decide)
  have g5 := hgi 5 (by decide)
  simp at g0 g1 g2 g3 g4 g5
  have hNM : (Str.ofString "abcdefghijklmnopqrstuvwxyz0123456789") = NM := rfl
  have nl : NM.length ≤ 16777216 := by rw [cds_len]; show NM.cps.toList.length ≤ _; rw [NM_len]; decide
  have m26 := md (v 0) 26 (by decide)
  have a26 := (NMi_mem (i := (v 0).fmod 26) m26.1 (by omega)).1
  rw [hNM]
  rw [ws_seq]
  simp [-ws_seq]
  rw [ws_seq]
  simp [g0, hg, hz, nl, a26, -ws_seq]
  rw [ws_seq]
  have m11 := md (v 1) 11 (by decide)
  obtain ⟨n, hn⟩ : ∃ n : Nat, (v 1).fmod 11 = n := ⟨((v 1).fmod 11).toNat, by omega⟩
  refine Ws.imp (P := fun o => ∃ (p : Str) (a3 : Option Dv), Pre (n + 1) p ∧ o = .nx [some (.lst (N.map .int)), some (.str NM), some (.str p), a3, none, none, none] []) ?_ ?_
  · simp [ws_for, g1, hg, hn]
    refine ⟨by omega, ?_⟩
    refine for_inv (fun j env S => ∃ (p : Str) (a3 : Option Dv), Pre (j + 1) p ∧ S = [] ∧ env = [some (.lst (N.map .int)), some (.str NM), some (.str p), a3, none, none, none]) ?_ ?_ ?_
    · refine ⟨_, _, ⟨rfl, ⟨_, [], rfl, NMi_letter m26.1 m26.2⟩, fun c hc => ?_⟩, rfl, rfl⟩
      rw [cd_sign, List.mem_singleton] at hc
      exact hc ▸ (NMi_mem m26.1 (by omega)).2
    · rintro j d env S hd ⟨p, a3, hp, rfl, rfl⟩
      obtain ⟨hj, rfl⟩ := range_at (f := fun i : Nat => .int (i : Int)) hd
      have m36 := md (v 2 + (j : Int) * v 3) 36 (by decide)
      have a36 := NMi_mem m36.1 m36.2
      have pl := hp.le
      have one : (⟨#[NMi ((v 2 + (j : Int) * v 3).fmod 36)]⟩ : Str).length = 1 := rfl
      simp [g2, g3, hg, hz, nl, a36.1]
      exact ⟨by omega, by omega, hp.add a36.2⟩
    · rintro env S ⟨p, a3, hp, rfl, rfl⟩
      have e : ((List.range n).map fun i : Nat => Dv.int (i : Int)).length = n := by simp
      rw [e] at hp
      simp
      exact hp
  rintro o ⟨p, a3, hp, rfl⟩
  have pl := hp.le
  have mp := md (v 4) p.length (by omega)
  obtain ⟨place, hplace, hp1⟩ : ∃ place : Nat, 1 + (v 4).fmod (p.length : Int) = place ∧ 1 ≤ place := ⟨(1 + (v 4).fmod (p.length : Int)).toNat, by omega, by omega⟩
  have pne : ¬ p.length = 0 := by omega
  simp only [sk_nx]
  rw [ws_seq]
  simp [g4, hg, hz, pne, hplace, show p.length ≤ 16777216 by omega, -ws_seq]
  rw [ws_seq]
  simp [g5, hg, -ws_seq]
  rw [ws_seq, ws_set]
  rw [lcC_map (List.range 30) (fun i : Nat => .int (0 + (i : Int))) (fun i : Nat => some (.str (nmK p place (v 5) i))) (src := fun _ => some ((List.range 30).map fun i : Nat => .int (0 + (i : Int)))) (by simp) rfl (by rw [hz]; simp) (by
    intro i hi
    have m36 := md (v 5 + (i : Int)) 36 (by decide)
    have a36 := NMi_mem m36.1 m36.2
    have one : (⟨#[NMi ((v 5 + (i : Int)).fmod 36)]⟩ : Str).length = 1 := rfl
    have c1 : (cutS p none (some (place : Int))).length ≤ p.length := by
      rw [cds_len, cds_len, cd_cut, cutG_head, List.length_take]
      omega
    have c2 : (cutS p (some (place : Int)) none).length ≤ p.length := by
      rw [cds_len, cds_len, cd_cut, cutG_tail, List.length_drop]
      omega
    have c3 : (cutS p none (some (place : Int)) ++ (⟨#[NMi ((v 5 + (i : Int)).fmod 36)]⟩ : Str)).length = (cutS p none (some (place : Int))).length + 1 := by
      rw [cds_len, cd_append, List.length_append, ← cds_len, cd_sign]
      rfl
    simp [hz, nl, a36.1, show p.length ≤ 16777216 by omega, one, c3, show (cutS p none (some (place : Int))).length + 1 ≤ 16777216 by omega, show (cutS p none (some (place : Int))).length + 1 + (cutS p (some (place : Int)) none).length ≤ 16777216 by omega]
    rfl)]
  have hb := beg_of hp (by omega) hp1 (v 5)
  simp [hz]
  refine ⟨_, hb, ?_⟩
  have e : (List.range 30).map (fun x => Dv.str (nmK p place (v 5) x)) = ((List.range 30).map (nmK p place (v 5))).map .str := by
    rw [List.map_map]
    rfl
  rw [e]
  rfl
end L05

namespace L05
open PySem PySem.Spec PyProof.Rows L2 ML

/-! ### drawn shapes are shapes -/
mutual
/-- the numbers, in the order of the check -/
def numI : It → Nums
  | .number n _ _ lo hi => [(n, lo, hi)]
  | .rep _ _ b => numL b
  | .eit _ bs => numB bs
  | .swi _ _ _ bs => numB bs
  | _ => []
def numL : List It → Nums
  | [] => []
  | i :: r => numI i ++ numL r
def numB : List (List It) → Nums
  | [] => []
  | b :: r => numL b ++ numB r
end
theorem nodup_len {α : Type} [DecidableEq α] : ∀ {l all : List α}, l.Nodup → (∀ x ∈ l, x ∈ all) → l.length ≤ all.length
  | [], _, _, _ => Nat.zero_le _
  | a :: l, all, nd, h => by
    rw [List.nodup_cons] at nd
    have ha := h a (by simp)
    have := nodup_len (l := l) (all := all.erase a) nd.2 (fun x hx => (List.mem_erase_of_ne (fun e => nd.1 (by subst e; exact hx))).mpr (h x (List.mem_cons_of_mem _ hx)))
    rw [List.length_erase_of_mem ha] at this
    have hp : 0 < all.length := List.length_pos_of_mem ha
    rw [List.length_cons]
    omega
theorem minL_nn : ∀ {l : List Int}, (∀ x ∈ l, 0 ≤ x) → 0 ≤ minL l
  | [], _ => by simp [minL]
  | [a], h => h a (by simp)
  | a :: c :: r, h => by
    have h0 := h a (by simp)
    have h1 := minL_nn (l := c :: r) fun x hx => h x (List.mem_cons_of_mem a hx)
    show 0 ≤ min a (minL (c :: r))
    omega
theorem bnd_nn {nums : Nums} (h : ∀ x ∈ nums, 0 ≤ x.2.1) {A : List Nm} {most : Int} {u : Use} (hu : GoodU A most u) : 0 ≤ (bnd nums u).1 := by
  cases u with
  | num i => exact hu.1
  | nam n =>
    simp only [bnd]
    have aux : ∀ l : Nums, (∀ x ∈ l, 0 ≤ x.2.1) → 0 ≤ ((l.lookup n).getD (0, 0)).1 := by
      intro l
      induction l with
      | nil => intro _; simp
      | cons a r ih =>
        intro hl
        obtain ⟨m, w⟩ := a
        rw [List.lookup_cons]
        split
        · exact hl (m, w) (by simp)
        · exact ih fun x hx => hl x (List.mem_cons_of_mem _ hx)
    exact aux nums h
theorem least_nn {nums : Nums} (h : ∀ x ∈ nums, 0 ≤ x.2.1) (i : It) : ∀ A dp, GoodI A dp i → 0 ≤ leastI nums i := by
  refine It.rec (motive_1 := fun i => ∀ A dp, GoodI A dp i → 0 ≤ leastI nums i) (motive_2 := fun b => ∀ A dp, GoodL A dp b → 0 ≤ leastL nums b) (motive_3 := fun bs => ∀ A dp, GoodB A dp bs → ∀ x ∈ leastB nums bs, 0 ≤ x) ?_ ?_ ?_ ?_ ?_ ?_ ?_ ?_ ?_ ?_ ?_ ?_ ?_ i
  · intro n sz o lo hi A dp g
    rw [GoodI] at g
    rw [leastI]
    have := g.sz
    dsimp only at this
    omega
  · intro n u A dp g
    rw [GoodI] at g
    rw [leastI]
    exact bnd_nn h g
  · intro n e m A dp g; simp [leastI]
  · intro n m A dp g; simp [leastI]
  · intro n e m A dp g; simp [leastI]
  · intro n u b ih A dp g
    rw [GoodI] at g
    rw [leastI]
    exact Int.mul_nonneg (bnd_nn h g.1) (ih _ _ g.2.2.2.2)
  · intro n bs ih A dp g
    rw [GoodI] at g
    rw [leastI]
    exact minL_nn (ih _ _ g.2.2.2)
  · intro n w vs bs ih A dp g
    rw [GoodI] at g
    rw [leastI]
    exact minL_nn (ih _ _ g.2.2.2.2.2.2)
  · intro a b A dp g; rw [GoodI] at g; exact g.elim
  · intro A dp g; rw [leastL]; exact Int.le_refl _
  · intro i r h1 h2 A dp g
    rw [GoodL] at g
    rw [leastL]
    have a := h1 _ _ g.1
    have b := h2 _ _ g.2
    omega
  · intro A dp g x hx; rw [leastB] at hx; cases hx
  · intro b r h1 h2 A dp g x hx
    rw [GoodB] at g
    rw [leastB] at hx
    rcases List.mem_cons.mp hx with rfl | hx
    · exact h1 _ _ g.2.1
    · exact h2 _ _ g.2.2 x hx
theorem least_nnL {nums : Nums} (h : ∀ x ∈ nums, 0 ≤ x.2.1) : ∀ {b : List It} {A : List Nm} {dp : Nat}, GoodL A dp b → 0 ≤ leastL nums b
  | [], _, _, _ => by rw [leastL]; exact Int.le_refl _
  | i :: r, A, dp, g => by
    rw [GoodL] at g
    rw [leastL]
    have a := least_nn h i _ _ g.1
    have b := least_nnL h g.2
    omega
theorem head_pos {nums : Nums} (h : ∀ x ∈ nums, 0 ≤ x.2.1) {b : List It} {A : List Nm} {dp : Nat} (g : GoodL A dp b) (hh : headNum b) : 0 < leastL nums b := by
  obtain ⟨x, r, rfl⟩ := hh
  rw [GoodL] at g
  have hx : GoodI A dp x.it := g.1
  have b := least_nnL h g.2
  unfold Nm.it at hx
  rw [GoodI] at hx
  have := hx.sz
  dsimp only at this
  have e : leastI nums x.it = x.sz := by unfold Nm.it; rw [leastI]
  rw [leastL, e]
  omega
structure HH (all : List Str) (A : List Nm) (s : CSt) (ns : List Str) (ck : Nat) : Prop where
  vis : ∀ x ∈ A, s.nums.lookup x.n = some (x.lo, x.hi)
  keys : ∀ x ∈ s.nums, x.1 ∈ s.names
  nn : ∀ x ∈ s.nums, 0 ≤ x.2.1
  nd : (s.names ++ ns).Nodup
  al : ∀ n ∈ s.names ++ ns, n ∈ all
  nb : ∀ n ∈ ns, nameB n.cps.toList = true
  ck : s.checks + ck ≤ 1
  ck0 : 0 ≤ s.checks
def upC (s : CSt) (ns : List Str) (nu : Nums) (ck : Nat) : CSt := ⟨s.names ++ ns, s.nums ++ nu, s.checks + ck⟩
theorem upC_upC {s : CSt} {n1 n2 : List Str} {u1 u2 : Nums} {c1 c2 : Nat} : upC (upC s n1 u1 c1) n2 u2 c2 = upC s (n1 ++ n2) (u1 ++ u2) (c1 + c2) := by
  simp [upC, Int.add_assoc]
/-- behind the first part, the second -/
theorem HH.next {all : List Str} {A : List Nm} {s : CSt} {n1 n2 : List Str} {c1 c2 : Nat} (h : HH all A s (n1 ++ n2) (c1 + c2)) {u1 : Nums} (hu : ∀ x ∈ u1, x.1 ∈ n1 ∧ 0 ≤ x.2.1) : HH all A (upC s n1 u1 c1) n2 c2 := by
  refine ⟨fun x hx => ?_, fun x hx => ?_, fun x hx => ?_, ?_, ?_, fun n hn => h.nb n (List.mem_append_right _ hn), ?_, ?_⟩
  · show (s.nums ++ u1).lookup x.n = _
    rw [List.lookup_append, h.vis x hx]
    rfl
  · rcases List.mem_append.mp hx with hx | hx
    · exact List.mem_append_left _ (h.keys x hx)
    · exact List.mem_append_right _ (hu x hx).1
  · rcases List.mem_append.mp hx with hx | hx
    · exact h.nn x hx
    · exact (hu x hx).2
  · show (s.names ++ n1 ++ n2).Nodup
    rw [List.append_assoc]
    exact h.nd
  · show ∀ n ∈ s.names ++ n1 ++ n2, n ∈ all
    rw [List.append_assoc]
    exact h.al
  · have := h.ck
    show s.checks + c1 + c2 ≤ 1
    omega
  · have := h.ck0
    show 0 ≤ s.checks + c1
    omega
theorem HH.first {all : List Str} {A : List Nm} {s : CSt} {n1 n2 : List Str} {c1 c2 : Nat} (h : HH all A s (n1 ++ n2) (c1 + c2)) : HH all A s n1 c1 := by
  refine ⟨h.vis, h.keys, h.nn, ?_, fun n hn => h.al n ?_, fun n hn => h.nb n (List.mem_append_left _ hn), ?_, h.ck0⟩
  · have := h.nd
    rw [← List.append_assoc, List.nodup_append] at this
    exact this.1
  · rw [← List.append_assoc]
    exact List.mem_append_left _ hn
  · have := h.ck
    omega
theorem numI_nm (i : It) : ∀ A dp, GoodI A dp i → ∀ x ∈ numI i, x.1 ∈ nmI i ∧ 0 ≤ x.2.1 ∧ x.2.1 ≤ x.2.2 := by
  refine It.rec (motive_1 := fun i => ∀ A dp, GoodI A dp i → ∀ x ∈ numI i, x.1 ∈ nmI i ∧ 0 ≤ x.2.1 ∧ x.2.1 ≤ x.2.2) (motive_2 := fun b => ∀ A dp, GoodL A dp b → ∀ x ∈ numL b, x.1 ∈ nmL b ∧ 0 ≤ x.2.1 ∧ x.2.1 ≤ x.2.2) (motive_3 := fun bs => ∀ A dp, GoodB A dp bs → ∀ x ∈ numB bs, x.1 ∈ nmB bs ∧ 0 ≤ x.2.1 ∧ x.2.1 ≤ x.2.2) ?_ ?_ ?_ ?_ ?_ ?_ ?_ ?_ ?_ ?_ ?_ ?_ ?_ i
  · intro n sz o lo hi A dp g x hx
    rw [GoodI] at g
    simp only [numI, List.mem_singleton] at hx
    subst hx
    exact ⟨by simp [nmI], g.lo, g.lh⟩
  · intro n u A dp g x hx; simp [numI] at hx
  · intro n e m A dp g x hx; simp [numI] at hx
  · intro n m A dp g x hx; simp [numI] at hx
  · intro n e m A dp g x hx; simp [numI] at hx
  · intro n u b ih A dp g x hx
    rw [GoodI] at g
    rw [numI] at hx
    have := ih _ _ g.2.2.2.2 x hx
    rw [nmI]
    exact ⟨List.mem_cons_of_mem _ this.1, this.2⟩
  · intro n bs ih A dp g x hx
    rw [GoodI] at g
    rw [numI] at hx
    have := ih _ _ g.2.2.2 x hx
    rw [nmI]
    exact ⟨List.mem_cons_of_mem _ this.1, this.2⟩
  · intro n w vs bs ih A dp g x hx
    rw [GoodI] at g
    rw [numI] at hx
    have := ih _ _ g.2.2.2.2.2.2 x hx
    rw [nmI]
    exact ⟨List.mem_cons_of_mem _ this.1, this.2⟩
  · intro a b A dp g; rw [GoodI] at g; exact g.elim
  · intro A dp g x hx; simp [numL] at hx
  · intro i r h1 h2 A dp g x hx
    rw [GoodL] at g
    rw [numL] at hx
    rw [nmL]
    rcases List.mem_append.mp hx with hx | hx
    · exact ⟨List.mem_append_left _ (h1 _ _ g.1 x hx).1, (h1 _ _ g.1 x hx).2⟩
    · exact ⟨List.mem_append_right _ (h2 _ _ g.2 x hx).1, (h2 _ _ g.2 x hx).2⟩
  · intro A dp g x hx; simp [numB] at hx
  · intro b r h1 h2 A dp g x hx
    rw [GoodB] at g
    rw [numB] at hx
    rw [nmB]
    rcases List.mem_append.mp hx with hx | hx
    · exact ⟨List.mem_append_left _ (h1 _ _ g.2.1 x hx).1, (h1 _ _ g.2.1 x hx).2⟩
    · exact ⟨List.mem_append_right _ (h2 _ _ g.2.2 x hx).1, (h2 _ _ g.2.2 x hx).2⟩
theorem numL_nm : ∀ {b : List It} {A : List Nm} {dp : Nat}, GoodL A dp b → ∀ x ∈ numL b, x.1 ∈ nmL b ∧ 0 ≤ x.2.1 ∧ x.2.1 ≤ x.2.2
  | [], _, _, _, x, hx => by simp [numL] at hx
  | i :: r, A, dp, g, x, hx => by
    rw [GoodL] at g
    rw [numL] at hx
    rw [nmL]
    rcases List.mem_append.mp hx with hx | hx
    · exact ⟨List.mem_append_left _ (numI_nm i _ _ g.1 x hx).1, (numI_nm i _ _ g.1 x hx).2⟩
    · exact ⟨List.mem_append_right _ (numL_nm g.2 x hx).1, (numL_nm g.2 x hx).2⟩
theorem numB_nm : ∀ {bs : List (List It)} {A : List Nm} {dp : Nat}, GoodB A dp bs → ∀ x ∈ numB bs, x.1 ∈ nmB bs ∧ 0 ≤ x.2.1 ∧ x.2.1 ≤ x.2.2
  | [], _, _, _, x, hx => by simp [numB] at hx
  | i :: r, A, dp, g, x, hx => by
    rw [GoodB] at g
    rw [numB] at hx
    rw [nmB]
    rcases List.mem_append.mp hx with hx | hx
    · exact ⟨List.mem_append_left _ (numL_nm g.2.1 x hx).1, (numL_nm g.2.1 x hx).2⟩
    · exact ⟨List.mem_append_right _ (numB_nm g.2.2 x hx).1, (numB_nm g.2.2 x hx).2⟩
theorem good_step {all : List Str} {i : It} {r : List It} {A : List Nm} {dp : Nat} {s : CSt} {c0 : Nat}
    (ih1 : ∀ A dp s, GoodI A dp i → HH all A s (nmB i.blocks) (ckB i.blocks) → innC (A.map (·.n)) dp s i = some (upC s (nmB i.blocks) (numB i.blocks) (ckB i.blocks)))
    (ih2 : ∀ A dp s, GoodL A dp r → HH all A s (nmL r) (ckL r) → itemsC (A.map (·.n)) dp s r = some (upC s (nmL r) (numL r) (ckL r)))
    (g1 : GoodI A dp i) (g2 : GoodL (A ++ numsOf i) dp r) (h : HH all A s (nmL (i :: r)) (ckL (i :: r))) (hck : ckI i = c0 + ckB i.blocks) (hnm : nmI i = i.nm :: nmB i.blocks) (hu : numI i = numB i.blocks ∨ i.blocks = [])
    (e1 : nameC s i = some (upC s [i.nm] [] 0)) (e2 : plainC (upC s [i.nm] [] 0) i = some (upC s [i.nm] [] c0)) (e3 : usesC (A.map (·.n)) (upC s [i.nm] [] c0) i = some (upC s [i.nm] [] c0))
    (e5 : (∀ x ∈ s.nums ++ numB i.blocks, 0 ≤ x.2.1) → lengthsC (upC s (nmI i) (numB i.blocks) (ckI i)) i = some (upC s (nmI i) (numB i.blocks) (ckI i))) (hbn : ∀ x ∈ numB i.blocks, 0 ≤ x.2.1)
    (e6 : numC (upC s (nmI i) (numB i.blocks) (ckI i)) i = upC s (nmI i) (numI i) (ckI i)) (ev : visC (A.map (·.n)) i = (A ++ numsOf i).map (·.n)) (hin : ∀ x ∈ numI i, x.1 ∈ nmI i ∧ 0 ≤ x.2.1)
    (hpush : ∀ x ∈ numsOf i, (s.nums ++ numI i).lookup x.n = some (x.lo, x.hi)) : itemsC (A.map (·.n)) dp s (i :: r) = some (upC s (nmL (i :: r)) (numL (i :: r)) (ckL (i :: r))) := by
  have hn0 : nmL (i :: r) = [i.nm] ++ (nmB i.blocks ++ nmL r) := by rw [nmL, hnm]; rfl
  have hc0 : ckL (i :: r) = c0 + (ckB i.blocks + ckL r) := by rw [ckL, hck]; omega
  have h3 : HH all A (upC s [i.nm] [] c0) (nmB i.blocks) (ckB i.blocks) := by
    rw [hn0, hc0] at h
    exact (h.next (u1 := []) (by simp)).first
  have h4 := ih1 A dp _ g1 h3
  have e4 : upC (upC s [i.nm] [] c0) (nmB i.blocks) (numB i.blocks) (ckB i.blocks) = upC s (nmI i) (numB i.blocks) (ckI i) := by
    rw [upC_upC, hnm, hck]
    rfl
  rw [e4] at h4
  have hnn : ∀ x ∈ s.nums ++ numB i.blocks, 0 ≤ x.2.1 := fun x hx => by
    rcases List.mem_append.mp hx with hx | hx
    · exact h.nn x hx
    · exact hbn x hx
  have h5 : HH all A (upC s (nmI i) (numI i) (ckI i)) (nmL r) (ckL r) := by
    have h' := h
    rw [nmL, ckL] at h'
    exact h'.next hin
  have h6 : HH all (A ++ numsOf i) (upC s (nmI i) (numI i) (ckI i)) (nmL r) (ckL r) := by
    refine ⟨fun x hx => ?_, h5.keys, h5.nn, h5.nd, h5.al, h5.nb, h5.ck, h5.ck0⟩
    rcases List.mem_append.mp hx with hx | hx
    · exact h5.vis x hx
    · exact hpush x hx
  have h7 := ih2 _ dp _ g2 h6
  rw [itemsC, e1, Option.bind_some, e2, Option.bind_some, e3, Option.bind_some, h4, Option.bind_some, e5 hnn, Option.bind_some, e6, ev, h7, upC_upC]
  rfl
theorem name_ok {all : List Str} (h30 : all.length = 30) {i : It} {r : List It} {A : List Nm} {s : CSt} (h : HH all A s (nmL (i :: r)) (ckL (i :: r))) (ho : ∀ a b, i ≠ .odd a b) (hnm : nmI i = i.nm :: nmB i.blocks) : nameC s i = some (upC s [i.nm] [] 0) := by
  have hn0 : nmL (i :: r) = i.nm :: (nmB i.blocks ++ nmL r) := by rw [nmL, hnm]; rfl
  have nd := h.nd
  have al := h.al
  have nb := h.nb i.nm (by rw [hn0]; simp)
  rw [hn0] at nd al
  have hl := nodup_len nd al
  rw [h30, List.length_append, List.length_cons] at hl
  have h1 : i.nm ∉ s.names := fun hm => by
    rw [List.nodup_append] at nd
    exact nd.2.2 _ hm _ (by simp) rfl
  have e : upC s [i.nm] [] 0 = { s with names := s.names ++ [i.nm] } := by simp [upC]
  rw [e]
  cases i with
  | odd a b => exact absurd rfl (ho a b)
  | _ => simp only [nameC]; exact if_pos ⟨nb, h1, by omega⟩
theorem use_ok {all : List Str} {A : List Nm} {s : CSt} {ns : List Str} {ck : Nat} (h : HH all A s ns ck) {most : Int} {u : Use} (hu : GoodU A most u) (hA : ∀ x ∈ A, 0 ≤ x.lo) {n1 : List Str} {c1 : Nat} : useOk (A.map (·.n)) (upC s n1 [] c1).nums most u := by
  have e : (upC s n1 [] c1).nums = s.nums := by simp [upC]
  rw [e]
  cases u with
  | num x => exact useOk_num.mpr hu
  | nam n =>
    obtain ⟨x, hx, rfl, hm⟩ := hu
    refine useOk_nam.mpr ⟨List.mem_map_of_mem hx, ?_⟩
    have : bnd s.nums (.nam x.n) = (x.lo, x.hi) := by simp [bnd, h.vis x hx]
    rw [this]
    exact ⟨hA x hx, hm⟩
theorem lookup_memN {n : Str} {p : Int × Int} : ∀ {l : Nums}, l.lookup n = some p → (n, p) ∈ l
  | a :: r, q => by
    obtain ⟨m, w⟩ := a
    rw [List.lookup_cons] at q
    split at q
    · rename_i e
      cases q
      have : n = m := by simpa using e
      subst this
      exact List.mem_cons_self
    · exact List.mem_cons_of_mem _ (lookup_memN q)
/-- a list of items that was drawn is taken -/
theorem good_cons {all : List Str} (h30 : all.length = 30) {i : It} {r : List It}
    (ih1 : ∀ A dp s, GoodI A dp i → HH all A s (nmB i.blocks) (ckB i.blocks) → innC (A.map (·.n)) dp s i = some (upC s (nmB i.blocks) (numB i.blocks) (ckB i.blocks)))
    (ih2 : ∀ A dp s, GoodL A dp r → HH all A s (nmL r) (ckL r) → itemsC (A.map (·.n)) dp s r = some (upC s (nmL r) (numL r) (ckL r))) (A : List Nm) (dp : Nat) (s : CSt) (g : GoodL A dp (i :: r)) (h : HH all A s (nmL (i :: r)) (ckL (i :: r))) :
    itemsC (A.map (·.n)) dp s (i :: r) = some (upC s (nmL (i :: r)) (numL (i :: r)) (ckL (i :: r))) := by
  rw [GoodL] at g
  obtain ⟨g1, g2⟩ := g
  have hA : ∀ x ∈ A, 0 ≤ x.lo := fun x hx => h.nn _ (lookup_memN (h.vis x hx))
  have hg := g1
  cases i with
  | odd a b => rw [GoodI] at g1; exact g1.elim
  | number n sz o lo hi =>
    rw [GoodI] at g1
    have hnm : nmI (.number n sz o lo hi) = (It.number n sz o lo hi).nm :: nmB (It.number n sz o lo hi).blocks := by simp [nmI, It.nm, It.blocks, nmB]
    refine good_step (c0 := 0) ih1 ih2 hg g2 h rfl hnm (.inr rfl) (name_ok h30 h (by intro a b e; cases e) hnm) ?_ rfl (fun _ => rfl) (by simp [It.blocks, numB]) ?_ ?_ ?_ ?_
    · simp only [plainC]
      exact if_pos ⟨g1.sz, g1.o, g1.lo, g1.lh, g1.hi⟩
    · simp [numC, upC, It.blocks, numB, numI]
    · simp [visC, numsOf]
    · intro x hx
      simp only [numI, List.mem_singleton] at hx
      subst hx
      exact ⟨by simp [nmI], g1.lo⟩
    · intro x hx
      simp only [numsOf, List.mem_singleton] at hx
      subst hx
      have hf : s.nums.lookup n = none := by
        cases hl : s.nums.lookup n with
        | none => rfl
        | some p =>
          exfalso
          have hk := h.keys _ (lookup_memN hl)
          have nd := h.nd
          rw [nmL, hnm, List.nodup_append] at nd
          exact nd.2.2 n hk n (by simp [It.nm]) rfl
      rw [List.lookup_append, hf]
      simp [numI]
  | bytes n u =>
    rw [GoodI] at g1
    have hnm : nmI (.bytes n u) = (It.bytes n u).nm :: nmB (It.bytes n u).blocks := by simp [nmI, It.nm, It.blocks, nmB]
    refine good_step (c0 := 0) ih1 ih2 hg g2 h rfl hnm (.inr rfl) (name_ok h30 h (by intro a b e; cases e) hnm) rfl ?_ (fun _ => rfl) (by simp [It.blocks, numB]) (by simp [numC, It.blocks, numB, numI]) (by simp [visC, numsOf]) (by simp [numI]) (by simp [numsOf])
    simp only [usesC]
    exact if_pos (use_ok h g1 hA)
  | text n e m =>
    rw [GoodI] at g1
    have hnm : nmI (.text n e m) = (It.text n e m).nm :: nmB (It.text n e m).blocks := by simp [nmI, It.nm, It.blocks, nmB]
    refine good_step (c0 := 0) ih1 ih2 hg g2 h rfl hnm (.inr rfl) (name_ok h30 h (by intro a b e; cases e) hnm) ?_ rfl (fun _ => rfl) (by simp [It.blocks, numB]) (by simp [numC, It.blocks, numB, numI]) (by simp [visC, numsOf]) (by simp [numI]) (by simp [numsOf])
    simp only [plainC]
    exact if_pos g1
  | check n m =>
    rw [GoodI] at g1
    have hnm : nmI (.check n m) = (It.check n m).nm :: nmB (It.check n m).blocks := by simp [nmI, It.nm, It.blocks, nmB]
    refine good_step (c0 := 1) ih1 ih2 hg g2 h rfl hnm (.inr rfl) (name_ok h30 h (by intro a b e; cases e) hnm) ?_ rfl (fun _ => rfl) (by simp [It.blocks, numB]) (by simp [numC, It.blocks, numB, numI]) (by simp [visC, numsOf]) (by simp [numI]) (by simp [numsOf])
    have hc := h.ck
    have hc0 := h.ck0
    have e : ckL (.check n m :: r) = 1 + ckL r := by rw [ckL, ckI]
    rw [e] at hc
    have hs0 : s.checks = 0 := by omega
    simp only [plainC]
    rw [if_pos]
    · simp [upC]
    · exact ⟨g1, by show s.checks + ((0 : Nat) : Int) = 0; omega⟩
  | pad n m f =>
    rw [GoodI] at g1
    have hnm : nmI (.pad n m f) = (It.pad n m f).nm :: nmB (It.pad n m f).blocks := by simp [nmI, It.nm, It.blocks, nmB]
    refine good_step (c0 := 0) ih1 ih2 hg g2 h rfl hnm (.inr rfl) (name_ok h30 h (by intro a b e; cases e) hnm) ?_ rfl (fun _ => rfl) (by simp [It.blocks, numB]) (by simp [numC, It.blocks, numB, numI]) (by simp [visC, numsOf]) (by simp [numI]) (by simp [numsOf])
    simp only [plainC]
    exact if_pos g1
  | rep n u b =>
    rw [GoodI] at g1
    obtain ⟨u1, u2, u3, u4, u5⟩ := g1
    have hnm : nmI (.rep n u b) = (It.rep n u b).nm :: nmB (It.rep n u b).blocks := by simp [nmI, It.nm, It.blocks, nmB]
    refine good_step (c0 := 0) ih1 ih2 hg g2 h (by simp [ckI, It.blocks, ckB]) hnm (.inl (by simp [numI, It.blocks, numB])) (name_ok h30 h (by intro a b e; cases e) hnm) rfl ?_ (fun hnn => ?_) ?_ (by simp [numC, It.blocks, numB, numI]) (by simp [visC, numsOf]) (fun x hx => ⟨(numI_nm _ _ _ hg x hx).1, (numI_nm _ _ _ hg x hx).2.1⟩) (by simp [numsOf])
    · simp only [usesC]
      exact if_pos (use_ok h u1 hA)
    · simp only [lengthsC]
      refine if_pos (head_pos ?_ u5 u4)
      exact hnn
    · intro x hx
      have : x ∈ numI (.rep n u b) := by simpa [numI, It.blocks, numB] using hx
      exact (numI_nm _ _ _ hg x this).2.1
  | eit n bs =>
    rw [GoodI] at g1
    obtain ⟨u1, u2, u3, u4⟩ := g1
    have hnm : nmI (.eit n bs) = (It.eit n bs).nm :: nmB (It.eit n bs).blocks := by simp [nmI, It.nm, It.blocks]
    refine good_step (c0 := 0) ih1 ih2 hg g2 h (by simp [ckI, It.blocks]) hnm (.inl (by simp [numI, It.blocks])) (name_ok h30 h (by intro a b e; cases e) hnm) ?_ rfl (fun hnn => ?_) (fun x hx => (numB_nm u4 x hx).2.1) (by simp [numC, It.blocks, numI]) (by simp [visC, numsOf]) (fun x hx => ⟨(numI_nm _ _ _ hg x hx).1, (numI_nm _ _ _ hg x hx).2.1⟩) (by simp [numsOf])
    · simp only [plainC]
      exact if_pos u2
    · simp only [lengthsC]
      refine if_pos ?_
      cases bs with
      | nil => simp [leastB]
      | cons b0 br =>
        rw [leastB, List.count_cons]
        have hz : (leastB (upC s (nmI (.eit n (b0 :: br))) (numB (It.eit n (b0 :: br)).blocks) (ckI (.eit n (b0 :: br)))).nums br).count 0 = 0 := by
          rw [List.count_eq_zero]
          intro hm
          rw [leastB_map] at hm
          obtain ⟨b, hb, e⟩ := List.mem_map.mp hm
          have hgb := (GoodB_all.mp u4 b (List.mem_cons_of_mem _ hb)).2
          have := head_pos hnn hgb (u3 b hb)
          have e' : leastL (s.nums ++ numB (It.eit n (b0 :: br)).blocks) b = 0 := e
          omega
        rw [hz]
        split <;> omega
  | swi n w vs bs =>
    rw [GoodI] at g1
    obtain ⟨u1, ⟨x, hx, hxw⟩, u3, u4, u5, u6, u7⟩ := g1
    have hnm : nmI (.swi n w vs bs) = (It.swi n w vs bs).nm :: nmB (It.swi n w vs bs).blocks := by simp [nmI, It.nm, It.blocks]
    refine good_step (c0 := 0) ih1 ih2 hg g2 h (by simp [ckI, It.blocks]) hnm (.inl (by simp [numI, It.blocks])) (name_ok h30 h (by intro a b e; cases e) hnm) ?_ ?_ (fun _ => rfl) (fun x hx => (numB_nm u7 x hx).2.1) (by simp [numC, It.blocks, numI]) (by simp [visC, numsOf]) (fun x hx => ⟨(numI_nm _ _ _ hg x hx).1, (numI_nm _ _ _ hg x hx).2.1⟩) (by simp [numsOf])
    · simp only [plainC]
      exact if_pos ⟨u3, u4, u5⟩
    · simp only [usesC]
      exact if_pos (hxw ▸ List.mem_map_of_mem hx)
theorem good_blocks {all : List Str} {b : List It} {r : List (List It)} 
    (ih1 : ∀ A dp s, GoodL A dp b → HH all A s (nmL b) (ckL b) → itemsC (A.map (·.n)) dp s b = some (upC s (nmL b) (numL b) (ckL b)))
    (ih2 : ∀ A dp s, GoodB A (dp + 1) r → dp + 1 ≤ 3 → HH all A s (nmB r) (ckB r) → blocksC (A.map (·.n)) dp s r = some (upC s (nmB r) (numB r) (ckB r))) (A : List Nm) (dp : Nat) (s : CSt) (g : GoodB A (dp + 1) (b :: r)) (hd : dp + 1 ≤ 3) (h : HH all A s (nmB (b :: r)) (ckB (b :: r))) :
    blocksC (A.map (·.n)) dp s (b :: r) = some (upC s (nmB (b :: r)) (numB (b :: r)) (ckB (b :: r))) := by
  rw [GoodB] at g
  obtain ⟨g1, g2, g3⟩ := g
  rw [nmB, ckB] at h
  have h1 := ih1 A (dp + 1) s g2 h.first
  have h2 := ih2 A dp _ g3 hd (h.next (u1 := numL b) (fun x hx => ⟨(numL_nm g2 x hx).1, (numL_nm g2 x hx).2.1⟩))
  rw [blocksC, if_pos ⟨g1, hd⟩, h1, Option.bind_some, h2, upC_upC]
  rfl
theorem good_inn {all : List Str} (h30 : all.length = 30) (i : It) : ∀ A dp s, GoodI A dp i → HH all A s (nmB i.blocks) (ckB i.blocks) → innC (A.map (·.n)) dp s i = some (upC s (nmB i.blocks) (numB i.blocks) (ckB i.blocks)) := by
  refine It.rec (motive_1 := fun i => ∀ A dp s, GoodI A dp i → HH all A s (nmB i.blocks) (ckB i.blocks) → innC (A.map (·.n)) dp s i = some (upC s (nmB i.blocks) (numB i.blocks) (ckB i.blocks)))
    (motive_2 := fun b => ∀ A dp s, GoodL A dp b → HH all A s (nmL b) (ckL b) → itemsC (A.map (·.n)) dp s b = some (upC s (nmL b) (numL b) (ckL b)))
    (motive_3 := fun bs => ∀ A dp s, GoodB A (dp + 1) bs → dp + 1 ≤ 3 → HH all A s (nmB bs) (ckB bs) → blocksC (A.map (·.n)) dp s bs = some (upC s (nmB bs) (numB bs) (ckB bs))) ?_ ?_ ?_ ?_ ?_ ?_ ?_ ?_ ?_ ?_ ?_ ?_ ?_ i
  · intro n sz o lo hi A dp s g h; simp [innC, upC, It.blocks, nmB, numB, ckB]
  · intro n u A dp s g h; simp [innC, upC, It.blocks, nmB, numB, ckB]
  · intro n e m A dp s g h; simp [innC, upC, It.blocks, nmB, numB, ckB]
  · intro n m A dp s g h; simp [innC, upC, It.blocks, nmB, numB, ckB]
  · intro n e m A dp s g h; simp [innC, upC, It.blocks, nmB, numB, ckB]
  · intro n u b ih A dp s g h
    rw [GoodI] at g
    obtain ⟨u1, u2, u3, u4, u5⟩ := g
    rw [innC, if_pos ⟨u3, u2⟩]
    simp only [It.blocks, nmB, numB, ckB, List.append_nil, Nat.add_zero] at h ⊢
    exact ih A (dp + 1) s u5 h
  · intro n bs ih A dp s g h
    rw [GoodI] at g
    rw [innC]
    exact ih A dp s g.2.2.2 g.1 h
  · intro n w vs bs ih A dp s g h
    rw [GoodI] at g
    rw [innC]
    exact ih A dp s g.2.2.2.2.2.2 g.1 h
  · intro a b A dp s g; rw [GoodI] at g; exact g.elim
  · intro A dp s g h; simp [itemsC, upC, nmL, numL, ckL]
  · intro i r h1 h2; exact good_cons h30 h1 h2
  · intro A dp s g hd h; simp [blocksC, upC, nmB, numB, ckB]
  · intro b r h1 h2; exact good_blocks h1 h2
theorem good_list {all : List Str} (h30 : all.length = 30) : ∀ (b : List It) A dp s, GoodL A dp b → HH all A s (nmL b) (ckL b) → itemsC (A.map (·.n)) dp s b = some (upC s (nmL b) (numL b) (ckL b))
  | [], A, dp, s, g, h => by simp [itemsC, upC, nmL, numL, ckL]
  | i :: r, A, dp, s, g, h => good_cons h30 (good_inn h30 i) (fun A dp s => good_list h30 r A dp s) A dp s g h
/-- a drawn shape is taken -/
theorem good_shape {ns : List Str} (hb : Beg ns) {b : List It} {s' : DSt} (h0 : 0 < b.length) (h12 : b.length ≤ 12) (g : GoodL [] 0 b) (st : Step ⟨ns, 0, 6⟩ s' (nmL b) (ckL b)) : shapeC b = some ⟨nmL b, numL b, (ckL b : Int)⟩ := by
  obtain ⟨used, e, nd, hm⟩ := st.nm
  have hall : ∀ n ∈ nmL b, n ∈ ns := fun n hn => by
    have : ns = used ++ s'.nm := e
    rw [this]
    exact List.mem_append_left _ (hm n hn)
  have hc := st.ck
  have hl := st.le
  have hh : HH ns [] ⟨[], [], 0⟩ (nmL b) (ckL b) := by
    refine ⟨by simp, by simp, by simp, by simpa using nd, by simpa using hall, fun n hn => (hb.ok n (hall n hn)).2.2, ?_, by simp⟩
    show (0 : Int) + ckL b ≤ 1
    have : s'.ck = ckL b := by simpa using hc
    omega
  have := good_list hb.len b [] 0 ⟨[], [], 0⟩ g hh
  unfold shapeC
  rw [if_pos h0]
  unfold listC'
  rw [if_pos ⟨h12, by decide⟩]
  have e2 : itemsC [] 0 ⟨[], [], 0⟩ b = some (upC ⟨[], [], 0⟩ (nmL b) (numL b) (ckL b)) := this
  rw [e2]
  simp [upC]
end L05

namespace L05
open PySem PySem.Spec PyProof.Rows L2 ML

theorem seq0 {d : Dv} {l : List Dv} (h : seqOf [] d = some l) : ∀ S, seqOf S d = some l := fun S => by
  have := seq_pre (X := S) h
  simpa using this
theorem seq0_below {d : Dv} {l : List Dv} (h : seqOf [] d = some l) (hb : below 0 d = true) : belows 0 l = true := by
  cases d with
  | tup l' => cases h; exact hb
  | lst l' => cases h; exact hb
  | scr l' => cases h; exact hb
  | ref n =>
    have h : listOf [] (.ref n) = some l := h
    rw [list_ref] at h
    cases h
  | _ => cases h
theorem belows_mem {n : Nat} : ∀ {l : List Dv} {d : Dv}, belows n l = true → d ∈ l → below n d = true
  | a :: r, d, h, hm => by
    unfold belows at h
    rw [Bool.and_eq_true] at h
    rcases List.mem_cons.mp hm with rfl | hm
    · exact h.1
    · exact belows_mem h.2 hm
@[simp high] theorem at2_1 {a b : Dv} : L2.atI [a, b] 1 = some b := ML.atI_nat (n := 1)
@[simp high] theorem at2_0 {a b : Dv} : L2.atI [a, b] 0 = some a := ML.atI_nat (n := 0)
def Cl (S : Sto) : Prop := S.all (belowC S.length) = true
theorem Cl.app {S Y : Sto} (h : Cl S) (g : Pure Y) : Cl (S ++ Y) := by
  unfold Cl at *
  rw [List.all_eq_true]
  intro c hc
  rcases List.mem_append.mp hc with hc | hc
  · exact belowC_mono (by simp) (List.all_eq_true.mp h c hc)
  · exact belowC_mono (Nat.zero_le _) (List.all_eq_true.mp g c hc)
theorem leaveD_at {S Y : Sto} {c : Nat} {l : List Dv} (hc : S.length ≤ c) (hg : (S ++ Y)[c]? = some (.lst l)) (hl : belows 0 l = true) (h : Cl S) : leaveD true S.length (.ref c) (S ++ Y) = .ok (.lst l) S := by
  have e : frzD S.length (.ref c) (S ++ Y) = (.lst l, (S ++ Y).set c .dead) := by
    show frz1 S.length (.ref c) (S ++ Y) = _
    unfold frz1
    dsimp only
    rw [if_pos hc, hg]
  unfold leaveD
  simp only [if_true]
  rw [e]
  dsimp only
  rw [List.set_append_right _ _ hc]
  unfold gcS
  rw [List.take_left, if_pos]
  exact ⟨belows_mono (Nat.zero_le _) hl, h⟩
theorem pure_set {Y : Sto} {n : Nat} {l : List Dv} (h : Pure Y) (hl : belows 0 l = true) : Pure (Y.set n (.lst l)) := by
  unfold Pure at *
  rw [List.all_eq_true] at *
  intro c hc
  rcases List.mem_or_eq_of_mem_set hc with hc | hc
  · exact h c hc
  · rw [hc]
    exact hl
/-- the copies are the items, too -/
theorem IsI_fr {T : Sto} {nums : Nums} (i : It) : ResI nums i → IsI T (frI i) i := by
  refine It.rec (motive_1 := fun i => ResI nums i → IsI T (frI i) i) (motive_2 := fun b => ResL nums b → IsL T (frL b) b) (motive_3 := fun bs => ResB nums bs → IsB T (frB bs) bs) ?_ ?_ ?_ ?_ ?_ ?_ ?_ ?_ ?_ ?_ ?_ ?_ ?_ i
  · intro n sz o lo hi h; rw [IsI, frI]; rfl
  · intro n u h; rw [IsI, frI]; rfl
  · intro n e m h; rw [IsI, frI]; rfl
  · intro n m h; rw [IsI, frI]; rfl
  · intro n e m h; rw [IsI, frI]; rfl
  · intro n u b ih h
    rw [ResI] at h
    rw [IsI, frI]
    exact ⟨.tup (frL b), rfl, frL b, rfl, ih h.2.2.2.2⟩
  · intro n bs ih h
    rw [ResI] at h
    rw [IsI, frI]
    exact ⟨.tup (frB bs), frB bs, rfl, rfl, ih h.2.2⟩
  · intro n w vs bs ih h
    rw [ResI] at h
    rw [IsI, frI]
    refine ⟨.tup _, _, frB bs, rfl, rfl, ?_, ih h.2.2.2⟩
    have hl : vs.length = (frB bs).length := by rw [frB_map, List.length_map]; exact h.2.2.1
    generalize frB bs = ds at hl
    clear ih h
    induction vs generalizing ds with
    | nil =>
      cases ds with
      | nil => trivial
      | cons a r => cases hl
    | cons v vs ih2 =>
      cases ds with
      | nil => cases hl
      | cons a r => exact ⟨rfl, ih2 r (by simpa using hl)⟩
  · intro a b h; rw [ResI] at h; exact h.elim
  · intro h; rw [IsL, frL]
  · intro i r h1 h2 h
    rw [ResL] at h
    rw [IsL, frL]
    exact ⟨_, _, rfl, h1 h.1, h2 h.2⟩
  · intro h; rw [IsB, frB]
  · intro b r h1 h2 h
    rw [ResB] at h
    rw [IsB, frB]
    exact ⟨_, _, rfl, ⟨frL b, rfl, h1 h.2.1⟩, h2 h.2.2⟩
theorem IsL_fr {T : Sto} {nums : Nums} : ∀ {b : List It}, ResL nums b → IsL T (frL b) b
  | [], _ => by rw [IsL, frL]
  | i :: r, h => by
    rw [ResL] at h
    rw [IsL, frL]
    exact ⟨_, _, rfl, IsI_fr i h.1, IsL_fr h.2⟩
theorem deep_I (i : It) : ∀ A dp, GoodI A dp i → dp ≤ 3 → hI i + dp ≤ 3 := by
  refine It.rec (motive_1 := fun i => ∀ A dp, GoodI A dp i → dp ≤ 3 → hI i + dp ≤ 3) (motive_2 := fun b => ∀ A dp, GoodL A dp b → dp ≤ 3 → hL b + dp ≤ 3) (motive_3 := fun bs => ∀ A dp, GoodB A dp bs → dp ≤ 3 → hB bs + dp ≤ 3) ?_ ?_ ?_ ?_ ?_ ?_ ?_ ?_ ?_ ?_ ?_ ?_ ?_ i
  · intros; simp [hI]; assumption
  · intros; simp [hI]; assumption
  · intros; simp [hI]; assumption
  · intros; simp [hI]; assumption
  · intros; simp [hI]; assumption
  · intro n u b ih A dp g h
    rw [GoodI] at g
    have := ih _ _ g.2.2.2.2 g.2.1
    simp only [hI]
    omega
  · intro n bs ih A dp g h
    rw [GoodI] at g
    have := ih _ _ g.2.2.2 g.1
    simp only [hI]
    omega
  · intro n w vs bs ih A dp g h
    rw [GoodI] at g
    have := ih _ _ g.2.2.2.2.2.2 g.1
    simp only [hI]
    omega
  · intro a b A dp g; rw [GoodI] at g; exact g.elim
  · intro A dp g h; simp [hL]; exact h
  · intro i r h1 h2 A dp g h
    rw [GoodL] at g
    have a := h1 _ _ g.1 h
    have b := h2 _ _ g.2 h
    simp only [hL]
    omega
  · intro A dp g h; simp [hB]; exact h
  · intro b r h1 h2 A dp g h
    rw [GoodB] at g
    have a := h1 _ _ g.2.1 h
    have b := h2 _ _ g.2.2 h
    simp only [hB]
    omega
theorem deep_L : ∀ {b : List It} {A : List Nm} {dp : Nat}, GoodL A dp b → dp ≤ 3 → hL b + dp ≤ 3
  | [], _, _, _, h => by simp [hL]; exact h
  | i :: r, A, dp, g, h => by
    rw [GoodL] at g
    have a := deep_I i _ _ g.1 h
    have b := deep_L g.2 h
    simp only [hL]
    omega
/-- the texts of a drawn list are short -/
theorem good_wfI (i : It) : ∀ A dp, GoodI A dp i → (∀ n ∈ nmI i, okS n) → (∀ x ∈ A, okS x.n) → WfI i := by
  have okO : ∀ o : Str, (o = Str.ofString "big" ∨ o = Str.ofString "little") → okS o := by
    rintro o (rfl | rfl)
    · exact ⟨by decide +kernel, by decide +kernel⟩
    · exact ⟨by decide +kernel, by decide +kernel⟩
  have useW : ∀ (A : List Nm) most (u : Use), GoodU A most u → (∀ x ∈ A, okS x.n) → u.wf := by
    intro A most u h hA
    cases u with
    | num x => trivial
    | nam n =>
      obtain ⟨x, hx, rfl, -⟩ := h
      exact hA x hx
  refine It.rec (motive_1 := fun i => ∀ A dp, GoodI A dp i → (∀ n ∈ nmI i, okS n) → (∀ x ∈ A, okS x.n) → WfI i) (motive_2 := fun b => ∀ A dp, GoodL A dp b → (∀ n ∈ nmL b, okS n) → (∀ x ∈ A, okS x.n) → WfL b) (motive_3 := fun bs => ∀ A dp, GoodB A dp bs → (∀ n ∈ nmB bs, okS n) → (∀ x ∈ A, okS x.n) → WfB bs) ?_ ?_ ?_ ?_ ?_ ?_ ?_ ?_ ?_ ?_ ?_ ?_ ?_ i
  · intro n sz o lo hi A dp g h hA
    rw [GoodI] at g
    rw [WfI]
    exact ⟨h n (by simp [nmI]), okO o g.o⟩
  · intro n u A dp g h hA
    rw [GoodI] at g
    rw [WfI]
    exact ⟨h n (by simp [nmI]), useW A _ u g hA⟩
  · intro n e m A dp g h hA; rw [WfI]; exact h n (by simp [nmI])
  · intro n m A dp g h hA; rw [WfI]; exact h n (by simp [nmI])
  · intro n e m A dp g h hA; rw [WfI]; exact h n (by simp [nmI])
  · intro n u b ih A dp g h hA
    rw [GoodI] at g
    rw [WfI]
    exact ⟨h n (by simp [nmI]), useW A _ u g.1 hA, ih _ _ g.2.2.2.2 (fun m hm => h m (by simp [nmI, hm])) hA⟩
  · intro n bs ih A dp g h hA
    rw [GoodI] at g
    rw [WfI]
    exact ⟨h n (by simp [nmI]), by omega, ih _ _ g.2.2.2 (fun m hm => h m (by simp [nmI, hm])) hA⟩
  · intro n w vs bs ih A dp g h hA
    rw [GoodI] at g
    obtain ⟨u1, ⟨x, hx, hw⟩, u3, u4, u5, u6, u7⟩ := g
    rw [WfI]
    exact ⟨h n (by simp [nmI]), hw ▸ hA x hx, by omega, u6, ih _ _ u7 (fun m hm => h m (by simp [nmI, hm])) hA⟩
  · intro a b A dp g; rw [GoodI] at g; exact g.elim
  · intros; rw [WfL]; trivial
  · intro i r h1 h2 A dp g h hA
    rw [GoodL] at g
    rw [WfL]
    refine ⟨h1 _ _ g.1 (fun m hm => h m (by rw [nmL]; exact List.mem_append_left _ hm)) hA, h2 _ _ g.2 (fun m hm => h m (by rw [nmL]; exact List.mem_append_right _ hm)) fun x hx => ?_⟩
    rcases List.mem_append.mp hx with hx | hx
    · exact hA x hx
    · refine h x.n ?_
      rw [nmL]
      refine List.mem_append_left _ ?_
      cases i <;> simp [numsOf] at hx
      subst hx
      simp [nmI]
  · intros; rw [WfB]; trivial
  · intro b r h1 h2 A dp g h hA
    rw [GoodB] at g
    rw [WfB]
    exact ⟨h1 _ _ g.2.1 (fun m hm => h m (by rw [nmB]; exact List.mem_append_left _ hm)) hA, h2 _ _ g.2.2 (fun m hm => h m (by rw [nmB]; exact List.mem_append_right _ hm)) hA⟩
theorem good_wf : ∀ {b : List It} {A : List Nm} {dp : Nat}, GoodL A dp b → (∀ n ∈ nmL b, okS n) → (∀ x ∈ A, okS x.n) → WfL b
  | [], _, _, _, _, _ => by rw [WfL]; trivial
  | i :: r, A, dp, g, h, hA => by
    rw [GoodL] at g
    rw [WfL]
    refine ⟨good_wfI i _ _ g.1 (fun m hm => h m (by rw [nmL]; exact List.mem_append_left _ hm)) hA, good_wf g.2 (fun m hm => h m (by rw [nmL]; exact List.mem_append_right _ hm)) fun x hx => ?_⟩
    rcases List.mem_append.mp hx with hx | hx
    · exact hA x hx
    · refine h x.n ?_
      rw [nmL]
      refine List.mem_append_left _ ?_
      cases i <;> simp [numsOf] at hx
      subst hx
      simp [nmI]
/-- what was drawn: a shape's items, and what their check says -/
structure Drawn (b : List It) (ds : List Dv) : Prop where
  is : IsL [] ds b
  tp : TpL ds b
  bl : belows 0 ds = true
  gd : GoodL [] 0 b
  le : b.length ≤ 12
  ne : 0 < b.length
  wf : WfL b
  sh : shapeC b = some ⟨nmL b, numL b, (ckL b : Int)⟩
  nl : (nmL b).length ≤ 30
theorem drawn_of {ns : List Str} (hb : Beg ns) {b : List It} {ds : List Dv} {s' : DSt} (h1 : TpL ds b) (h2 : belows 0 ds = true) (h3 : GoodL [] 0 b) (h4 : b.length ≤ 12) (h5 : Step ⟨ns, 0, 6⟩ s' (nmL b) (ckL b)) (h6 : b ≠ []) : Drawn b ds := by
  have hp : 0 < b.length := List.length_pos_iff.mpr h6
  obtain ⟨used, e, nd, hm⟩ := h5.nm
  have hall : ∀ n ∈ nmL b, n ∈ ns := fun n hn => by
    have : ns = used ++ s'.nm := e
    rw [this]
    exact List.mem_append_left _ (hm n hn)
  refine ⟨h1.is, h1, h2, h3, h4, hp, good_wf h3 (fun n hn => (hb.ok n (hall n hn)).1) (by simp), good_shape hb hp h4 h3 h5, ?_⟩
  have := nodup_len nd hall
  rw [hb.len] at this
  exact this
theorem fr_below_I {nums : Nums} (i : It) : ResI nums i → below 0 (frI i) = true := by
  refine It.rec (motive_1 := fun i => ResI nums i → below 0 (frI i) = true) (motive_2 := fun b => ResL nums b → belows 0 (frL b) = true) (motive_3 := fun bs => ResB nums bs → belows 0 (frB bs) = true) ?_ ?_ ?_ ?_ ?_ ?_ ?_ ?_ ?_ ?_ ?_ ?_ ?_ i
  · intros; rw [frI]; rfl
  · intro n u h
    rw [frI]
    show (true && (true && (below 0 u.dv && true))) = true
    rw [u.below0]
    rfl
  · intros; rw [frI]; rfl
  · intros; rw [frI]; rfl
  · intros; rw [frI]; rfl
  · intro n u b ih h
    rw [ResI] at h
    rw [frI]
    show (true && (true && (below 0 u.dv && (belows 0 (frL b) && true)))) = true
    rw [u.below0, ih h.2.2.2.2]
    rfl
  · intro n bs ih h
    rw [ResI] at h
    rw [frI]
    show (true && (true && (belows 0 (frB bs) && true))) = true
    rw [ih h.2.2]
    rfl
  · intro n w vs bs ih h
    rw [ResI] at h
    rw [frI]
    show (true && (true && (true && (belows 0 ((vs.zip (frB bs)).map fun p => Dv.tup [.int p.1, p.2]) && true)))) = true
    have h2 := ih h.2.2.2
    have : belows 0 ((vs.zip (frB bs)).map fun p => Dv.tup [.int p.1, p.2]) = true := belows_all fun d hd => by
      obtain ⟨p, hp, rfl⟩ := List.mem_map.mp hd
      have := belows_mem h2 (List.of_mem_zip hp).2
      show (true && (below 0 p.2 && true)) = true
      rw [this]
      rfl
    rw [this]
    rfl
  · intro a b h; rw [ResI] at h; exact h.elim
  · intros; rw [frL]; rfl
  · intro i r h1 h2 h
    rw [ResL] at h
    rw [frL]
    unfold belows
    rw [h1 h.1, h2 h.2]
    rfl
  · intros; rw [frB]; rfl
  · intro b r h1 h2 h
    rw [ResB] at h
    rw [frB]
    unfold belows
    show (belows 0 (frL b) && belows 0 (frB r)) = true
    rw [h1 h.2.1, h2 h.2.2]
    rfl
theorem fr_below {nums : Nums} : ∀ {b : List It}, ResL nums b → belows 0 (frL b) = true
  | [], _ => by rw [frL]; rfl
  | i :: r, h => by
    rw [ResL] at h
    rw [frL]
    unfold belows
    rw [fr_below_I i h.1, fr_below h.2]
    rfl
end L05

namespace L05
open PySem PySem.Spec PyProof.Rows L2 ML

/-! ### the written form -/
def txI (i : Int) : Str := toString i
def txU : Use → Str
  | .num i => txI i
  | .nam n => n
def sp (a b : Str) : Str := a ++ Str.ofString " " ++ b
def kw (s : String) : Str := Str.ofString s
mutual
def linI : It → List Str
  | .number n sz o lo hi => [sp (sp (sp (sp (sp (kw "number") n) (txI sz)) o) (txI lo)) (txI hi)]
  | .bytes n u => [sp (sp (kw "bytes") n) (txU u)]
  | .text n e m => [sp (sp (sp (kw "text") n) (txI e)) (txI m)]
  | .check n m => [sp (sp (kw "check") n) (txI m)]
  | .pad n m f => [sp (sp (sp (kw "pad") n) (txI m)) (txI f)]
  | .rep n u b => sp (sp (kw "repeat") n) (txU u) :: (linL b ++ [kw "end"])
  | .eit n bs => sp (kw "either") n :: (linE bs ++ [kw "end"])
  | .swi n w vs bs => sp (sp (kw "switch") n) w :: (linS vs bs ++ [kw "end"])
  | .odd _ _ => []
def linL : List It → List Str
  | [] => []
  | i :: r => linI i ++ linL r
def linE : List (List It) → List Str
  | [] => []
  | b :: r => kw "choice" :: (linL b ++ linE r)
def linS : List Int → List (List It) → List Str
  | v :: vs, b :: r => sp (kw "case") (txI v) :: (linL b ++ linS vs r)
  | _, _ => []
end
theorem txI_len {i : Int} (h0 : 0 ≤ i) (h1 : i ≤ 65535) : (txI i).length ≤ 10 := by
  have := PyProof.Rows.toString_length_le h0 (k := 10) (by decide) (by omega)
  exact this
end L05

namespace L05
open PySem PySem.Spec PyProof.Rows L2 ML

theorem sapp_len (a b : Str) : (a ++ b).length = a.length + b.length := by
  rw [cds_len, cds_len, cds_len, cd_append, List.length_append]
theorem sapp_assoc (a b c : Str) : a ++ b ++ c = a ++ (b ++ c) := str_eq (by rw [cd_append, cd_append, cd_append, cd_append, List.append_assoc])
theorem sapp_ok {a b : Str} (h : PyData.strOk a = true) (g : PyData.strOk b = true) : PyData.strOk (a ++ b) = true := by
  rw [strOk_iff] at *
  intro c hc
  rw [cd_append] at hc
  rcases List.mem_append.mp hc with hc | hc
  · exact h c hc
  · exact g c hc
structure Lt (n : Nat) (t : Str) : Prop where
  le : t.length ≤ n
  ok : PyData.strOk t = true
theorem Lt.mono {n m : Nat} {t : Str} (h : Lt n t) (k : n ≤ m) : Lt m t := ⟨Nat.le_trans h.le k, h.ok⟩
theorem sp1_len : (Str.ofString " ").length = 1 := by decide +kernel
theorem sp1_ok : PyData.strOk (Str.ofString " ") = true := by decide +kernel
theorem Lt.sp {n m : Nat} {a b : Str} (h : Lt n a) (g : Lt m b) : Lt (n + 1 + m) (sp a b) := by
  unfold L05.sp
  refine ⟨?_, sapp_ok (sapp_ok h.ok sp1_ok) g.ok⟩
  have := h.le
  have := g.le
  rw [sapp_len, sapp_len, sp1_len]
  omega
theorem lt_name {n : Str} (h : okS n) : Lt 100 n := ⟨h.1, h.2⟩
theorem txI_ok (i : Int) : PyData.strOk (txI i) = true := (strOk_iff _).mpr fun c hc => Nat.lt_trans (PySem.W.KSb.asc_num i c hc) (by decide)
theorem lt_int {i : Int} (h0 : 0 ≤ i) (h1 : i ≤ 65535) : Lt 10 (txI i) := ⟨txI_len h0 h1, txI_ok i⟩
theorem gr_le {sz : Int} : gr sz ≤ 65535 := by unfold gr; split <;> decide
theorem log_ok {i : Int} (h0 : 0 ≤ i) (h1 : i ≤ 65535) : i.natAbs.log2 < 1920 := by
  by_cases h : i.natAbs = 0
  · rw [h]
    decide
  · rw [Nat.log2_lt h]
    have h2 : i.natAbs < 2 ^ 17 := by omega
    exact Nat.lt_of_lt_of_le h2 (Nat.pow_le_pow_right (by decide) (by decide))
/-- the numbers of an item -/
structure UseS (u : Use) : Prop where
  lt : Lt 100 (txU u)
  io : ∀ i, u = .num i → 0 ≤ i ∧ i ≤ 65535
theorem use_s {A : List Nm} {most : Int} (hm : most ≤ 64) {u : Use} (h : GoodU A most u) (hw : u.wf) : UseS u := by
  cases u with
  | num x => exact ⟨(lt_int h.1 (by have := h.2; omega)).mono (by decide), fun i e => by cases e; have := h.2; exact ⟨h.1, by omega⟩⟩
  | nam n => exact ⟨lt_name hw, fun i e => by cases e⟩
mutual
/-- items whose lines are short -/
def SmI : It → Prop
  | .number n sz o lo hi => okS n ∧ okS o ∧ (0 ≤ sz ∧ sz ≤ 65535) ∧ (0 ≤ lo ∧ lo ≤ 65535) ∧ (0 ≤ hi ∧ hi ≤ 65535)
  | .bytes n u => okS n ∧ UseS u
  | .text n e m => okS n ∧ (0 ≤ e ∧ e ≤ 65535) ∧ (0 ≤ m ∧ m ≤ 65535)
  | .check n m => okS n ∧ (0 ≤ m ∧ m ≤ 65535)
  | .pad n m f => okS n ∧ (0 ≤ m ∧ m ≤ 65535) ∧ (0 ≤ f ∧ f ≤ 65535)
  | .rep n u b => okS n ∧ UseS u ∧ SmL b
  | .eit n bs => okS n ∧ SmB bs
  | .swi n w vs bs => okS n ∧ okS w ∧ (∀ v ∈ vs, 0 ≤ v ∧ v ≤ 65535) ∧ vs.length = bs.length ∧ SmB bs
  | .odd _ _ => False
def SmL : List It → Prop
  | [] => True
  | i :: r => SmI i ∧ SmL r
def SmB : List (List It) → Prop
  | [] => True
  | b :: r => SmL b ∧ SmB r
end
theorem sm_I (i : It) : ∀ A dp, GoodI A dp i → WfI i → SmI i := by
  refine It.rec (motive_1 := fun i => ∀ A dp, GoodI A dp i → WfI i → SmI i) (motive_2 := fun b => ∀ A dp, GoodL A dp b → WfL b → SmL b) (motive_3 := fun bs => ∀ A dp, GoodB A dp bs → WfB bs → SmB bs) ?_ ?_ ?_ ?_ ?_ ?_ ?_ ?_ ?_ ?_ ?_ ?_ ?_ i
  · intro n sz o lo hi A dp g w
    rw [GoodI] at g
    rw [WfI] at w
    rw [SmI]
    have h1 := g.sz
    have h2 := g.lo
    have h3 := g.lh
    have h4 := g.hi
    have h5 := gr_le (sz := sz)
    dsimp only at h1 h2 h3 h4
    refine ⟨w.1, w.2, by omega, by omega, by omega⟩
  · intro n u A dp g w
    rw [GoodI] at g
    rw [WfI] at w
    rw [SmI]
    exact ⟨w.1, use_s (by decide) g w.2⟩
  · intro n e m A dp g w
    rw [GoodI] at g
    rw [WfI] at w
    rw [SmI]
    exact ⟨w, by omega, by omega⟩
  · intro n m A dp g w
    rw [GoodI] at g
    rw [WfI] at w
    rw [SmI]
    exact ⟨w, by omega⟩
  · intro n m f A dp g w
    rw [GoodI] at g
    rw [WfI] at w
    rw [SmI]
    exact ⟨w, by omega, by omega⟩
  · intro n u b ih A dp g w
    rw [GoodI] at g
    rw [WfI] at w
    rw [SmI]
    exact ⟨w.1, use_s (by decide) g.1 w.2.1, ih _ _ g.2.2.2.2 w.2.2⟩
  · intro n bs ih A dp g w
    rw [GoodI] at g
    rw [WfI] at w
    rw [SmI]
    exact ⟨w.1, ih _ _ g.2.2.2 w.2.2⟩
  · intro n w vs bs ih A dp g wf
    rw [GoodI] at g
    rw [WfI] at wf
    rw [SmI]
    obtain ⟨u1, u2, u3, u4, u5, u6, u7⟩ := g
    exact ⟨wf.1, wf.2.1, u4, u6, ih _ _ u7 wf.2.2.2.2⟩
  · intro a b A dp g; rw [GoodI] at g; exact g.elim
  · intros; rw [SmL]; trivial
  · intro i r h1 h2 A dp g w
    rw [GoodL] at g
    rw [WfL] at w
    rw [SmL]
    exact ⟨h1 _ _ g.1 w.1, h2 _ _ g.2 w.2⟩
  · intros; rw [SmB]; trivial
  · intro i r h1 h2 A dp g w
    rw [GoodB] at g
    rw [WfB] at w
    rw [SmB]
    exact ⟨h1 _ _ g.2.1 w.1, h2 _ _ g.2.2 w.2⟩
theorem sm_L : ∀ {b : List It} {A : List Nm} {dp : Nat}, GoodL A dp b → WfL b → SmL b
  | [], _, _, _, _ => by rw [SmL]; trivial
  | i :: r, A, dp, g, w => by
    rw [GoodL] at g
    rw [WfL] at w
    rw [SmL]
    exact ⟨sm_I i _ _ g.1 w.1, sm_L g.2 w.2⟩
theorem SmL_mem {i : It} : ∀ {b : List It}, SmL b → i ∈ b → SmI i
  | _ :: _, h, m => by
    rw [SmL] at h
    rcases List.mem_cons.mp m with rfl | m
    · exact h.1
    · exact SmL_mem h.2 m
theorem SmB_mem {b : List It} : ∀ {bs : List (List It)}, SmB bs → b ∈ bs → SmL b
  | _ :: _, h, m => by
    rw [SmB] at h
    rcases List.mem_cons.mp m with rfl | m
    · exact h.1
    · exact SmB_mem h.2 m
/-- all lines are short -/
theorem lines_I (i : It) : SmI i → ∀ t ∈ linI i, Lt 1000 t := by
  have kwL : ∀ s ∈ (["number", "bytes", "text", "check", "pad", "repeat", "either", "switch", "end", "choice", "case"] : List String), Lt 10 (kw s) := by
    intro s hs
    have key : ∀ s ∈ (["number", "bytes", "text", "check", "pad", "repeat", "either", "switch", "end", "choice", "case"] : List String), (kw s).length ≤ 10 ∧ PyData.strOk (kw s) = true := by decide +kernel
    exact ⟨(key s hs).1, (key s hs).2⟩
  refine It.rec (motive_1 := fun i => SmI i → ∀ t ∈ linI i, Lt 1000 t) (motive_2 := fun b => SmL b → ∀ t ∈ linL b, Lt 1000 t) (motive_3 := fun bs => SmB bs → (∀ t ∈ linE bs, Lt 1000 t) ∧ ∀ vs : List Int, (∀ v ∈ vs, 0 ≤ v ∧ v ≤ 65535) → ∀ t ∈ linS vs bs, Lt 1000 t) ?_ ?_ ?_ ?_ ?_ ?_ ?_ ?_ ?_ ?_ ?_ ?_ ?_ i
  · intro n sz o lo hi h t ht
    rw [SmI] at h
    simp only [linI, List.mem_singleton] at ht
    subst ht
    exact (((((kwL "number" (by decide)).sp (lt_name h.1)).sp (lt_int h.2.2.1.1 h.2.2.1.2)).sp (lt_name h.2.1)).sp (lt_int h.2.2.2.1.1 h.2.2.2.1.2)).sp (lt_int h.2.2.2.2.1 h.2.2.2.2.2) |>.mono (by decide)
  · intro n u h t ht
    rw [SmI] at h
    simp only [linI, List.mem_singleton] at ht
    subst ht
    exact ((kwL "bytes" (by decide)).sp (lt_name h.1)).sp h.2.lt |>.mono (by decide)
  · intro n e m h t ht
    rw [SmI] at h
    simp only [linI, List.mem_singleton] at ht
    subst ht
    exact (((kwL "text" (by decide)).sp (lt_name h.1)).sp (lt_int h.2.1.1 h.2.1.2)).sp (lt_int h.2.2.1 h.2.2.2) |>.mono (by decide)
  · intro n m h t ht
    rw [SmI] at h
    simp only [linI, List.mem_singleton] at ht
    subst ht
    exact ((kwL "check" (by decide)).sp (lt_name h.1)).sp (lt_int h.2.1 h.2.2) |>.mono (by decide)
  · intro n m f h t ht
    rw [SmI] at h
    simp only [linI, List.mem_singleton] at ht
    subst ht
    exact (((kwL "pad" (by decide)).sp (lt_name h.1)).sp (lt_int h.2.1.1 h.2.1.2)).sp (lt_int h.2.2.1 h.2.2.2) |>.mono (by decide)
  · intro n u b ih h t ht
    rw [SmI] at h
    simp only [linI, List.mem_cons, List.mem_append, List.not_mem_nil, or_false] at ht
    rcases ht with rfl | ht | rfl
    · exact ((kwL "repeat" (by decide)).sp (lt_name h.1)).sp h.2.1.lt |>.mono (by decide)
    · exact ih h.2.2 t ht
    · exact (kwL "end" (by decide)).mono (by decide)
  · intro n bs ih h t ht
    rw [SmI] at h
    simp only [linI, List.mem_cons, List.mem_append, List.not_mem_nil, or_false] at ht
    rcases ht with rfl | ht | rfl
    · exact (kwL "either" (by decide)).sp (lt_name h.1) |>.mono (by decide)
    · exact (ih h.2).1 t ht
    · exact (kwL "end" (by decide)).mono (by decide)
  · intro n w vs bs ih h t ht
    rw [SmI] at h
    simp only [linI, List.mem_cons, List.mem_append, List.not_mem_nil, or_false] at ht
    rcases ht with rfl | ht | rfl
    · exact ((kwL "switch" (by decide)).sp (lt_name h.1)).sp (lt_name h.2.1) |>.mono (by decide)
    · exact (ih h.2.2.2.2).2 vs h.2.2.1 t ht
    · exact (kwL "end" (by decide)).mono (by decide)
  · intro a b h; rw [SmI] at h; exact h.elim
  · intro h t ht; simp [linL] at ht
  · intro i r h1 h2 h t ht
    rw [SmL] at h
    rw [linL] at ht
    rcases List.mem_append.mp ht with ht | ht
    · exact h1 h.1 t ht
    · exact h2 h.2 t ht
  · intro h
    refine ⟨fun t ht => by simp [linE] at ht, fun vs _ t ht => ?_⟩
    cases vs <;> simp [linS] at ht
  · intro b r h1 h2 h
    rw [SmB] at h
    refine ⟨fun t ht => ?_, fun vs hv t ht => ?_⟩
    · simp only [linE, List.mem_cons, List.mem_append] at ht
      rcases ht with rfl | ht | ht
      · exact (kwL "choice" (by decide)).mono (by decide)
      · exact h1 h.1 t ht
      · exact (h2 h.2).1 t ht
    · cases vs with
      | nil => simp [linS] at ht
      | cons v vs =>
        simp only [linS, List.mem_cons, List.mem_append] at ht
        rcases ht with rfl | ht | ht
        · have := hv v (by simp)
          exact (kwL "case" (by decide)).sp (lt_int this.1 this.2) |>.mono (by decide)
        · exact h1 h.1 t ht
        · exact (h2 h.2).2 vs (fun x hx => hv x (List.mem_cons_of_mem _ hx)) t ht
theorem lines_L : ∀ {b : List It}, SmL b → ∀ t ∈ linL b, Lt 1000 t
  | [], _, t, ht => by simp [linL] at ht
  | i :: r, h, t, ht => by
    rw [SmL] at h
    rw [linL] at ht
    rcases List.mem_append.mp ht with ht | ht
    · exact lines_I i h.1 t ht
    · exact lines_L h.2 t ht
end L05

namespace L05
open PySem PySem.Spec PyProof.Rows L2 ML

theorem txt_join (z : Str) (ys : List Str) : Txt.join z ys = Str.join z ys := by
  unfold Txt.join
  rw [StrLaws.glued_eq_join]
theorem foldl_sp (x : Str) : ∀ (t : List Str) (b : Str), x ++ t.foldl sp b = t.foldl sp (x ++ b)
  | [], b => rfl
  | c :: t, b => by
    rw [List.foldl_cons, List.foldl_cons, foldl_sp x t]
    have e : x ++ sp b c = sp (x ++ b) c := by
      unfold sp
      rw [sapp_assoc, sapp_assoc, sapp_assoc]
    rw [e]
theorem join_sp : ∀ (r : List Str) (a : Str), Txt.join (Str.ofString " ") (a :: r) = r.foldl sp a
  | [], a => by rw [txt_join]; simp [Str.join]
  | c :: t, a => by
    have ih := join_sp t c
    rw [txt_join] at ih ⊢
    rw [Str.join]
    · rw [ih, foldl_sp]
      rfl
    · simp
theorem sum_le : ∀ (ys : List Str), (∀ y ∈ ys, y.length ≤ 1000) → (ys.map (·.length)).sum ≤ 1000 * ys.length
  | [], _ => by simp
  | a :: r, h => by
    have h1 := h a (by simp)
    have h2 := sum_le r fun y hy => h y (List.mem_cons_of_mem _ hy)
    simp only [List.map_cons, List.sum_cons, List.length_cons]
    omega
theorem join_wm {S : Sto} {z : Str} {d : Dv} {ys : List Str} (hd : seqOf S d = some (ys.map .str)) (hz : z.length ≤ 1) (hn : ys.length ≤ 1000) (h : ∀ y ∈ ys, y.length ≤ 1000) : joinD S (.str z) [d] = some (.str (Txt.join z ys)) := by
  have hs : strsOf (ys.map Dv.str) = some ys := by
    have := strsOf_map (g := fun x : Str => x) (l := ys)
    simpa using this
  unfold joinD
  dsimp only
  rw [hd]
  dsimp only [Option.bind]
  rw [hs]
  dsimp only
  rw [if_pos]
  have h1 := sum_le ys h
  have h2 : ys.length * z.length ≤ 1000 * 1 := Nat.mul_le_mul hn hz
  omega
/-- the line of a plain item -/
theorem wm_line {S : Sto} {x : Dv} {z : List (Dv × Str)} {env : Env'} (hx : seqOf [] x = some (z.map (·.1))) (hz : ∀ p ∈ z, ∀ S, strD2 S [p.1] = some (.str p.2)) (h10 : z.length ≤ 10) (hl : ∀ p ∈ z, p.2.length ≤ 1000) (he : env[2]? = some (some x)) (h5 : 5 < env.length) {P : Rs Dv → Prop} :
    Wm (eMt "str" (eC (.str " ")) (aCons (lcF (iVal (getv 2)) [5] (gSet 5) tYes' (eArg (aCons (getv 5) aNil) (opA strD2))) aNil) (opM joinD) env) S P ↔ P (.ok (.str (Txt.join (Str.ofString " ") (z.map (·.2)))) S) := by
  have hzz := szl
  simp only [at_eMt, wm_bind, wm_eC, bk_ok, wm_chkT, ty_str, true_and, at_aCons, at_aNil]
  rw [lcF_map (S := S) (src := fun S => seqOf S x) z (fun p => p.1) (fun p => some (.str p.2)) (by simp [he, seq_src (seq0 hx S)]) (seq0 hx S) (by omega) (by
    intro p hp
    simp [hz p hp, h5])]
  have e : z.filterMap (fun p => some (Dv.str p.2)) = (z.map (·.2)).map .str := by simp
  rw [e]
  have hj := join_wm (S := S) (z := Str.ofString " ") (d := .lst ((z.map (·.2)).map .str)) (ys := z.map (·.2)) rfl (by rw [sp1_len]; exact Nat.le_refl _) (by simp; omega) (by
    intro y hy
    obtain ⟨p, hp, rfl⟩ := List.mem_map.mp hy
    exact hl p hp)
  simp only [bk_ok, wm_bind, wm_mpure, wm_pure, wm_opM, hj, wopt_some]
theorem linL_app {b c : List It} : linL (b ++ c) = linL b ++ linL c := by
  induction b with
  | nil => simp [linL]
  | cons i r ih => simp only [List.cons_append, linL, ih, List.append_assoc]
theorem linE_app {b c : List (List It)} : linE (b ++ c) = linE b ++ linE c := by
  induction b with
  | nil => simp [linE]
  | cons i r ih => simp only [List.cons_append, linE, ih, List.append_assoc, List.cons_append]
theorem linS_app : ∀ {vs ws : List Int} {b c : List (List It)}, vs.length = b.length → linS (vs ++ ws) (b ++ c) = linS vs b ++ linS ws c
  | [], ws, [], c, _ => by simp [linS]
  | v :: vs, ws, b :: bs, c, h => by
    simp only [List.cons_append, linS]
    rw [linS_app (by simpa using h)]
    simp
def row (l : List Str) : Cell := .lst (l.map .str)
/-- within format_items -/
def FJ (S : Sto) (d : Dv) (l : List Str) (env : Env') (S' : Sto) : Prop := S' = S ++ [row l] ∧ ∃ a2 a3 a4 a5, env = [some d, some (.ref S.length), a2, a3, a4, a5]
def FK (S : Sto) (d x : Dv) (l : List Str) (env : Env') (S' : Sto) : Prop := S' = S ++ [row l] ∧ ∃ a3 a4 a5, env = [some d, some (.ref S.length), some x, a3, a4, a5]
section
variable {S : Sto} {l r : List Str}
theorem row_at : (S ++ [row l])[S.length]? = some (.lst (l.map .str)) := by simp [row]
theorem row_set {c : Cell} : (S ++ [row l]).set S.length c = S ++ [c] := by simp
theorem row_add : Cell.lst (l.map .str ++ r.map .str) = row (l ++ r) := by simp [row]
theorem row_add1 {t : Str} : Cell.lst (l.map .str ++ [.str t]) = row (l ++ [t]) := by simp [row]
theorem row_pure : Pure [row l] := pure_lst belows_strs
end
end L05

namespace L05
open PySem PySem.Spec PyProof.Rows L2 ML

theorem app1 {f : Env' → M Dv} {env : Env'} {S : Sto} {l : List Str} {t : Str} {P : Rs Dv → Prop} (he : env[1]? = some (some (.ref S.length))) (hl : l.length ≤ 100000) (hf : ∀ Q : Rs Dv → Prop, Wm (f env) (S ++ [row l]) Q ↔ Q (.ok (.str t) (S ++ [row l]))) : Wm (eMt "list" (getv 1) (aCons f aNil) appendM env) (S ++ [row l]) P ↔ P (.ok .non (S ++ [row (l ++ [t])])) := by
  have hz := szl
  simp only [at_eMt, wm_bind, wm_getv, he, wopt_some, bk_ok, wm_chkT, ty_ref, row_at, cellLst_lst, Option.isSome_some, true_and, at_aCons, at_aNil, hf, wm_mpure, wm_pure, wm_append, cell_ref, Option.map_some, List.length_map, row_set, row_add1]
  constructor
  · exact fun h => h.2
  · exact fun h => ⟨by omega, h⟩
theorem aug1 {fe : Env' → M Dv} {env : Env'} {S : Sto} {l r : List Str} {P : So → Prop} (he : env[1]? = some (some (.ref S.length))) (hl : l.length ≤ 100000) (hr : r.length ≤ 100000) (hf : ∀ Q : Rs Dv → Prop, Wm (fe env) (S ++ [row l]) Q ↔ Q (.ok (.lst (r.map .str)) (S ++ [row l]))) : Ws (sAugL 1 fe) env (S ++ [row l]) P ↔ P (.nx env (S ++ [row (l ++ r)])) := by
  have hz := szl
  have hset : env.set 1 (some (.ref S.length)) = env := by
    obtain ⟨h1, h2⟩ := List.getElem?_eq_some_iff.mp he
    exact List.ext_getElem (by simp) fun n h3 h4 => by
      rw [List.getElem_set]
      split
      · rename_i e
        subst e
        exact h2.symm
      · rfl
  simp only [ws_augL, he, wopt_some, wm_bind, hf, bk_ok, wm_ext, row_at, cellLst_lst, own_lst, List.length_map, row_set, row_add, xk_ok, hset]
  constructor
  · exact fun h => h.2
  · exact fun h => ⟨by omega, h⟩
theorem kw_eq : Str.empty ++ Str.ofString "repeat " = kw "repeat" ++ Str.ofString " " ∧ Str.empty ++ Str.ofString "either " = kw "either" ++ Str.ofString " " ∧ Str.empty ++ Str.ofString "switch " = kw "switch" ++ Str.ofString " " ∧ Str.empty ++ Str.ofString "case " = kw "case" ++ Str.ofString " " := by decide +kernel
theorem kw_len : (kw "repeat").length = 6 ∧ (kw "either").length = 6 ∧ (kw "switch").length = 6 ∧ (kw "case").length = 4 := by decide +kernel
theorem em_len : (Str.ofString "repeat ").length = 7 ∧ (Str.ofString "either ").length = 7 ∧ (Str.ofString "switch ").length = 7 ∧ (Str.ofString "case ").length = 5 ∧ Str.empty.length = 0 := by decide +kernel
/-- f'.. {u}' of a length -/
theorem fmt_use {S : Sto} {u : Use} (h : UseS u) {P : Rs Dv → Prop} : Wm (fmtM u.dv) S P ↔ P (.ok (.str (txU u)) S) := by
  have hz := szl
  cases u with
  | num i =>
    have := h.io i rfl
    show Wm (fmtM (.int i)) S P ↔ _
    rw [wm_fmtI]
    exact ⟨fun h => h.2, fun h => ⟨log_ok this.1 this.2, h⟩⟩
  | nam n =>
    have := h.lt.le
    show Wm (fmtM (.str n)) S P ↔ _
    rw [wm_fmtS]
    exact ⟨fun h => h.2, fun h => ⟨by rw [hz]; exact Nat.le_trans this (by decide), h⟩⟩
theorem lin_take {b : List It} {j : Nat} : (linL (b.take j)).length ≤ (linL b).length := by
  have : linL b = linL (b.take j) ++ linL (b.drop j) := by rw [← linL_app, List.take_append_drop]
  rw [this, List.length_append]
  omega
theorem str2_plain {p : Dv × Str} (h : (∃ x, p = (.str x, x)) ∨ ∃ i : Int, 0 ≤ i ∧ i ≤ 65535 ∧ p = (.int i, txI i)) (S : Sto) : strD2 S [p.1] = some (.str p.2) := by
  rcases h with ⟨x, rfl⟩ | ⟨i, h0, h1, rfl⟩
  · rfl
  · show (if i.natAbs.log2 < 1920 then some (Dv.str (toString i)) else none) = _
    rw [if_pos (log_ok h0 h1)]
    rfl
theorem wm_format : ∀ (k : Nat) {S : Sto} {nums : Nums} {b : List It} {d : Dv} {l : List Dv}, Cl S → hL b + 1 ≤ k → seqOf [] d = some l → IsL [] l b → SmL b → (linL b).length ≤ 10000 →
    Wm (run k fn_format_items [d]) S fun r => r = .ok (.lst ((linL b).map .str)) S := by
  intro k
  induction k with
  | zero => intro S nums b d l hS hk; omega
  | succ k ih =>
    intro S nums b d l hS hk hd hl hsm hlen
    have hz := szl
    have hdl := IsL_length hl
    rw [rn_format_items, wm_def, m_format_items]
    rw [ws_seq]
    simp [hz, -ws_seq]
    rw [ws_seq]
    simp [ws_for, seq_src (seq0 hd _), -ws_seq]
    rw [seq0 hd]
    simp only [wopt_some]
    refine forL_inv (fun j env S' => j ≤ b.length ∧ FJ S d (linL (b.take j)) env S') l 0 _ _ rfl ?_ ?_ ?_ (Nat.zero_le _) ?_
    · rintro j env S' -
      exact seq0 hd _
    · rintro j x env S' hx ⟨hj, rfl, a2, a3, a4, a5, rfl⟩
      have hjl : j < b.length := by
        rcases Nat.lt_or_ge j b.length with q | q
        · exact q
        · rw [List.getElem?_eq_none (by omega)] at hx
          cases hx
      have hxi : IsI [] x b[j] := IsL_get hl hx (List.getElem?_eq_getElem hjl)
      have hxs := SmL_mem hsm (List.getElem_mem hjl)
      have hhi := hI_mem (List.getElem_mem hjl)
      have htk : linL (b.take (j + 1)) = linL (b.take j) ++ linI b[j] := by
        rw [List.take_add_one, List.getElem?_eq_getElem hjl, linL_app]
        simp [linL]
      have hlt : (linL (b.take (j + 1))).length ≤ 10000 := Nat.le_trans lin_take hlen
      rw [htk] at hlt
      generalize linL (b.take j) = pr at *
      generalize b[j] = i at *
      rw [List.length_append] at hlt
      have done : ∀ L, L = pr ++ linI i → ∀ a3 a4 a5, j + 1 ≤ b.length ∧ FJ S d (linL (b.take (j + 1))) [some d, some (.ref S.length), some x, a3, a4, a5] (S ++ [row L]) := fun L hL a3 a4 a5 => by
        rw [htk, hL]
        exact ⟨by omega, rfl, _, _, _, _, rfl⟩
      have tiE : ∀ (S : Sto) (w : Str), inD S (.str w) (.tup [.str "repeat", .str "either", .str "switch"]) = some (.bl (decide (w = Str.ofString "repeat" ∨ w = Str.ofString "either" ∨ w = Str.ofString "switch"))) := fun S w => by
        have e : seqOf S (.tup [.str "repeat", .str "either", .str "switch"]) = some ([(Str.ofString "repeat" : Str), Str.ofString "either", Str.ofString "switch"].map .str) := rfl
        rw [seq_in e]
        simp
      simp only [at_gSet, wm_pure, List.set]
      rw [ws_seq]
      have plain : ∀ (z : List (Dv × Str)) (line : Str), seqOf [] x = some (z.map (·.1)) → (∀ p ∈ z, (∃ x, p = (.str x, x) ∧ x.length ≤ 1000) ∨ ∃ i : Int, 0 ≤ i ∧ i ≤ 65535 ∧ p = (.int i, txI i)) → z.length ≤ 10 → linI i = [line] → Txt.join (Str.ofString " ") (z.map (·.2)) = line →
          ∀ P : Rs Dv → Prop, Wm (eMt "list" (getv 1) (aCons (eMt "str" (eC (.str " ")) (aCons (lcF (iVal (getv 2)) [5] (gSet 5) tYes' (eArg (aCons (getv 5) aNil) (opA strD2))) aNil) (opM joinD)) aNil) (appendM) [some d, some (.ref S.length), some x, a3, a4, a5]) (S ++ [row pr]) P ↔ P (.ok .non (S ++ [row (pr ++ linI i)])) := by
        intro z line hz1 hz2 hz3 hz4 hz5 P
        rw [hz4]
        refine app1 rfl (by omega) fun Q => ?_
        rw [wm_line hz1 (fun p hp S => str2_plain (by
          rcases hz2 p hp with ⟨x, e, _⟩ | h
          · exact .inl ⟨x, e⟩
          · exact .inr h) S) hz3 (fun p hp => by
          rcases hz2 p hp with ⟨x, e, h⟩ | ⟨i, h0, h1, e⟩
          · rw [e]; exact h
          · rw [e]; exact Nat.le_trans (txI_len h0 h1) (by decide)) rfl (by simp), hz5]
      cases i with
      | odd p q => rw [SmI] at hxs; exact hxs.elim
      | number n sz o lo hi =>
        unfold IsI at hxi
        rw [SmI] at hxs
        obtain ⟨s1, s2, s3, s4, s5⟩ := hxs
        have hp := plain [(.str (kw "number"), kw "number"), (.str n, n), (.int sz, txI sz), (.str o, o), (.int lo, txI lo), (.int hi, txI hi)] _ hxi (by
          intro p hp
          simp only [List.mem_cons, List.not_mem_nil, or_false] at hp
          rcases hp with rfl | rfl | rfl | rfl | rfl | rfl
          · exact .inl ⟨_, rfl, by decide +kernel⟩
          · exact .inl ⟨_, rfl, by have := s1.1; omega⟩
          · exact .inr ⟨_, s3.1, s3.2, rfl⟩
          · exact .inl ⟨_, rfl, by have := s2.1; omega⟩
          · exact .inr ⟨_, s4.1, s4.2, rfl⟩
          · exact .inr ⟨_, s5.1, s5.2, rfl⟩) (by simp) (by rw [linI]) (by simp only [List.map_cons, List.map_nil]; rw [join_sp]; rfl)
        simp [seq_ix (seq0 hxi _), -ws_exp, -ws_seq]
        rw [ws_exp, hp]
        simp only [xk_ok, sk_nx]
        simp [seq_ix (seq0 hxi _), tiE, hz]
        exact done _ rfl _ _ _
      | text n e m =>
        unfold IsI at hxi
        rw [SmI] at hxs
        obtain ⟨s1, s2, s3⟩ := hxs
        have hp := plain [(.str (kw "text"), kw "text"), (.str n, n), (.int e, txI e), (.int m, txI m)] _ hxi (by
          intro p hp
          simp only [List.mem_cons, List.not_mem_nil, or_false] at hp
          rcases hp with rfl | rfl | rfl | rfl
          · exact .inl ⟨_, rfl, by decide +kernel⟩
          · exact .inl ⟨_, rfl, by have := s1.1; omega⟩
          · exact .inr ⟨_, s2.1, s2.2, rfl⟩
          · exact .inr ⟨_, s3.1, s3.2, rfl⟩) (by simp) (by rw [linI]) (by simp only [List.map_cons, List.map_nil]; rw [join_sp]; rfl)
        simp [seq_ix (seq0 hxi _), -ws_exp, -ws_seq]
        rw [ws_exp, hp]
        simp only [xk_ok, sk_nx]
        simp [seq_ix (seq0 hxi _), tiE, hz]
        exact done _ rfl _ _ _
      | check n m =>
        unfold IsI at hxi
        rw [SmI] at hxs
        obtain ⟨s1, s2⟩ := hxs
        have hp := plain [(.str (kw "check"), kw "check"), (.str n, n), (.int m, txI m)] _ hxi (by
          intro p hp
          simp only [List.mem_cons, List.not_mem_nil, or_false] at hp
          rcases hp with rfl | rfl | rfl
          · exact .inl ⟨_, rfl, by decide +kernel⟩
          · exact .inl ⟨_, rfl, by have := s1.1; omega⟩
          · exact .inr ⟨_, s2.1, s2.2, rfl⟩) (by simp) (by rw [linI]) (by simp only [List.map_cons, List.map_nil]; rw [join_sp]; rfl)
        simp [seq_ix (seq0 hxi _), -ws_exp, -ws_seq]
        rw [ws_exp, hp]
        simp only [xk_ok, sk_nx]
        simp [seq_ix (seq0 hxi _), tiE, hz]
        exact done _ rfl _ _ _
      | pad n m f =>
        unfold IsI at hxi
        rw [SmI] at hxs
        obtain ⟨s1, s2, s3⟩ := hxs
        have hp := plain [(.str (kw "pad"), kw "pad"), (.str n, n), (.int m, txI m), (.int f, txI f)] _ hxi (by
          intro p hp
          simp only [List.mem_cons, List.not_mem_nil, or_false] at hp
          rcases hp with rfl | rfl | rfl | rfl
          · exact .inl ⟨_, rfl, by decide +kernel⟩
          · exact .inl ⟨_, rfl, by have := s1.1; omega⟩
          · exact .inr ⟨_, s2.1, s2.2, rfl⟩
          · exact .inr ⟨_, s3.1, s3.2, rfl⟩) (by simp) (by rw [linI]) (by simp only [List.map_cons, List.map_nil]; rw [join_sp]; rfl)
        simp [seq_ix (seq0 hxi _), -ws_exp, -ws_seq]
        rw [ws_exp, hp]
        simp only [xk_ok, sk_nx]
        simp [seq_ix (seq0 hxi _), tiE, hz]
        exact done _ rfl _ _ _
      | bytes n u =>
        unfold IsI at hxi
        rw [SmI] at hxs
        obtain ⟨s1, s2⟩ := hxs
        have hp := plain [(.str (kw "bytes"), kw "bytes"), (.str n, n), (u.dv, txU u)] _ hxi (by
          intro p hp
          simp only [List.mem_cons, List.not_mem_nil, or_false] at hp
          rcases hp with rfl | rfl | rfl
          · exact .inl ⟨_, rfl, by decide +kernel⟩
          · exact .inl ⟨_, rfl, by have := s1.1; omega⟩
          · cases u with
            | num i => exact .inr ⟨i, (s2.io i rfl).1, (s2.io i rfl).2, rfl⟩
            | nam m => exact .inl ⟨m, rfl, by have := s2.lt.le; exact Nat.le_trans this (by decide)⟩) (by simp) (by rw [linI]) (by simp only [List.map_cons, List.map_nil]; rw [join_sp]; rfl)
        simp [seq_ix (seq0 hxi _), -ws_exp, -ws_seq]
        rw [ws_exp, hp]
        simp only [xk_ok, sk_nx]
        simp [seq_ix (seq0 hxi _), tiE, hz]
        exact done _ rfl _ _ _
      | rep n u c =>
        unfold IsI at hxi
        obtain ⟨db, hxi, dl, hdb, hdl'⟩ := hxi
        rw [SmI] at hxs
        obtain ⟨s1, s2, s3⟩ := hxs
        rw [hI] at hhi
        have e1 : linI (.rep n u c) = sp (sp (kw "repeat") n) (txU u) :: (linL c ++ [kw "end"]) := by rw [linI]
        rw [e1, List.length_cons, List.length_append] at hlt
        simp [seq_ix (seq0 hxi _), -ws_exp, -ws_seq, -ws_augL]
        have nl := s1.1
        have ul := s2.lt.le
        rw [ws_seq, ws_exp, app1 (t := sp (sp (kw "repeat") n) (txU u)) rfl (by omega) (fun Q => by
          have hk' := kw_len
          have he' := em_len
          simp [seq_ix (seq0 hxi _), fmt_use s2, hz, sapp_len, he', sp1_len, kw_eq]
          exact ⟨fun h => h.2.2.2.2.2, fun h => ⟨by omega, by omega, by omega, by omega, by omega, h⟩⟩)]
        simp only [xk_ok, sk_nx]
        have hih := wm_run (ih (S := S ++ [row (pr ++ [sp (sp (kw "repeat") n) (txU u)])]) (nums := nums) (d := db) (hS.app row_pure) (by omega) hdb hdl' s3 (by omega))
        rw [aug1 (r := linL c) rfl (by simp; omega) (by omega) (fun Q => by
          simp [seq_ix (seq0 hxi _), wm_eq hih])]
        simp only [sk_nx]
        simp [seq_ix (seq0 hxi _), tiE, hz, -ws_exp, -ws_seq]
        rw [ws_exp, app1 (t := kw "end") rfl (by simp; omega) (fun Q => by simp [kw])]
        simp only [xk_ok, turn_nx]
        exact done _ (by rw [e1]; simp) _ _ _
      | eit n bs =>
        unfold IsI at hxi
        obtain ⟨db, dsb, hxi, hdb, hdl'⟩ := hxi
        rw [SmI] at hxs
        obtain ⟨s1, s3⟩ := hxs
        rw [hI] at hhi
        have e1 : linI (.eit n bs) = sp (kw "either") n :: (linE bs ++ [kw "end"]) := by rw [linI]
        rw [e1, List.length_cons, List.length_append] at hlt
        simp [seq_ix (seq0 hxi _), -ws_exp, -ws_seq, -ws_augL]
        have nl := s1.1
        rw [ws_seq, ws_exp, app1 (t := sp (kw "either") n) rfl (by omega) (fun Q => by
          have hk' := kw_len
          have he' := em_len
          simp [seq_ix (seq0 hxi _), hz, sapp_len, he', sp1_len, kw_eq]
          exact ⟨fun h => h.2.2.2, fun h => ⟨by omega, by omega, by omega, h⟩⟩)]
        simp only [xk_ok, sk_nx]
        simp [ws_for, seq_ix (seq0 hxi _), seq_src (seq0 hdb _), -ws_exp, -ws_seq, -ws_augL]
        rw [seq0 hdb]
        simp only [wopt_some]
        have hbl := IsB_length hdl'
        refine forL_inv (fun m env S' => m ≤ bs.length ∧ FK S d x (pr ++ [sp (kw "either") n] ++ linE (bs.take m)) env S') dsb 0 _ _ rfl ?_ ?_ ?_ (Nat.zero_le _) ?_
        · rintro m env S' -
          exact seq0 hdb _
        · rintro m y env S' hy ⟨hm, rfl, b3, b4, b5, rfl⟩
          have hml : m < bs.length := by
            rcases Nat.lt_or_ge m bs.length with q | q
            · exact q
            · rw [List.getElem?_eq_none (by omega)] at hy
              cases hy
          obtain ⟨yl, y1, y2⟩ := IsB_get hdl' hy (List.getElem?_eq_getElem hml)
          have hys := SmB_mem s3 (List.getElem_mem hml)
          have hyh := hL_mem (List.getElem_mem hml)
          have htk2 : linE (bs.take (m + 1)) = linE (bs.take m) ++ kw "choice" :: linL bs[m] := by
            rw [List.take_add_one, List.getElem?_eq_getElem hml, linE_app]
            simp [linE]
          have hle : (linE (bs.take (m + 1))).length ≤ (linE bs).length := by
            have : linE bs = linE (bs.take (m + 1)) ++ linE (bs.drop (m + 1)) := by rw [← linE_app, List.take_append_drop]
            rw [this, List.length_append]
            omega
          rw [htk2, List.length_append, List.length_cons] at hle
          rw [htk2]
          generalize bs[m] = bl at *
          generalize linE (bs.take m) = pm at *
          obtain ⟨LL, hLL⟩ : ∃ LL, LL = pr ++ [sp (kw "either") n] ++ pm := ⟨_, rfl⟩
          have hLLl : LL.length ≤ 20000 := by rw [hLL]; simp; omega
          rw [← hLL]
          have hih := wm_run (ih (S := S ++ [row LL]) (nums := nums) (d := y) (hS.app row_pure) (by omega) y1 y2 hys (by omega))
          have hadd : ∀ S, addD S (.lst [.str (kw "choice")]) (.lst ((linL bl).map .str)) = some (.lst ((kw "choice" :: linL bl).map .str)) := fun S => by
            rw [add_own (l := [.str (kw "choice")]) rfl rfl (by simp; omega)]
            rfl
          simp only [at_gSet, wm_pure, List.set]
          rw [aug1 (r := kw "choice" :: linL bl) rfl (by omega) (by simp; omega) (fun Q => by
            have hkc : Str.ofString "choice" = kw "choice" := rfl
            simp only [at_eOp, at_eArg, at_aCons, at_aNil, wm_bind, wm_eC, bk_ok, wm_mpure, wm_pure, wm_mkL, hkc]
            simp [wm_eq hih, hadd, hz])]
          exact ⟨by omega, by rw [hLL]; simp, _, _, _, rfl⟩
        · rintro env S' ⟨hm, rfl, b3, b4, b5, rfl⟩
          rw [hbl, List.take_length]
          simp only [sk_nx]
          simp [seq_ix (seq0 hxi _), tiE, hz, -ws_exp, -ws_seq]
          have hr : row (pr ++ sp (kw "either") n :: linE bs) = row (pr ++ [sp (kw "either") n] ++ linE bs) := by simp
          rw [hr]
          rw [ws_exp, app1 (t := kw "end") rfl (by simp; omega) (fun Q => by simp [kw])]
          simp only [xk_ok, turn_nx]
          exact done _ (by rw [e1]; simp) _ _ _
        · refine ⟨Nat.zero_le _, ?_, _, _, _, rfl⟩
          simp [linE]
      | swi n w vs bs =>
        unfold IsI at hxi
        obtain ⟨db, cs, dsb, hxi, hdb, hcs, hdl'⟩ := hxi
        obtain ⟨zz, rfl, rfl, rfl⟩ := CasesR_zip hcs
        rw [SmI] at hxs
        obtain ⟨s1, s2, s4, s5, s3⟩ := hxs
        rw [hI] at hhi
        have e1 : linI (.swi n w (zz.map (·.1)) bs) = sp (sp (kw "switch") n) w :: (linS (zz.map (·.1)) bs ++ [kw "end"]) := by rw [linI]
        rw [e1, List.length_cons, List.length_append] at hlt
        simp [seq_ix (seq0 hxi _), -ws_exp, -ws_seq, -ws_augL]
        have nl := s1.1
        have wl := s2.1
        rw [ws_seq, ws_exp, app1 (t := sp (sp (kw "switch") n) w) rfl (by omega) (fun Q => by
          have hk' := kw_len
          have he' := em_len
          simp [seq_ix (seq0 hxi _), hz, sapp_len, he', sp1_len, kw_eq]
          refine ⟨fun h => ?_, fun h => ?_⟩
          · exact h.2.2.2.2.2.2
          · exact ⟨by omega, by omega, by omega, by omega, by omega, by omega, h⟩)]
        simp only [xk_ok, sk_nx]
        simp [ws_for, seq_ix (seq0 hxi _), seq_src (seq0 hdb _), -ws_exp, -ws_seq, -ws_augL]
        rw [seq0 hdb]
        simp only [wopt_some]
        have hbl := IsB_length hdl'
        have hvl : zz.length = bs.length := by simpa using hbl
        refine forL_inv (fun m env S' => m ≤ bs.length ∧ FK S d x (pr ++ [sp (sp (kw "switch") n) w] ++ linS ((zz.map (·.1)).take m) (bs.take m)) env S') _ 0 _ _ rfl ?_ ?_ ?_ (Nat.zero_le _) ?_
        · rintro m env S' -
          exact seq0 hdb _
        · rintro m y env S' hy ⟨hm, rfl, b3, b4, b5, rfl⟩
          obtain ⟨pz, hpz, hpm, rfl⟩ := map_at hy
          have hml : m < bs.length := by
            have := (List.getElem?_eq_some_iff.mp hpz).1
            omega
          have hyd : (zz.map (·.2))[m]? = some pz.2 := by rw [List.getElem?_map, hpz]; rfl
          have hyv : (zz.map (·.1))[m]? = some pz.1 := by rw [List.getElem?_map, hpz]; rfl
          obtain ⟨yl, y1, y2⟩ := IsB_get hdl' hyd (List.getElem?_eq_getElem hml)
          have hys := SmB_mem s3 (List.getElem_mem hml)
          have hyh := hL_mem (List.getElem_mem hml)
          have hv := s4 pz.1 (List.mem_map_of_mem hpm)
          have htk2 : linS ((zz.map (·.1)).take (m + 1)) (bs.take (m + 1)) = linS ((zz.map (·.1)).take m) (bs.take m) ++ sp (kw "case") (txI pz.1) :: linL bs[m] := by
            rw [List.take_add_one, List.take_add_one, List.getElem?_eq_getElem hml, hyv]
            show linS (_ ++ [pz.1]) (_ ++ [bs[m]]) = _
            rw [linS_app (by simp; omega)]
            simp [linS]
          have hle : (linS ((zz.map (·.1)).take (m + 1)) (bs.take (m + 1))).length ≤ (linS (zz.map (·.1)) bs).length := by
            have h1 : linS (zz.map (·.1)) bs = linS ((zz.map (·.1)).take (m + 1) ++ (zz.map (·.1)).drop (m + 1)) (bs.take (m + 1) ++ bs.drop (m + 1)) := by rw [List.take_append_drop, List.take_append_drop]
            rw [h1, linS_app (by simp; omega), List.length_append]
            omega
          rw [htk2, List.length_append, List.length_cons] at hle
          rw [htk2]
          generalize bs[m] = bl at *
          generalize linS ((zz.map (·.1)).take m) (bs.take m) = pm at *
          obtain ⟨LL, hLL⟩ : ∃ LL, LL = pr ++ [sp (sp (kw "switch") n) w] ++ pm := ⟨_, rfl⟩
          have hLLl : LL.length ≤ 20000 := by rw [hLL]; simp; omega
          rw [← hLL]
          have hih := wm_run (ih (S := S ++ [row LL]) (nums := nums) (d := pz.2) (hS.app row_pure) (by omega) y1 y2 hys (by omega))
          have hadd : ∀ S, addD S (.lst [.str (sp (kw "case") (txI pz.1))]) (.lst ((linL bl).map .str)) = some (.lst ((sp (kw "case") (txI pz.1) :: linL bl).map .str)) := fun S => by
            rw [add_own (l := [.str (sp (kw "case") (txI pz.1))]) rfl rfl (by simp; omega)]
            rfl
          have hfm : ∀ (S : Sto) (P : Rs Dv → Prop), Wm (fmtM (.int pz.1)) S P ↔ P (.ok (.str (txI pz.1)) S) := fun S P => by
            rw [wm_fmtI]
            exact ⟨fun h => h.2, fun h => ⟨log_ok hv.1 hv.2, h⟩⟩
          have htl := txI_len hv.1 hv.2
          simp only [at_gTupM, List.length_cons, List.length_nil, Nat.zero_add, Nat.reduceAdd, if_true, at_gsCons, at_gsNil, at_gSet, wm_bind, wm_pure, bk_ok, List.set]
          rw [aug1 (r := sp (kw "case") (txI pz.1) :: linL bl) rfl (by omega) (by simp; omega) (fun Q => by
            have hk' := kw_len
            have he' := em_len
            have hsp : kw "case" ++ Str.ofString " " ++ txI pz.1 = sp (kw "case") (txI pz.1) := rfl
            simp [hfm, hz, sapp_len, he', sp1_len, kw_eq, hsp, wm_eq hih, hadd]
            have hl2 : (sp (kw "case") (txI pz.1)).length ≤ 16777216 := by
              unfold sp
              rw [sapp_len, sapp_len, sp1_len]
              omega
            exact ⟨fun h => h.2.2, fun h => ⟨by omega, hl2, h⟩⟩)]
          exact ⟨by omega, by rw [hLL]; simp, _, _, _, rfl⟩
        · rintro env S' ⟨hm, rfl, b3, b4, b5, rfl⟩
          have hzl : (zz.map fun p => Dv.tup [.int p.1, p.2]).length = zz.length := by simp
          rw [hzl]
          have t1 : (zz.map (·.1)).take zz.length = zz.map (·.1) := by
            rw [List.take_of_length_le (by simp)]
          have t2 : bs.take zz.length = bs := by rw [hvl, List.take_length]
          rw [t1, t2]
          simp only [sk_nx]
          simp [seq_ix (seq0 hxi _), tiE, hz, -ws_exp, -ws_seq]
          have hr : row (pr ++ sp (sp (kw "switch") n) w :: linS (zz.map (·.1)) bs) = row (pr ++ [sp (sp (kw "switch") n) w] ++ linS (zz.map (·.1)) bs) := by simp
          rw [hr]
          rw [ws_exp, app1 (t := kw "end") rfl (by simp; omega) (fun Q => by simp [kw])]
          simp only [xk_ok, turn_nx]
          exact done _ (by rw [e1]; simp) _ _ _
        · refine ⟨Nat.zero_le _, ?_, _, _, _, rfl⟩
          simp [linS]
    · rintro env S' ⟨hj, rfl, a2, a3, a4, a5, rfl⟩
      rw [hdl, List.take_length]
      simp [row]
      exact leaveD_new belows_strs hS
    · exact ⟨Nat.zero_le _, rfl, none, none, none, none, rfl⟩
end L05

namespace L05
open PySem PySem.Spec PyProof.Rows L2 ML

/-- the lines L stand at c, above S -/
structure LS (S : Sto) (L : List Str) (c : Nat) (S' : Sto) : Prop where
  ex : ∃ Y, S' = S ++ Y ∧ Pure Y
  le : S.length ≤ c
  at_ : S'[c]? = some (.lst (L.map .str))
theorem LS.lt {S : Sto} {L : List Str} {c : Nat} {S' : Sto} (h : LS S L c S') : c < S'.length := by
  rcases Nat.lt_or_ge c S'.length with q | q
  · exact q
  · have := h.at_
    rw [List.getElem?_eq_none q] at this
    cases this
theorem LS.app {S : Sto} {L : List Str} {c : Nat} {S' : Sto} (h : LS S L c S') (t : Str) : LS S (L ++ [t]) c (S'.set c (.lst (L.map .str ++ [.str t]))) := by
  have hlt := h.lt
  obtain ⟨Y, rfl, hY⟩ := h.ex
  have e : L.map Dv.str ++ [.str t] = (L ++ [t]).map .str := by simp
  refine ⟨⟨_, List.set_append_right _ _ h.le, ?_⟩, h.le, ?_⟩
  · rw [e]
    exact pure_set hY belows_strs
  · rw [List.getElem?_set_self hlt, e]
theorem LS.new {S : Sto} {L : List Str} {c : Nat} {S' : Sto} (h : LS S L c S') (L2 : List Str) : LS S L2 S'.length (S' ++ [.lst (L2.map .str)]) := by
  have hlt := h.lt
  have hle := h.le
  obtain ⟨Y, rfl, hY⟩ := h.ex
  exact ⟨⟨Y ++ [.lst (L2.map .str)], by rw [List.append_assoc], pure_app hY (pure_lst belows_strs)⟩, by omega, by simp⟩
theorem LS.cl {S : Sto} {L : List Str} {c : Nat} {S' : Sto} (h : LS S L c S') (hS : Cl S) : Cl S' := by
  obtain ⟨Y, rfl, hY⟩ := h.ex
  exact hS.app hY
def LJ (S : Sto) (d : Dv) (L : List Str) (env : Env') (S' : Sto) : Prop := ∃ c a2 a3 a4 a5 a6, LS S L c S' ∧ env = [some d, some (.ref c), a2, a3, a4, a5, a6]
def LK (S : Sto) (d x : Dv) (w : Str) (L : List Str) (env : Env') (S' : Sto) : Prop := ∃ c a4 a5 a6, LS S L c S' ∧ env = [some d, some (.ref c), some x, some (.str w), a4, a5, a6]
theorem appL {S S' : Sto} {L : List Str} {c : Nat} {f : Env' → M Dv} {env : Env'} {t : Str} {P : Rs Dv → Prop} (h : LS S L c S') (hl : L.length ≤ 100000) (he : env[1]? = some (some (.ref c))) (hf : ∀ Q : Rs Dv → Prop, Wm (f env) S' Q ↔ Q (.ok (.str t) S')) : Wm (eMt "list" (getv 1) (aCons f aNil) appendM env) S' P ↔ P (.ok .non (S'.set c (.lst (L.map .str ++ [.str t])))) := by
  have hz := szl
  simp only [at_eMt, wm_bind, wm_getv, he, wopt_some, bk_ok, wm_chkT, ty_ref, h.at_, cellLst_lst, Option.isSome_some, true_and, at_aCons, at_aNil, hf, wm_mpure, wm_pure, wm_append, cell_ref, Option.map_some, List.length_map]
  constructor
  · exact fun h => h.2
  · exact fun h => ⟨by omega, h⟩
theorem seq0_cases {x : Dv} {l : List Dv} (h : seqOf [] x = some l) : x = .tup l ∨ x = .lst l ∨ x = .scr l := by
  cases x with
  | tup l' => cases h; exact .inl rfl
  | lst l' => cases h; exact .inr (.inl rfl)
  | scr l' => cases h; exact .inr (.inr rfl)
  | ref n =>
    have h : listOf [] (.ref n) = some l := h
    rw [list_ref] at h
    cases h
  | _ => cases h
/-- item[2:] -/
theorem sl2 {x : Dv} {l : List Dv} (h : seqOf [] x = some l) (S : Sto) : ∃ y, seqOf [] y = some (l.drop 2) ∧ ∀ P : Rs Dv → Prop, Wm (slD x (some 2) none) S P ↔ P (.ok y S) := by
  have e : ∀ l : List Dv, cutG l (some (2 : Int)) none = l.drop 2 := fun l => cutG_tail (n := 2)
  rcases seq0_cases h with rfl | rfl | rfl
  · exact ⟨.tup (l.drop 2), rfl, fun P => by rw [wm_slT, e]⟩
  · exact ⟨.lst (l.drop 2), rfl, fun P => by rw [wm_slL, e]⟩
  · exact ⟨.lst (l.drop 2), rfl, fun P => by rw [wm_slScr, e]⟩
theorem use_str2 {u : Use} (h : UseS u) (S : Sto) : strD2 S [u.dv] = some (.str (txU u)) := by
  cases u with
  | num i => exact str2_plain (p := (.int i, txI i)) (.inr ⟨i, (h.io i rfl).1, (h.io i rfl).2, rfl⟩) S
  | nam n => rfl
def WJ (d x : Dv) (c : Nat) (T0 : Sto) (w0 : Str) (ts : List Str) (a4 a5 : Option Dv) (m : Nat) (env : Env') (T : Sto) : Prop := T = T0 ∧ m ≤ ts.length ∧ ∃ (w : Str) (a6 : Option Dv), w = (ts.take m).foldl sp w0 ∧ w.length ≤ 200 + 101 * m ∧ env = [some d, some (.ref c), some x, some (.str w), a4, a5, a6]
def LQ (S : Sto) (d x : Dv) (c : Nat) (L : List Str) (a4 a5 : Option Dv) (o : So) : Prop := ∃ (S2 : Sto) (a3 a6 : Option Dv), o = .nx [some d, some (.ref c), some x, a3, a4, a5, a6] S2 ∧ LS S L c S2
theorem wm_llines : ∀ (k : Nat) {S : Sto} {b : List It} {d : Dv} {l : List Dv}, Cl S → hL b + 1 ≤ k → seqOf [] d = some l → IsL [] l b → SmL b → (linL b).length ≤ 10000 →
    Wm (run k fn__law_lines [d]) S fun r => r = .ok (.lst ((linL b).map .str)) S := by
  intro k
  induction k with
  | zero => intro S b d l hS hk; omega
  | succ k ih =>
    intro S b d l hS hk hd hl hsm hlen
    have hz := szl
    have hdl := IsL_length hl
    rw [rn__law_lines, wm_def, m__law_lines]
    rw [ws_seq]
    simp [hz, -ws_seq]
    rw [ws_seq]
    simp [ws_for, seq_src (seq0 hd _), -ws_seq]
    rw [seq0 hd]
    simp only [wopt_some]
    refine forL_inv (fun j env S' => j ≤ b.length ∧ LJ S d (linL (b.take j)) env S') l 0 _ _ rfl ?_ ?_ ?_ (Nat.zero_le _) ?_
    · rintro j env S' -
      exact seq0 hd _
    · rintro j x env S' hx ⟨hj, c, a2, a3, a4, a5, a6, hls, rfl⟩
      have hjl : j < b.length := by
        rcases Nat.lt_or_ge j b.length with q | q
        · exact q
        · rw [List.getElem?_eq_none (by omega)] at hx
          cases hx
      have hxi : IsI [] x b[j] := IsL_get hl hx (List.getElem?_eq_getElem hjl)
      have hxs := SmL_mem hsm (List.getElem_mem hjl)
      have hhi := hI_mem (List.getElem_mem hjl)
      have htk : linL (b.take (j + 1)) = linL (b.take j) ++ linI b[j] := by
        rw [List.take_add_one, List.getElem?_eq_getElem hjl, linL_app]
        simp [linL]
      have hlt : (linL (b.take (j + 1))).length ≤ 10000 := Nat.le_trans lin_take hlen
      rw [htk] at hlt
      generalize linL (b.take j) = pr at *
      generalize b[j] = i at *
      rw [List.length_append] at hlt
      have done : ∀ L S2 c a3 a4 a5 a6, L = pr ++ linI i → LS S L c S2 → j + 1 ≤ b.length ∧ LJ S d (linL (b.take (j + 1))) [some d, some (.ref c), some x, a3, a4, a5, a6] S2 := fun L S2 c a3 a4 a5 a6 hL h => by
        rw [htk, ← hL]
        exact ⟨by omega, c, _, _, _, _, _, h, rfl⟩
      have hcat := hls.cl hS
      simp only [at_gSet, wm_pure, List.set]
      rw [ws_seq]
      -- a plain item's words
      have plain : ∀ (k0 n0 : Str) (z : List (Dv × Str)), seqOf [] x = some (.str k0 :: .str n0 :: z.map (·.1)) → k0.length ≤ 10 → n0.length ≤ 100 → (∀ p ∈ z, (∃ x, p = (.str x, x) ∧ x.length ≤ 100) ∨ ∃ i : Int, 0 ≤ i ∧ i ≤ 65535 ∧ p = (.int i, txI i)) → z.length ≤ 10 → linI i = [(z.map (·.2)).foldl sp (sp k0 n0)] →
          ∀ a4 a5 a6, Ws (sSeq (sFor (iVal (eSl slD (getv 2) (oSome (eC (.int 2))) oNone)) (gSet 6) (sSet 3 (eOp addD (eOp addD (getv 3) (eC (.str " "))) (eArg (aCons (getv 6) aNil) (opA strD2))))) (sExp (eMt "list" (getv 1) (aCons (getv 3) aNil) (appendM)))) [some d, some (.ref c), some x, some (.str (sp k0 n0)), a4, a5, a6] S' (LQ S d x c (pr ++ linI i) a4 a5) := by
        intro k0 n0 z hx0 hk0 hn0 hz0 hz10 hlin a4 a5 a6
        obtain ⟨y, hy, hsl⟩ := sl2 hx0 S'
        simp only [List.drop_succ_cons, List.drop_zero] at hy
        rw [ws_seq]
        simp [ws_for, hsl, seq_src (seq0 hy S')]
        rw [seq0 hy]
        simp only [wopt_some]
        refine forL_inv (WJ d x c S' (sp k0 n0) (z.map (·.2)) a4 a5) _ 0 _ _ rfl ?_ ?_ ?_ (Nat.zero_le _) ?_
        · rintro m env T ⟨rfl, -⟩
          exact seq0 hy _
        · rintro m q env T hq ⟨rfl, hm, w, b6, hw, hwl, rfl⟩
          obtain ⟨p, hp, hpm, rfl⟩ := map_at hq
          have hpl : p.2.length ≤ 100 := by
            rcases hz0 p hpm with ⟨x, e, h⟩ | ⟨i, h0, h1, e⟩
            · rw [e]; exact h
            · rw [e]; exact Nat.le_trans (txI_len h0 h1) (by decide)
          have hst := str2_plain (p := p) (by
            rcases hz0 p hpm with ⟨x, e, h⟩ | h
            · exact .inl ⟨x, e⟩
            · exact .inr h) T
          have hml : m < z.length := (List.getElem?_eq_some_iff.mp hp).1
          have hfold : ((z.map (·.2)).take (m + 1)).foldl sp (sp k0 n0) = w ++ Str.ofString " " ++ p.2 := by
            rw [List.take_add_one, List.foldl_append, ← hw, List.getElem?_map, hp]
            rfl
          have hlen2 : (w ++ Str.ofString " " ++ p.2).length ≤ 200 + 101 * (m + 1) := by
            rw [sapp_len, sapp_len, sp1_len]
            omega
          have hzm : m + 1 ≤ (z.map (·.2)).length := by simp; omega
          simp [hst, sp1_len, sapp_len, hz]
          exact ⟨by omega, by omega, rfl, hzm, _, _, hfold.symm, hlen2, rfl⟩
        · rintro env T ⟨rfl, hm, w, b6, hw, hwl, rfl⟩
          have e1 : (z.map (·.1)).length = z.length := by simp
          rw [e1] at hw hwl
          have e2 : (z.map (·.2)).take z.length = z.map (·.2) := List.take_of_length_le (by simp)
          rw [e2] at hw
          simp only [sk_nx]
          rw [ws_exp, appL (t := w) hls (by omega) rfl (fun Q => by simp)]
          simp only [xk_ok]
          refine ⟨_, some (.str w), b6, rfl, ?_⟩
          rw [hlin, ← hw]
          exact hls.app w
        · refine ⟨rfl, Nat.zero_le _, _, a6, by simp, ?_, rfl⟩
          unfold sp
          rw [sapp_len, sapp_len, sp1_len]
          omega
      have fin : ∀ o, LQ S d x c (pr ++ linI i) a4 a5 o → ∀ R : So → Prop, turn (fun env S' => j + 1 ≤ b.length ∧ LJ S d (linL (b.take (j + 1))) env S') R o := by
        rintro o ⟨S2, a3, a6, rfl, h⟩ R
        exact done _ _ _ _ _ _ _ rfl h
      have wl : (Str.ofString "number").length = 6 ∧ (Str.ofString "text").length = 4 ∧ (Str.ofString "check").length = 5 ∧ (Str.ofString "pad").length = 3 ∧ (Str.ofString "bytes").length = 5 ∧ (Str.ofString "repeat").length = 6 ∧ (Str.ofString "either").length = 6 ∧ (Str.ofString "switch").length = 6 := by decide +kernel
      cases i with
      | odd p q => rw [SmI] at hxs; exact hxs.elim
      | number n sz o lo hi =>
        unfold IsI at hxi
        rw [SmI] at hxs
        obtain ⟨s1, s2, s3, s4, s5⟩ := hxs
        have hp := plain (kw "number") n [(.int sz, txI sz), (.str o, o), (.int lo, txI lo), (.int hi, txI hi)] hxi (by decide +kernel) s1.1 (by
          intro p hp
          simp only [List.mem_cons, List.not_mem_nil, or_false] at hp
          rcases hp with rfl | rfl | rfl | rfl
          · exact .inr ⟨_, s3.1, s3.2, rfl⟩
          · exact .inl ⟨_, rfl, s2.1⟩
          · exact .inr ⟨_, s4.1, s4.2, rfl⟩
          · exact .inr ⟨_, s5.1, s5.2, rfl⟩) (by simp) (by rw [linI]; rfl)
        have nl := s1.1
        simp [seq_ix (seq0 hxi S'), hz, sapp_len, sp1_len, wl, show n.length + 20 ≤ 16777216 by omega, -ws_seq, -ws_for]
        refine ⟨by omega, ?_⟩
        exact (hp _ _ _).imp fun o h => fin o h _
      | text n e m =>
        unfold IsI at hxi
        rw [SmI] at hxs
        obtain ⟨s1, s2, s3⟩ := hxs
        have hp := plain (kw "text") n [(.int e, txI e), (.int m, txI m)] hxi (by decide +kernel) s1.1 (by
          intro p hp
          simp only [List.mem_cons, List.not_mem_nil, or_false] at hp
          rcases hp with rfl | rfl
          · exact .inr ⟨_, s2.1, s2.2, rfl⟩
          · exact .inr ⟨_, s3.1, s3.2, rfl⟩) (by simp) (by rw [linI]; rfl)
        have nl := s1.1
        simp [seq_ix (seq0 hxi S'), hz, sapp_len, sp1_len, wl, show n.length + 20 ≤ 16777216 by omega, -ws_seq, -ws_for]
        refine ⟨by omega, ?_⟩
        exact (hp _ _ _).imp fun o h => fin o h _
      | check n m =>
        unfold IsI at hxi
        rw [SmI] at hxs
        obtain ⟨s1, s2⟩ := hxs
        have hp := plain (kw "check") n [(.int m, txI m)] hxi (by decide +kernel) s1.1 (by
          intro p hp
          simp only [List.mem_cons, List.not_mem_nil, or_false] at hp
          rcases hp with rfl
          · exact .inr ⟨_, s2.1, s2.2, rfl⟩) (by simp) (by rw [linI]; rfl)
        have nl := s1.1
        simp [seq_ix (seq0 hxi S'), hz, sapp_len, sp1_len, wl, show n.length + 20 ≤ 16777216 by omega, -ws_seq, -ws_for]
        refine ⟨by omega, ?_⟩
        exact (hp _ _ _).imp fun o h => fin o h _
      | pad n m f =>
        unfold IsI at hxi
        rw [SmI] at hxs
        obtain ⟨s1, s2, s3⟩ := hxs
        have hp := plain (kw "pad") n [(.int m, txI m), (.int f, txI f)] hxi (by decide +kernel) s1.1 (by
          intro p hp
          simp only [List.mem_cons, List.not_mem_nil, or_false] at hp
          rcases hp with rfl | rfl
          · exact .inr ⟨_, s2.1, s2.2, rfl⟩
          · exact .inr ⟨_, s3.1, s3.2, rfl⟩) (by simp) (by rw [linI]; rfl)
        have nl := s1.1
        simp [seq_ix (seq0 hxi S'), hz, sapp_len, sp1_len, wl, show n.length + 20 ≤ 16777216 by omega, -ws_seq, -ws_for]
        refine ⟨by omega, ?_⟩
        exact (hp _ _ _).imp fun o h => fin o h _
      | bytes n u =>
        unfold IsI at hxi
        rw [SmI] at hxs
        obtain ⟨s1, s2⟩ := hxs
        have hp := plain (kw "bytes") n [(u.dv, txU u)] hxi (by decide +kernel) s1.1 (by
          intro p hp
          simp only [List.mem_cons, List.not_mem_nil, or_false] at hp
          rcases hp with rfl
          · exact (by
            cases u with
            | num i => exact .inr ⟨i, (s2.io i rfl).1, (s2.io i rfl).2, rfl⟩
            | nam m => exact .inl ⟨m, rfl, s2.lt.le⟩)) (by simp) (by rw [linI]; rfl)
        have nl := s1.1
        simp [seq_ix (seq0 hxi S'), hz, sapp_len, sp1_len, wl, show n.length + 20 ≤ 16777216 by omega, -ws_seq, -ws_for]
        refine ⟨by omega, ?_⟩
        exact (hp _ _ _).imp fun o h => fin o h _
      | rep n u b2 =>
        unfold IsI at hxi
        obtain ⟨db, hxi, dl, hdb, hdl'⟩ := hxi
        rw [SmI] at hxs
        obtain ⟨s1, s2, s3⟩ := hxs
        rw [hI] at hhi
        have e1 : linI (.rep n u b2) = sp (sp (kw "repeat") n) (txU u) :: (linL b2 ++ [kw "end"]) := by rw [linI]
        rw [e1, List.length_cons, List.length_append] at hlt
        have nl := s1.1
        have ul := s2.lt.le
        have hih := wm_run (ih (S := S') (d := db) hcat (by omega) hdb hdl' s3 (by omega))
        have ho1 : ownOf S' (.ref c) = some (pr.map .str) := by rw [own_ref, hls.at_]; rfl
        have hw : Str.ofString "repeat" ++ Str.ofString " " ++ n ++ Str.ofString " " ++ txU u = sp (sp (kw "repeat") n) (txU u) := rfl
        have hadd1 : addD S' (.ref c) (.lst [.str (sp (sp (kw "repeat") n) (txU u))]) = some (.lst ((pr ++ [sp (sp (kw "repeat") n) (txU u)]).map .str)) := by
          rw [add_own ho1 (r := [.str (sp (sp (kw "repeat") n) (txU u))]) rfl (by simp; omega)]
          simp
        have hadd2 : addD S' (.lst ((pr ++ [sp (sp (kw "repeat") n) (txU u)]).map .str)) (.lst ((linL b2).map .str)) = some (.lst ((pr ++ [sp (sp (kw "repeat") n) (txU u)] ++ linL b2).map .str)) := by
          rw [add_own rfl rfl (by simp; omega)]
          simp
        have hnew := hls.new (pr ++ [sp (sp (kw "repeat") n) (txU u)] ++ linL b2 ++ [kw "end"])
        have hrow : ∀ A B : List Str, (A.map Dv.str ++ B.map Dv.str) = (A ++ B).map .str := fun A B => by simp
        rw [ws_set]
        simp [seq_ix (seq0 hxi S'), hz, sapp_len, sp1_len, wl, -ws_seq, -ws_for]
        refine ⟨by omega, ?_⟩
        simp [seq_ix (seq0 hxi S'), hz, sapp_len, sp1_len, wl, use_str2 s2, hw, hadd1]
        refine ⟨by omega, by omega, ?_⟩
        rw [wm_eq hih]
        simp [hz]
        refine ⟨by omega, by omega, ?_⟩
        have key := done (pr ++ [sp (sp (kw "repeat") n) (txU u)] ++ linL b2 ++ [kw "end"]) _ _ (some (.str (sp (kw "repeat") n))) a4 a5 a6 (by rw [e1]; simp) hnew
        simpa [kw, sp] using key
      | eit n bs =>
        unfold IsI at hxi
        obtain ⟨db, dsb, hxi, hdb, hdl'⟩ := hxi
        rw [SmI] at hxs
        obtain ⟨s1, s3⟩ := hxs
        rw [hI] at hhi
        have e1 : linI (.eit n bs) = sp (kw "either") n :: (linE bs ++ [kw "end"]) := by rw [linI]
        rw [e1, List.length_cons, List.length_append] at hlt
        have nl := s1.1
        rw [ws_set]
        simp [seq_ix (seq0 hxi S'), hz, sapp_len, sp1_len, wl, -ws_seq, -ws_for, -ws_exp]
        refine ⟨by omega, ?_⟩
        rw [ws_seq, ws_exp, appL (t := sp (kw "either") n) hls (by omega) rfl (fun Q => by simp [sp, kw])]
        simp only [xk_ok, sk_nx]
        have hls2 := hls.app (sp (kw "either") n)
        generalize S'.set c (.lst (pr.map Dv.str ++ [.str (sp (kw "either") n)])) = S2 at *
        rw [ws_seq]
        simp [ws_for, seq_ix (seq0 hxi _), seq_src (seq0 hdb _), -ws_exp, -ws_seq]
        rw [seq0 hdb]
        simp only [wopt_some]
        have hbl := IsB_length hdl'
        refine forL_inv (fun m env S' => m ≤ bs.length ∧ LK S d x (Str.ofString "either" ++ Str.ofString " " ++ n) (pr ++ [sp (kw "either") n] ++ linE (bs.take m)) env S') dsb 0 _ _ rfl ?_ ?_ ?_ (Nat.zero_le _) ?_
        · rintro m env S' -
          exact seq0 hdb _
        · rintro m y env S3 hy ⟨hm, c3, b4, b5, b6, hls3, rfl⟩
          have hml : m < bs.length := by
            rcases Nat.lt_or_ge m bs.length with q | q
            · exact q
            · rw [List.getElem?_eq_none (by omega)] at hy
              cases hy
          obtain ⟨yl, y1, y2⟩ := IsB_get hdl' hy (List.getElem?_eq_getElem hml)
          have hys := SmB_mem s3 (List.getElem_mem hml)
          have hyh := hL_mem (List.getElem_mem hml)
          have htk2 : linE (bs.take (m + 1)) = linE (bs.take m) ++ kw "choice" :: linL bs[m] := by
            rw [List.take_add_one, List.getElem?_eq_getElem hml, linE_app]
            simp [linE]
          have hle : (linE (bs.take (m + 1))).length ≤ (linE bs).length := by
            have : linE bs = linE (bs.take (m + 1)) ++ linE (bs.drop (m + 1)) := by rw [← linE_app, List.take_append_drop]
            rw [this, List.length_append]
            omega
          rw [htk2, List.length_append, List.length_cons] at hle
          rw [htk2]
          generalize bs[m] = bl at *
          generalize linE (bs.take m) = pm at *
          obtain ⟨LL, hLL⟩ : ∃ LL, LL = pr ++ [sp (kw "either") n] ++ pm := ⟨_, rfl⟩
          have hLLl : LL.length ≤ 20000 := by rw [hLL]; simp; omega
          rw [← hLL] at hls3
          have hih := wm_run (ih (S := S3) (d := y) (hls3.cl hS) (by omega) y1 y2 hys (by omega))
          have ho1 : ownOf S3 (.ref c3) = some (LL.map .str) := by rw [own_ref, hls3.at_]; rfl
          have hadd : addD S3 (.ref c3) (.lst [.str (kw "choice")]) = some (.lst ((LL ++ [kw "choice"]).map .str)) := by
            rw [add_own ho1 (r := [.str (kw "choice")]) rfl (by simp; omega)]
            simp
          have hkc : Str.ofString "choice" = kw "choice" := rfl
          have hnew := hls3.new (LL ++ [kw "choice"] ++ linL bl)
          have key : m + 1 ≤ bs.length ∧ LK S d x (Str.ofString "either" ++ Str.ofString " " ++ n) (pr ++ [sp (kw "either") n] ++ (pm ++ kw "choice" :: linL bl)) [some d, some (.ref S3.length), some x, some (.str (Str.ofString "either" ++ Str.ofString " " ++ n)), some y, b5, b6] (S3 ++ [.lst ((LL ++ [kw "choice"] ++ linL bl).map .str)]) := by
            refine ⟨by omega, _, _, _, _, ?_, rfl⟩
            have e : pr ++ [sp (kw "either") n] ++ (pm ++ kw "choice" :: linL bl) = LL ++ [kw "choice"] ++ linL bl := by rw [hLL]; simp
            rw [e]
            exact hnew
          simp only [at_gSet, wm_pure, List.set]
          rw [ws_set]
          simp [hkc, hadd, hz]
          rw [wm_eq hih]
          simp [hz]
          refine ⟨by omega, ?_⟩
          simpa using key
        · rintro env S3 ⟨hm, c3, b4, b5, b6, hls3, rfl⟩
          rw [hbl, List.take_length] at hls3
          simp only [sk_nx]
          rw [ws_exp, appL (t := kw "end") hls3 (by simp; omega) rfl (fun Q => by simp [kw])]
          simp only [xk_ok, turn_nx]
          exact done _ _ _ _ _ _ _ (by rw [e1]; simp) (hls3.app (kw "end"))
        · refine ⟨Nat.zero_le _, c, _, _, _, ?_, rfl⟩
          simpa [linE] using hls2
      | swi n w vs bs =>
        unfold IsI at hxi
        obtain ⟨db, cs, dsb, hxi, hdb, hcs, hdl'⟩ := hxi
        obtain ⟨zz, rfl, rfl, rfl⟩ := CasesR_zip hcs
        rw [SmI] at hxs
        obtain ⟨s1, s2, s4, s5, s3⟩ := hxs
        rw [hI] at hhi
        have e1 : linI (.swi n w (zz.map (·.1)) bs) = sp (sp (kw "switch") n) w :: (linS (zz.map (·.1)) bs ++ [kw "end"]) := by rw [linI]
        rw [e1, List.length_cons, List.length_append] at hlt
        have nl := s1.1
        have wl2 := s2.1
        rw [ws_set]
        simp [seq_ix (seq0 hxi S'), hz, sapp_len, sp1_len, wl, -ws_seq, -ws_for, -ws_exp]
        refine ⟨by omega, ?_⟩
        rw [ws_seq, ws_exp, appL (t := sp (sp (kw "switch") n) w) hls (by omega) rfl (fun Q => by
          have hw : Str.ofString "switch" ++ Str.ofString " " ++ n ++ Str.ofString " " ++ w = sp (sp (kw "switch") n) w := rfl
          simp [seq_ix (seq0 hxi S'), hz, sapp_len, sp1_len, wl, hw]
          exact ⟨fun h => h.2.2, fun h => ⟨by omega, by omega, h⟩⟩)]
        simp only [xk_ok, sk_nx]
        have hls2 := hls.app (sp (sp (kw "switch") n) w)
        generalize S'.set c (.lst (pr.map Dv.str ++ [.str (sp (sp (kw "switch") n) w)])) = S2 at *
        rw [ws_seq]
        simp [ws_for, seq_ix (seq0 hxi _), seq_src (seq0 hdb _), -ws_exp, -ws_seq]
        rw [seq0 hdb]
        simp only [wopt_some]
        have hbl := IsB_length hdl'
        have hvl : zz.length = bs.length := by simpa using hbl
        refine forL_inv (fun m env S' => m ≤ bs.length ∧ LK S d x (Str.ofString "switch" ++ Str.ofString " " ++ n) (pr ++ [sp (sp (kw "switch") n) w] ++ linS ((zz.map (·.1)).take m) (bs.take m)) env S') _ 0 _ _ rfl ?_ ?_ ?_ (Nat.zero_le _) ?_
        · rintro m env S' -
          exact seq0 hdb _
        · rintro m y env S3 hy ⟨hm, c3, b4, b5, b6, hls3, rfl⟩
          obtain ⟨pz, hpz, hpm, rfl⟩ := map_at hy
          have hml : m < bs.length := by
            have := (List.getElem?_eq_some_iff.mp hpz).1
            omega
          have hyd : (zz.map (·.2))[m]? = some pz.2 := by rw [List.getElem?_map, hpz]; rfl
          have hyv : (zz.map (·.1))[m]? = some pz.1 := by rw [List.getElem?_map, hpz]; rfl
          obtain ⟨yl, y1, y2⟩ := IsB_get hdl' hyd (List.getElem?_eq_getElem hml)
          have hys := SmB_mem s3 (List.getElem_mem hml)
          have hyh := hL_mem (List.getElem_mem hml)
          have hv := s4 pz.1 (List.mem_map_of_mem hpm)
          have htk2 : linS ((zz.map (·.1)).take (m + 1)) (bs.take (m + 1)) = linS ((zz.map (·.1)).take m) (bs.take m) ++ sp (kw "case") (txI pz.1) :: linL bs[m] := by
            rw [List.take_add_one, List.take_add_one, List.getElem?_eq_getElem hml, hyv]
            show linS (_ ++ [pz.1]) (_ ++ [bs[m]]) = _
            rw [linS_app (by simp; omega)]
            simp [linS]
          have hle : (linS ((zz.map (·.1)).take (m + 1)) (bs.take (m + 1))).length ≤ (linS (zz.map (·.1)) bs).length := by
            have h1 : linS (zz.map (·.1)) bs = linS ((zz.map (·.1)).take (m + 1) ++ (zz.map (·.1)).drop (m + 1)) (bs.take (m + 1) ++ bs.drop (m + 1)) := by rw [List.take_append_drop, List.take_append_drop]
            rw [h1, linS_app (by simp; omega), List.length_append]
            omega
          rw [htk2, List.length_append, List.length_cons] at hle
          rw [htk2]
          generalize bs[m] = bl at *
          generalize linS ((zz.map (·.1)).take m) (bs.take m) = pm at *
          obtain ⟨LL, hLL⟩ : ∃ LL, LL = pr ++ [sp (sp (kw "switch") n) w] ++ pm := ⟨_, rfl⟩
          have hLLl : LL.length ≤ 20000 := by rw [hLL]; simp; omega
          rw [← hLL] at hls3
          have hih := wm_run (ih (S := S3) (d := pz.2) (hls3.cl hS) (by omega) y1 y2 hys (by omega))
          have ho1 : ownOf S3 (.ref c3) = some (LL.map .str) := by rw [own_ref, hls3.at_]; rfl
          have hadd : addD S3 (.ref c3) (.lst [.str (sp (kw "case") (txI pz.1))]) = some (.lst ((LL ++ [sp (kw "case") (txI pz.1)]).map .str)) := by
            rw [add_own ho1 (r := [.str (sp (kw "case") (txI pz.1))]) rfl (by simp; omega)]
            simp
          have hkc : Str.ofString "case " ++ txI pz.1 = sp (kw "case") (txI pz.1) := by
            have e : Str.ofString "case " = kw "case" ++ Str.ofString " " := by decide +kernel
            rw [e]
            rfl
          have hst : strD2 S3 [.int pz.1] = some (.str (txI pz.1)) := str2_plain (p := (.int pz.1, txI pz.1)) (.inr ⟨_, hv.1, hv.2, rfl⟩) S3
          have htl := txI_len hv.1 hv.2
          have hcl : (Str.ofString "case ").length = 5 := by decide +kernel
          have hnew := hls3.new (LL ++ [sp (kw "case") (txI pz.1)] ++ linL bl)
          have key : m + 1 ≤ bs.length ∧ LK S d x (Str.ofString "switch" ++ Str.ofString " " ++ n) (pr ++ [sp (sp (kw "switch") n) w] ++ (pm ++ sp (kw "case") (txI pz.1) :: linL bl)) [some d, some (.ref S3.length), some x, some (.str (Str.ofString "switch" ++ Str.ofString " " ++ n)), b4, some (.tup [.int pz.1, pz.2]), b6] (S3 ++ [.lst ((LL ++ [sp (kw "case") (txI pz.1)] ++ linL bl).map .str)]) := by
            refine ⟨by omega, _, _, _, _, ?_, rfl⟩
            have e : pr ++ [sp (sp (kw "switch") n) w] ++ (pm ++ sp (kw "case") (txI pz.1) :: linL bl) = LL ++ [sp (kw "case") (txI pz.1)] ++ linL bl := by rw [hLL]; simp
            rw [e]
            exact hnew
          simp only [at_gSet, wm_pure, List.set]
          rw [ws_set]
          simp [-op_strI2, hst, hkc, hcl, hadd, hz, at2_0, at2_1]
          refine ⟨by omega, ?_⟩
          rw [wm_eq hih]
          simp [hz]
          refine ⟨by omega, ?_⟩
          simpa using key
        · rintro env S3 ⟨hm, c3, b4, b5, b6, hls3, rfl⟩
          have hzl : (zz.map fun p => Dv.tup [.int p.1, p.2]).length = zz.length := by simp
          rw [hzl] at hls3
          have t1 : (zz.map (·.1)).take zz.length = zz.map (·.1) := by
            rw [List.take_of_length_le (by simp)]
          have t2 : bs.take zz.length = bs := by rw [hvl, List.take_length]
          rw [t1, t2] at hls3
          simp only [sk_nx]
          rw [ws_exp, appL (t := kw "end") hls3 (by simp; omega) rfl (fun Q => by simp [kw])]
          simp only [xk_ok, turn_nx]
          exact done _ _ _ _ _ _ _ (by rw [e1]; simp) (hls3.app (kw "end"))
        · refine ⟨Nat.zero_le _, c, _, _, _, ?_, rfl⟩
          simpa [linS] using hls2
    · rintro env S' ⟨hj, c, a2, a3, a4, a5, a6, hls, rfl⟩
      rw [hdl, List.take_length] at hls
      obtain ⟨Y, rfl, hY⟩ := hls.ex
      simp
      exact leaveD_at hls.le hls.at_ belows_strs hS
    · exact ⟨Nat.zero_le _, S.length, none, none, none, none, none, ⟨⟨[.lst []], rfl, rfl⟩, Nat.le_refl _, by simp [linL]⟩, rfl⟩
end L05

namespace L05
open PySem PySem.Spec PyProof.Rows L2 ML

theorem TpL_get {b : It} {bs : List It} : ∀ {ds : List Dv}, TpL ds bs → ∀ {j : Nat} {x : Dv}, ds[j]? = some x → bs[j]? = some b → TpI x b := by
  induction bs with
  | nil => intro ds h j x h1 h2; cases h2
  | cons c r ih =>
    intro ds h j x h1 h2
    unfold TpL at h
    obtain ⟨d, t, rfl, g1, g2⟩ := h
    cases j with
    | zero =>
      cases h1
      cases h2
      exact g1
    | succ j => exact ih g2 h1 h2
theorem TpB_zip : ∀ {bs : List (List It)} {ds : List Dv}, TpB ds bs → ∃ z : List (Dv × List It), ds = z.map (·.1) ∧ bs = z.map (·.2) ∧ ∀ p ∈ z, ∃ l, seqOf [] p.1 = some l ∧ TpL l p.2
  | [], ds, h => by unfold TpB at h; rw [h]; exact ⟨[], rfl, rfl, by simp⟩
  | b :: r, ds, h => by
    unfold TpB at h
    obtain ⟨d, t, rfl, h1, h2⟩ := h
    obtain ⟨z, rfl, rfl, h3⟩ := TpB_zip h2
    refine ⟨(d, b) :: z, rfl, rfl, fun p hp => ?_⟩
    rcases List.mem_cons.mp hp with rfl | hp
    · exact h1
    · exact h3 p hp
def FZ (S : Sto) (d : Dv) (l : List Dv) (env : Env') (S' : Sto) : Prop := S' = S ++ [.lst l] ∧ ∃ a2 a3 a4, env = [some d, some (.ref S.length), a2, a3, a4]
theorem appF {f : Env' → M Dv} {env : Env'} {S : Sto} {l : List Dv} {t : Dv} {P : Rs Dv → Prop} (he : env[1]? = some (some (.ref S.length))) (hl : l.length ≤ 100000) (hf : ∀ Q : Rs Dv → Prop, Wm (f env) (S ++ [.lst l]) Q ↔ Q (.ok t (S ++ [.lst l]))) : Wm (eMt "list" (getv 1) (aCons f aNil) appendM env) (S ++ [.lst l]) P ↔ P (.ok .non (S ++ [.lst (l ++ [t])])) := by
  have hz := szl
  have ra : (S ++ [Cell.lst l])[S.length]? = some (.lst l) := by simp
  have rs : ∀ c, (S ++ [Cell.lst l]).set S.length c = S ++ [c] := fun c => by simp
  simp only [at_eMt, wm_bind, wm_getv, he, wopt_some, bk_ok, wm_chkT, ty_ref, ra, cellLst_lst, Option.isSome_some, true_and, at_aCons, at_aNil, hf, wm_mpure, wm_pure, wm_append, cell_ref, Option.map_some, rs]
  constructor
  · exact fun h => h.2
  · exact fun h => ⟨by omega, h⟩
theorem wm_frozen : ∀ (k : Nat) {S : Sto} {nums : Nums} {b : List It} {d : Dv} {l : List Dv}, Cl S → hL b + 1 ≤ k → seqOf [] d = some l → TpL l b → ResL nums b → b.length ≤ 12 →
    Wm (run k fn__law_frozen [d]) S fun r => r = .ok (.tup (frL b)) S := by
  intro k
  induction k with
  | zero => intro S nums b d l hS hk; omega
  | succ k ih =>
    intro S nums b d l hS hk hd hl hr h12
    have hz := szl
    have hdl := IsL_length hl.is
    rw [rn__law_frozen, wm_def, m__law_frozen]
    rw [ws_seq]
    simp [hz, -ws_seq]
    rw [ws_seq]
    simp [ws_for, seq_src (seq0 hd _), -ws_seq]
    rw [seq0 hd]
    simp only [wopt_some]
    refine forL_inv (fun j env S' => j ≤ b.length ∧ FZ S d (frL (b.take j)) env S') l 0 _ _ rfl ?_ ?_ ?_ (Nat.zero_le _) ?_
    · rintro j env S' -
      exact seq0 hd _
    · rintro j x env S' hx ⟨hj, rfl, a2, a3, a4, rfl⟩
      have hjl : j < b.length := by
        rcases Nat.lt_or_ge j b.length with q | q
        · exact q
        · rw [List.getElem?_eq_none (by omega)] at hx
          cases hx
      have hxi : TpI x b[j] := TpL_get hl hx (List.getElem?_eq_getElem hjl)
      have hxr := ResL_mem hr (List.getElem_mem hjl)
      have hhi := hI_mem (List.getElem_mem hjl)
      have htk : frL (b.take (j + 1)) = frL (b.take j) ++ [frI b[j]] := by
        rw [frL_map, frL_map, List.take_add_one, List.getElem?_eq_getElem hjl, List.map_append]
        rfl
      have hprl : (frL (b.take j)).length ≤ 12 := by
        rw [frL_map, List.length_map, List.length_take]
        omega
      have hpb : belows 0 (frL (b.take j)) = true := by
        have := fr_below hr
        rw [frL_map] at this ⊢
        refine belows_all fun e he => belows_mem this ?_
        obtain ⟨i, hi, rfl⟩ := List.mem_map.mp he
        exact List.mem_map_of_mem (List.mem_of_mem_take hi)
      rw [htk]
      generalize frL (b.take j) = pr at *
      generalize b[j] = i at *
      have hcl2 : Cl (S ++ [.lst pr]) := hS.app (pure_lst hpb)
      simp only [at_gSet, wm_pure, List.set]
      have done : j + 1 ≤ b.length ∧ FZ S d (pr ++ [frI i]) [some d, some (.ref S.length), some x, a3, a4] (S ++ [.lst (pr ++ [frI i])]) := ⟨by omega, rfl, _, _, _, rfl⟩
      have hxs := hxi.is
      cases i with
      | odd p q => rw [ResI] at hxr; exact hxr.elim
      | rep n u c =>
        rw [TpI] at hxi
        obtain ⟨db, ds, rfl, h2, h3⟩ := hxi
        rw [ResI] at hxr
        rw [hI] at hhi
        have hix : ∀ S (q : Int), ixD S (.tup [.str "repeat", .str n, u.dv, db]) (.int q) = L2.atI [.str "repeat", .str n, u.dv, db] q := fun _ _ => rfl
        have hih := wm_run (ih (S := S ++ [Cell.lst pr]) (nums := nums) (d := db) hcl2 (by omega) h2 h3 hxr.2.2.2.2 hxr.2.2.2.1)
        simp [hix, -ws_exp]
        rw [ws_exp, appF (t := frI (.rep n u c)) rfl (by omega) (fun Q => by
          simp [wm_eq hih, hz, frI])]
        exact done
      | eit n bs =>
        rw [TpI] at hxi
        obtain ⟨db, ds, rfl, h2, h3⟩ := hxi
        rw [ResI] at hxr
        rw [hI] at hhi
        have hix : ∀ S (q : Int), ixD S (.tup [.str "either", .str n, db]) (.int q) = L2.atI [.str "either", .str n, db] q := fun _ _ => rfl
        obtain ⟨z, rfl, rfl, h4⟩ := TpB_zip h3
        have hzl : z.length ≤ sizeLine := by
          have := hxr.2.1
          simp at this
          omega
        simp [hix, -ws_exp]
        rw [ws_exp, appF (t := frI (.eit n (z.map (·.2)))) rfl (by omega) (fun Q => by
          simp [hix]
          rw [lcF_map (S := S ++ [Cell.lst pr]) (src := fun S => seqOf S db) z (fun p => p.1) (fun p => some (.tup (frL p.2))) (by simp [hix, seq_src (seq0 h2 _)]) (seq0 h2 _) hzl (by
            intro p hp
            obtain ⟨pl, p1, p2⟩ := h4 p hp
            have hm : p.2 ∈ z.map (·.2) := List.mem_map_of_mem hp
            have hh := hL_mem hm
            have hrb := ResB_mem hxr.2.2 hm
            have hih := wm_run (ih (S := S ++ [Cell.lst pr]) (nums := nums) (d := p.1) hcl2 (by omega) p1 p2 hrb.2 hrb.1)
            simp [wm_eq hih])]
          have hs : ∀ S, seqOf S (.lst (z.map fun p => .tup (frL p.2))) = some (z.map fun p => .tup (frL p.2)) := fun _ => rfl
          simp [hz, frI, frB_map, Function.comp_def, seq_tup (hs _) (by simpa using hzl)])]
        exact done
      | swi n w vs bs =>
        rw [TpI] at hxi
        obtain ⟨db, cs, ds, rfl, h2, h3, h4⟩ := hxi
        obtain ⟨zz, rfl, rfl, rfl⟩ := CasesR_zip h3
        rw [ResI] at hxr
        rw [hI] at hhi
        have hix : ∀ S (q : Int), ixD S (.tup [.str "switch", .str n, .str w, db]) (.int q) = L2.atI [.str "switch", .str n, .str w, db] q := fun _ _ => rfl
        obtain ⟨y, h5, rfl, h6⟩ := TpB_zip h4
        have hlen : zz.length = y.length := by
          have := congrArg List.length h5
          simpa using this
        have hzl : (zz.zip y).length ≤ sizeLine := by
          have := hxr.2.1
          simp at this ⊢
          omega
        have ez : zz.map (fun p => Dv.tup [.int p.1, p.2]) = (zz.zip y).map fun p => .tup [.int p.1.1, p.2.1] := by
          apply List.ext_getElem (by simp [hlen])
          intro n h1 h2
          have e1 : (zz.map (·.2))[n]'(by simpa using h1) = (y.map (·.1))[n]'(by simp at h2 ⊢; omega) := by simp only [h5]
          simp at e1 ⊢
          exact e1
        have ev : ((zz.map (·.1)).zip (frB (y.map (·.2)))).map (fun p => Dv.tup [.int p.1, p.2]) = (zz.zip y).map fun p => .tup [.int p.1.1, .tup (frL p.2.2)] := by
          rw [frB_map, List.map_map, List.zip_map, List.map_map]
          rfl
        rw [ez] at h2
        simp [hix, -ws_exp]
        rw [ws_exp, appF (t := frI (.swi n w (zz.map (·.1)) (y.map (·.2)))) rfl (by omega) (fun Q => by
          simp [hix]
          rw [lcF_map (S := S ++ [Cell.lst pr]) (src := fun S => seqOf S db) (zz.zip y) (fun p => .tup [.int p.1.1, p.2.1]) (fun p => some (.tup [.int p.1.1, .tup (frL p.2.2)])) (by simp [hix, seq_src (seq0 h2 _)]) (seq0 h2 _) hzl (by
            intro p hp
            have hp2 : p.2 ∈ y := (List.of_mem_zip hp).2
            obtain ⟨pl, p1, p2⟩ := h6 p.2 hp2
            have hm : p.2.2 ∈ y.map (·.2) := List.mem_map_of_mem hp2
            have hh := hL_mem hm
            have hrb := ResB_mem hxr.2.2.2 hm
            have hih := wm_run (ih (S := S ++ [Cell.lst pr]) (nums := nums) (d := p.2.1) hcl2 (by omega) p1 p2 hrb.2 hrb.1)
            simp [wm_eq hih, hz])]
          have hs : ∀ S, seqOf S (.lst ((zz.zip y).map fun p => .tup [.int p.1.1, .tup (frL p.2.2)])) = some ((zz.zip y).map fun p => .tup [.int p.1.1, .tup (frL p.2.2)]) := fun _ => rfl
          simp [hz, frI, ev, seq_tup (hs _) (by simpa using hzl)])]
        exact done
      | _ =>
        simp only [TpI] at hxi
        subst hxi
        unfold IsI at hxs
        simp [seq_ix (seq0 hxs _), -ws_exp]
        rw [ws_exp, appF (t := _) rfl (by omega) (fun Q => by simp; rfl)]
        exact done
    · rintro env S' ⟨hj, rfl, a2, a3, a4, rfl⟩
      rw [hdl, List.take_length]
      have hs : seqOf (S ++ [Cell.lst (frL b)]) (.ref S.length) = some (frL b) := by
        show listOf (S ++ [Cell.lst (frL b)]) (.ref S.length) = _
        simp
      have hfl : (frL b).length ≤ sizeLine := by rw [frL_map, List.length_map]; omega
      simp [seq_tup hs hfl]
      exact leaveD_old (by intro n; nofun) (belows_mono (Nat.zero_le _) (fr_below hr)) hS
    · exact ⟨Nat.zero_le _, by simp [frL], none, none, none, rfl⟩
end L05

namespace L05
open PySem PySem.Spec PyProof.Rows L2 ML

/-! ### plain data is equal to itself -/
def Pl (n : Nat) (d : Dv) : Prop := ∀ S, ∃ p, pyOf S false d = some p ∧ p.canLay0 = true ∧ p.depth ≤ n
def Pls (n : Nat) (l : List Dv) : Prop := ∀ S, ∃ ps, pysOf S l = some ps ∧ PyData.canLayAll0 ps = true ∧ PyData.depthAll ps ≤ n
theorem Pl.int (i : Int) : Pl 0 (.int i) := fun S => ⟨.int i, rfl, rfl, Nat.le_refl _⟩
theorem Pl.str {x : Str} (h : PyData.strOk x = true) : Pl 0 (.str x) := fun S => ⟨.str x, rfl, h, Nat.le_refl _⟩
theorem Pl.mono {n m : Nat} {d : Dv} (h : Pl n d) (k : n ≤ m) : Pl m d := fun S => let ⟨p, a, b, c⟩ := h S; ⟨p, a, b, Nat.le_trans c k⟩
theorem Pls.mono {n m : Nat} {d : List Dv} (h : Pls n d) (k : n ≤ m) : Pls m d := fun S => let ⟨p, a, b, c⟩ := h S; ⟨p, a, b, Nat.le_trans c k⟩
theorem Pls.nil {n : Nat} : Pls n [] := fun S => ⟨[], rfl, rfl, Nat.zero_le _⟩
theorem Pls.cons {n : Nat} {d : Dv} {l : List Dv} (h : Pl n d) (g : Pls n l) : Pls n (d :: l) := fun S => by
  obtain ⟨p, a, b, c⟩ := h S
  obtain ⟨ps, a2, b2, c2⟩ := g S
  refine ⟨p :: ps, ?_, ?_, ?_⟩
  · rw [pysOf, a, a2]
  · simp [PyData.canLayAll0, b, b2]
  · simp only [PyData.depthAll]
    omega
theorem Pl.tup {n : Nat} {l : List Dv} (h : Pls n l) : Pl (n + 1) (.tup l) := fun S => by
  obtain ⟨ps, a, b, c⟩ := h S
  refine ⟨.tuple ps, ?_, ?_, ?_⟩
  · rw [pyOf, a]; rfl
  · simp [PyData.canLay0, b]
  · simp only [PyData.depth]
    omega
theorem Pls.tl {n : Nat} {d : Dv} {l : List Dv} (h : Pls n (d :: l)) : Pl n d ∧ Pls n l := by
  refine ⟨fun S => ?_, fun S => ?_⟩ <;>
  · obtain ⟨ps, a, b, c⟩ := h S
    rw [pysOf] at a
    split at a
    · rename_i p qs e1 e2
      cases a
      simp only [PyData.canLayAll0, Bool.and_eq_true] at b
      simp only [PyData.depthAll] at c
      first | exact ⟨_, e1, b.1, by omega⟩ | exact ⟨_, e2, b.2, by omega⟩
    · cases a
theorem Pls.zip {n : Nat} : ∀ {vs : List Int} {l : List Dv}, Pls n l → Pls (n + 1) ((vs.zip l).map fun p => .tup [.int p.1, p.2])
  | [], _, _ => Pls.nil
  | _ :: _, [], _ => Pls.nil
  | v :: vs, d :: l, h => by
    obtain ⟨h1, h2⟩ := h.tl
    exact Pls.cons (Pl.tup (Pls.cons ((Pl.int v).mono (Nat.zero_le _)) (Pls.cons h1 Pls.nil))) (Pls.zip h2)
theorem use_pl {u : Use} (h : UseS u) : Pl 0 u.dv := by
  cases u with
  | num i => exact Pl.int i
  | nam n => exact Pl.str h.lt.ok
theorem kwP : ∀ s ∈ (["number", "bytes", "text", "check", "pad", "repeat", "either", "switch"] : List String), PyData.strOk (Str.ofString s) = true := by decide +kernel
theorem fr_pl_I (i : It) : SmI i → Pl (4 * hI i + 1) (frI i) := by
  have p0 : Pls 0 [] := Pls.nil
  have c0 : ∀ {d : Dv} {n : Nat} {l : List Dv}, Pl 0 d → Pls n l → Pls n (d :: l) := fun h g => Pls.cons (h.mono (Nat.zero_le _)) g
  have kp : ∀ s ∈ (["number", "bytes", "text", "check", "pad", "repeat", "either", "switch"] : List String), Pl 0 (.str (Str.ofString s)) := fun s hs => Pl.str (kwP s hs)
  refine It.rec (motive_1 := fun i => SmI i → Pl (4 * hI i + 1) (frI i)) (motive_2 := fun b => SmL b → Pls (4 * hL b + 1) (frL b)) (motive_3 := fun bs => SmB bs → Pls (4 * hB bs + 2) (frB bs)) ?_ ?_ ?_ ?_ ?_ ?_ ?_ ?_ ?_ ?_ ?_ ?_ ?_ i
  · intro n sz o lo hi h
    rw [SmI] at h
    rw [frI]
    exact (Pl.tup (c0 (kp "number" (by decide)) (c0 (Pl.str h.1.2) (c0 (Pl.int _) (c0 (Pl.str h.2.1.2) (c0 (Pl.int _) (c0 (Pl.int _) p0))))))).mono (by simp [hI])
  · intro n u h
    rw [SmI] at h
    rw [frI]
    exact (Pl.tup (c0 (kp "bytes" (by decide)) (c0 (Pl.str h.1.2) (c0 (use_pl h.2) p0)))).mono (by simp [hI])
  · intro n e m h
    rw [SmI] at h
    rw [frI]
    exact (Pl.tup (c0 (kp "text" (by decide)) (c0 (Pl.str h.1.2) (c0 (Pl.int _) (c0 (Pl.int _) p0))))).mono (by simp [hI])
  · intro n m h
    rw [SmI] at h
    rw [frI]
    exact (Pl.tup (c0 (kp "check" (by decide)) (c0 (Pl.str h.1.2) (c0 (Pl.int _) p0)))).mono (by simp [hI])
  · intro n e m h
    rw [SmI] at h
    rw [frI]
    exact (Pl.tup (c0 (kp "pad" (by decide)) (c0 (Pl.str h.1.2) (c0 (Pl.int _) (c0 (Pl.int _) p0))))).mono (by simp [hI])
  · intro n u b ih h
    rw [SmI] at h
    rw [frI]
    exact (Pl.tup (c0 (kp "repeat" (by decide)) (c0 (Pl.str h.1.2) (c0 (use_pl h.2.1) (Pls.cons (Pl.tup (ih h.2.2)) Pls.nil))))).mono (by simp only [hI]; omega)
  · intro n bs ih h
    rw [SmI] at h
    rw [frI]
    exact (Pl.tup (c0 (kp "either" (by decide)) (c0 (Pl.str h.1.2) (Pls.cons (Pl.tup (ih h.2)) Pls.nil)))).mono (by simp only [hI]; omega)
  · intro n w vs bs ih h
    rw [SmI] at h
    rw [frI]
    exact (Pl.tup (c0 (kp "switch" (by decide)) (c0 (Pl.str h.1.2) (c0 (Pl.str h.2.1.2) (Pls.cons (Pl.tup (Pls.zip (ih h.2.2.2.2))) Pls.nil))))).mono (by simp only [hI]; omega)
  · intro a b h; rw [SmI] at h; exact h.elim
  · intro h; rw [frL]; exact Pls.nil
  · intro i r h1 h2 h
    rw [SmL] at h
    rw [frL]
    exact Pls.cons ((h1 h.1).mono (by simp only [hL]; omega)) ((h2 h.2).mono (by simp only [hL]; omega))
  · intro h; rw [frB]; exact Pls.nil
  · intro b r h1 h2 h
    rw [SmB] at h
    rw [frB]
    exact Pls.cons ((Pl.tup (h1 h.1)).mono (by simp only [hB]; omega)) ((h2 h.2).mono (by simp only [hB]; omega))
theorem fr_pl : ∀ {b : List It}, SmL b → Pls (4 * hL b + 1) (frL b)
  | [], _ => by rw [frL]; exact Pls.nil
  | i :: r, h => by
    rw [SmL] at h
    rw [frL]
    exact Pls.cons ((fr_pl_I i h.1).mono (by simp only [hL]; omega)) ((fr_pl h.2).mono (by simp only [hL]; omega))
theorem eq_self {n : Nat} {l : List Dv} (h : Pl n (.tup l)) (hn : n ≤ 64) (S : Sto) : eqD S (.tup l) (.tup l) = some (.bl true) := by
  obtain ⟨p, a, b, c⟩ := h S
  have e : pyTop S (.tup l) = some p := a
  have hs : SeqAt.shaped p = true := by
    simp only [SeqAt.shaped, Bool.and_eq_true, decide_eq_true_eq]
    exact ⟨b, by omega⟩
  unfold eqD eqPy
  rw [e]
  dsimp only
  rw [if_pos ⟨hs, hs⟩, PySem.SeqAt.eqv_refl p b]
  rfl
end L05

namespace L05
open PySem PySem.Spec PyProof.Rows L2 ML

theorem lin_n_I (i : It) : ∀ A dp, GoodI A dp i → (linI i).length ≤ 10 * (nmI i).length := by
  refine It.rec (motive_1 := fun i => ∀ A dp, GoodI A dp i → (linI i).length ≤ 10 * (nmI i).length) (motive_2 := fun b => ∀ A dp, GoodL A dp b → (linL b).length ≤ 10 * (nmL b).length) (motive_3 := fun bs => ∀ A dp, GoodB A dp bs → (linE bs).length ≤ bs.length + 10 * (nmB bs).length ∧ ∀ vs, (linS vs bs).length ≤ bs.length + 10 * (nmB bs).length) ?_ ?_ ?_ ?_ ?_ ?_ ?_ ?_ ?_ ?_ ?_ ?_ ?_ i
  · intros; simp [linI, nmI]
  · intros; simp [linI, nmI]
  · intros; simp [linI, nmI]
  · intros; simp [linI, nmI]
  · intros; simp [linI, nmI]
  · intro n u b ih A dp g
    rw [GoodI] at g
    have := ih _ _ g.2.2.2.2
    simp only [linI, nmI, List.length_cons, List.length_append, List.length_nil]
    omega
  · intro n bs ih A dp g
    rw [GoodI] at g
    have := (ih _ _ g.2.2.2).1
    simp only [linI, nmI, List.length_cons, List.length_append, List.length_nil]
    omega
  · intro n w vs bs ih A dp g
    rw [GoodI] at g
    obtain ⟨u1, u2, u3, u4, u5, u6, u7⟩ := g
    have := (ih _ _ u7).2 vs
    simp only [linI, nmI, List.length_cons, List.length_append, List.length_nil]
    omega
  · intro a b A dp g; rw [GoodI] at g; exact g.elim
  · intros; simp [linL]
  · intro i r h1 h2 A dp g
    rw [GoodL] at g
    have a := h1 _ _ g.1
    have b := h2 _ _ g.2
    simp only [linL, nmL, List.length_append]
    omega
  · intro A dp g
    refine ⟨by simp [linE], fun vs => ?_⟩
    cases vs <;> simp [linS]
  · intro b r h1 h2 A dp g
    rw [GoodB] at g
    have a := h1 _ _ g.2.1
    have c := h2 _ _ g.2.2
    refine ⟨?_, fun vs => ?_⟩
    · have := c.1
      simp only [linE, nmB, List.length_append, List.length_cons]
      omega
    · cases vs with
      | nil => simp [linS]
      | cons v vs =>
        have := c.2 vs
        simp only [linS, nmB, List.length_append, List.length_cons]
        omega
theorem lin_n : ∀ {b : List It} {A : List Nm} {dp : Nat}, GoodL A dp b → (linL b).length ≤ 10 * (nmL b).length
  | [], _, _, _ => by simp [linL]
  | i :: r, A, dp, g => by
    rw [GoodL] at g
    have a := lin_n_I i _ _ g.1
    have b := lin_n g.2
    simp only [linL, nmL, List.length_append]
    omega
theorem nl1 : (Str.ofString "\n").length = 1 ∧ PyData.strOk (Str.ofString "\n") = true := by decide +kernel
theorem join_ok : ∀ {ys : List Str}, (∀ y ∈ ys, PyData.strOk y = true) → PyData.strOk (Txt.join (Str.ofString "\n") ys) = true
  | [], _ => by rw [txt_join]; decide +kernel
  | [a], h => by
    rw [txt_join]
    have := h a (by simp)
    simpa [Str.join] using this
  | a :: c :: t, h => by
    have ih := join_ok (ys := c :: t) fun y hy => h y (List.mem_cons_of_mem _ hy)
    rw [txt_join] at ih ⊢
    rw [Str.join]
    · exact sapp_ok (sapp_ok (h a (by simp)) nl1.2) ih
    · simp
def WT (b : List It) : Str := Txt.join (Str.ofString "\n") (linL b)
theorem drawn_sm {b : List It} {ds : List Dv} (h : Drawn b ds) : SmL b ∧ (linL b).length ≤ 300 ∧ PyData.strOk (WT b) = true := by
  have hs := sm_L h.gd h.wf
  refine ⟨hs, ?_, join_ok fun y hy => (lines_L hs y hy).ok⟩
  have := lin_n h.gd
  have := h.nl
  omega
theorem join_lines {b : List It} {ds : List Dv} (h : Drawn b ds) (S : Sto) : joinD S (.str "\n") [.lst ((linL b).map .str)] = some (.str (WT b)) := by
  obtain ⟨h1, h2, h3⟩ := drawn_sm h
  exact join_wm rfl (by rw [nl1.1]; exact Nat.le_refl _) (by omega) fun y hy => (lines_L h1 y hy).le
/-- format_shape -/
theorem wm_fshape {k p : Nat} {S : Sto} {b : List It} {ds : List Dv} {nms : List Str} {bd : Nat} (hk : 5 ≤ k) (hS : S[p]? = some (shpC 0 b nms bd) ∨ True) (hg : S[p]? = some (.ins "Shape" [("parts", .tup (frL b)), ("names", .tup (nms.map .str)), ("bounds", .ref bd)])) (hc : Cl S) (hD : Drawn b ds) {nums : Nums} (hr : ResL nums b) {P : Rs Dv → Prop} : Wm (run (k + 1) fn_format_shape [.ref p]) S P ↔ P (.ok (.str (WT b)) S) := by
  obtain ⟨h1, h2, h3⟩ := drawn_sm hD
  have hdeep := deep_L hD.gd (by decide)
  have hf := wm_run (wm_format k (S := S) (nums := nums) (b := b) (d := .tup (frL b)) (l := frL b) hc (by omega) rfl (IsL_fr hr) h1 (by omega))
  have hins : insAt S[p]? = some ((Str.ofString "Shape" : Str), [((Str.ofString "parts" : Str), Dv.tup (frL b)), ((Str.ofString "names" : Str), Dv.tup (nms.map .str)), ((Str.ofString "bounds" : Str), Dv.ref bd)]) := by rw [hg]; rfl
  have lkp : ∀ a c e : Dv, ([((Str.ofString "parts" : Str), a), ((Str.ofString "names" : Str), c), ((Str.ofString "bounds" : Str), e)] : List (Str × Dv)).lookup (Str.ofString "parts") = some a := fun _ _ _ => rfl
  suffices h : Wm (run (k + 1) fn_format_shape [.ref p]) S (fun r => r = .ok (.str (WT b)) S) from wm_eq (wm_run h)
  rw [rn_format_shape, wm_def, m_format_shape]
  have hj := join_lines hD S
  simp [hins, lkp, wm_eq hf, hj]
theorem shS_cl {T : Sto} {b : List It} {s : CSt} (hT : Cl T) (hr : ResL s.nums b) : Cl (shS T b s) := by
  have dctBelow : ∀ {n : Nat} {nu : Nums}, belowC n (.dct (numD nu)) = true := by
    intro n nu
    refine List.all_eq_true.mpr fun p hp => ?_
    obtain ⟨x, _, rfl⟩ := List.mem_map.mp hp
    rfl
  have hl : (shS T b s).length = T.length + 5 := by
    unfold shS
    rw [sg_len]
    rfl
  unfold Cl
  rw [hl]
  unfold shS stG
  rw [List.all_append, Bool.and_eq_true]
  refine ⟨List.all_eq_true.mpr fun c hc => belowC_mono (by omega) (List.all_eq_true.mp hT c hc), ?_⟩
  simp only [List.all_cons, List.all_nil, Bool.and_true, Bool.and_eq_true]
  refine ⟨?_, ?_, belows_strs, dctBelow, dctBelow⟩
  · show (below _ (.tup (frL b)) && (below _ (.tup (s.names.map .str)) && (decide (T.length + 4 < T.length + 5) && true))) = true
    have h1 : below (T.length + 5) (.tup (frL b)) = true := belows_mono (Nat.zero_le _) (fr_below hr)
    have h2 : below (T.length + 5) (.tup (s.names.map .str)) = true := belows_strs
    rw [h1, h2]
    simp
  · simp [chkC, belowC, below]
theorem drawn_take {ns : List Str} (hb : Beg ns) {b : List It} {ds : List Dv} {s' : DSt} (h1 : TpL ds b) (h2 : belows 0 ds = true) (h3 : GoodL [] 0 b) (h5 : Step ⟨ns, 0, 6⟩ s' (nmL b) (ckL b)) (h6 : b ≠ []) : Drawn (b.take 1) (ds.take 1) := by
  cases b with
  | nil => exact absurd rfl h6
  | cons i r =>
    rw [TpL] at h1
    obtain ⟨d, t, rfl, a, c⟩ := h1
    rw [GoodL] at h3
    have e1 : nmL (i :: r) = nmL [i] ++ nmL r := by simp [nmL]
    have e2 : ckL (i :: r) = ckL [i] + ckL r := by simp [ckL]
    obtain ⟨used, e, nd, hm⟩ := h5.nm
    rw [e1] at nd hm
    have hck := h5.ck
    have hle := h5.le
    rw [e2] at hck
    refine drawn_of (s' := ⟨s'.nm, ckL [i], 0⟩) hb ?_ ?_ ?_ (by simp) ⟨⟨used, e, ?_, fun n hn => hm n (List.mem_append_left _ hn)⟩, by simp, ?_⟩ (by simp)
    · show TpL [d] [i]
      rw [TpL]
      exact ⟨d, [], rfl, a, by rw [TpL]⟩
    · unfold belows at h2
      rw [Bool.and_eq_true] at h2
      show belows 0 [d] = true
      unfold belows
      rw [h2.1]
      rfl
    · show GoodL [] 0 [i]
      rw [GoodL]
      exact ⟨h3.1, by rw [GoodL]; trivial⟩
    · rw [List.nodup_append] at nd
      exact nd.1
    · show ckL [i] ≤ 1
      have hck : s'.ck = 0 + (ckL [i] + ckL r) := hck
      omega
def P5 (ns N : List Int) (o : So) : Prop := ∃ ds b s', Drawn b ds ∧ Drawn (b.take 1) (ds.take 1) ∧ o = .nx [some (.scr (ns.map .int)), some (.lst (N.map .int)), some (.ref 2), some (.lst ds), none, none, none] (dS N s' [])
theorem law_true (ns : List Int) (hn : ns.length ≤ 63) : ∃ S', run 30 fn_law [.scr (ns.map Dv.int)] [] = some (.ok (.bl true) S') := by
  suffices h : Wm (run 30 fn_law [.scr (ns.map Dv.int)]) [] fun r => ∃ S', r = .ok (.bl true) S' by
    obtain ⟨r, e, S', rfl⟩ := h
    exact ⟨S', e⟩
  rw [rn_law, wm_def, m_law]
  have hz := szl
  rw [ws_seq]
  refine Ws.imp (P := fun o => ∃ N : List Int, N.length = 160 ∧ small N ∧ o = .nx [some (.scr (ns.map .int)), some (.lst (N.map .int)), none, none, none, none, none] []) ?_ ?_
  · simp
    refine (sp_numbers 27 ns 160 (by decide) hn).imp ?_
    rintro r ⟨l, h1, h2, rfl⟩
    simp
    exact ⟨l, h1, h2, rfl⟩
  rintro o ⟨N, hN, hsm, rfl⟩
  rw [sk_nx, ws_seq]
  refine Ws.imp (P := fun o => ∃ nm, Beg nm ∧ o = .nx [some (.scr (ns.map .int)), some (.lst (N.map .int)), some (.ref 2), none, none, none, none] (dS N ⟨nm, 0, 6⟩ [])) ?_ ?_
  · simp
    refine (wm_begin (k := 28) hN hsm).imp ?_
    rintro r ⟨nm, h1, rfl⟩
    simp
    exact ⟨nm, h1, rfl⟩
  rintro o ⟨nm, hb, rfl⟩
  rw [sk_nx, ws_seq]
  refine Ws.imp (P := P5 ns N) ?_ ?_
  · obtain ⟨v6, g6⟩ : ∃ v6, N[6]? = some v6 := ⟨_, List.getElem?_eq_getElem (by omega)⟩
    have m12 := md v6 12 (by decide)
    obtain ⟨many, hmany, hm1, hm2⟩ : ∃ many : Nat, 1 + v6.fmod 12 = many ∧ 1 ≤ many ∧ many ≤ 12 := ⟨(1 + v6.fmod 12).toNat, by omega, by omega, by omega⟩
    have hsok : SOk ⟨nm, 0, 6⟩ := ⟨hb.nd, Nat.zero_le _, fun n hn => ⟨(hb.ok n hn).1, (hb.ok n hn).2.1⟩⟩
    have hne : nm ≠ [] := by
      intro e
      have := hb.len
      rw [e] at this
      cases this
    have hdraw := draw_items hN 3 0 rfl 29 ⟨nm, 0, 6⟩ [] [] (.lst []) many (by decide) hm2 rfl hsok (fun _ => rfl) (by simp)
    simp [hz, g6, hmany]
    refine hdraw.imp ?_
    rintro r ⟨ds, b, s', rfl, i1, i2, i3, i4, i5, i6⟩
    simp
    exact ⟨ds, b, s', drawn_of hb i1 i2 i3 (by omega) i5 (i6 (by omega) hne), drawn_take hb i1 i2 i3 i5 (i6 (by omega) hne), rfl⟩
  rintro o ⟨ds, b, s', hD, hD1, rfl⟩
  have hdeep := deep_L hD.gd (by decide)
  have hdeep1 := deep_L hD1.gd (by decide)
  obtain ⟨iv, hr, h12, h0⟩ := shape_inv hD.wf hD.sh
  obtain ⟨iv1, hr1, -, -⟩ := shape_inv hD1.wf hD1.sh
  obtain ⟨hsmb, hl3, hok⟩ := drawn_sm hD
  obtain ⟨hsmb1, hl31, hok1⟩ := drawn_sm hD1
  have hT : Cl (dS N s' []) := ds_below (X := []) rfl
  have hTl : (dS N s' []).length = 3 := rfl
  generalize dS N s' [] = T at *
  rw [sk_nx, ws_seq]
  have hlin := wm_run (wm_llines 29 (S := T) (b := b) (d := .lst ds) (l := ds) hT (by omega) rfl hD.is hsmb (by omega))
  have tyn : ∀ S, tyD S (.str "\n") "str" = true := fun _ => rfl
  simp [wm_eq hlin, join_lines hD, -ws_seq]
  rw [ws_seq]
  have hin := fun P => wm_shape_init (k := 29) (b := b) (T := T) (d := .lst ds) (l := ds) (by omega) hT rfl (by have := IsL_pre (X := T) hD.is; simpa using this) hD.wf (P := P)
  rw [hD.sh] at hin
  rw [hTl] at hin
  rw [ws_set]
  simp [hTl, -ws_seq]
  refine hin _ ?_
  simp only [nk_ok, xk_ok, sk_nx]
  have e1S : ∀ (T : Sto) (b : List It) (st : CSt), (shS T b st)[T.length]? = some (.ins "Shape" [("parts", .tup (frL b)), ("names", .tup (st.names.map .str)), ("bounds", .ref (T.length + 4))]) := fun T b st => by
    unfold shS
    rw [sg_sh]
    rfl
  have e1L : ∀ (T : Sto) (b : List It) (st : CSt), (shS T b st).length = T.length + 5 := fun T b st => by
    unfold shS
    rw [sg_len]
    rfl
  have hS1 := shS_cl (s := ⟨nmL b, numL b, (ckL b : Int)⟩) hT hr
  have g3 := e1S T b ⟨nmL b, numL b, (ckL b : Int)⟩
  have l8 := e1L T b ⟨nmL b, numL b, (ckL b : Int)⟩
  rw [hTl] at g3 l8
  have hfs := fun P => wm_fshape (k := 28) (P := P) (by decide) (.inr trivial) g3 hS1 hD hr
  have tst : ∀ S (x : Str), isiD S [.str x, .ty "str"] = some (.bl true) := fun _ _ => rfl
  generalize hSS : shS T b ⟨nmL b, numL b, (ckL b : Int)⟩ = S1 at *
  rw [ws_seq]
  simp [hfs, -ws_seq]
  rw [ws_seq]
  simp [tst, hok, -ws_seq]
  rw [ws_seq]
  have hcut : cutG ds none (some (1 : Int)) = ds.take 1 := cutG_head (n := 1)
  have hin1 := fun P => wm_shape_init (k := 29) (b := b.take 1) (T := S1) (d := .lst (ds.take 1)) (l := ds.take 1) (by omega) hS1 rfl (by have := IsL_pre (X := S1) hD1.is; simpa using this) hD1.wf (P := P)
  rw [hD1.sh] at hin1
  dsimp only at hin1
  rw [l8] at hin1
  have hS2 := shS_cl (s := ⟨nmL (b.take 1), numL (b.take 1), (ckL (b.take 1) : Int)⟩) hS1 hr1
  have g8 := e1S S1 (b.take 1) ⟨nmL (b.take 1), numL (b.take 1), (ckL (b.take 1) : Int)⟩
  rw [l8] at g8
  have g3' : (shS S1 (b.take 1) ⟨nmL (b.take 1), numL (b.take 1), (ckL (b.take 1) : Int)⟩)[3]? = some (.ins "Shape" [("parts", .tup (frL b)), ("names", .tup ((nmL b).map .str)), ("bounds", .ref (3 + 4))]) := by
    unfold shS stG
    rw [List.getElem?_append_left (by omega)]
    exact g3
  have hfs1 := fun P => wm_fshape (k := 28) (P := P) (by decide) (.inr trivial) g8 hS2 hD1 hr1
  have hfs2 := fun P => wm_fshape (k := 28) (P := P) (by decide) (.inr trivial) g3' hS2 hD hr
  have hlin1 := wm_run (wm_llines 29 (S := shS S1 (b.take 1) ⟨nmL (b.take 1), numL (b.take 1), (ckL (b.take 1) : Int)⟩) (b := b.take 1) (d := .lst (ds.take 1)) (l := ds.take 1) hS2 (by omega) rfl hD1.is hsmb1 (by omega))
  have hfz := wm_run (wm_frozen 29 (S := shS S1 (b.take 1) ⟨nmL (b.take 1), numL (b.take 1), (ckL (b.take 1) : Int)⟩) (nums := numL b) (b := b) (d := .lst ds) (l := ds) hS2 (by omega) rfl hD.tp hr h12)
  have heq := eq_self (Pl.tup (fr_pl hsmb)) (by omega)
  have hins : insAt (shS S1 (b.take 1) ⟨nmL (b.take 1), numL (b.take 1), (ckL (b.take 1) : Int)⟩)[3]? = some ((Str.ofString "Shape" : Str), [((Str.ofString "parts" : Str), Dv.tup (frL b)), ((Str.ofString "names" : Str), Dv.tup ((nmL b).map .str)), ((Str.ofString "bounds" : Str), Dv.ref 7)]) := by rw [g3']; rfl
  have lkp : ∀ a c e : Dv, ([((Str.ofString "parts" : Str), a), ((Str.ofString "names" : Str), c), ((Str.ofString "bounds" : Str), e)] : List (Str × Dv)).lookup (Str.ofString "parts") = some a := fun _ _ _ => rfl
  have hj1 := join_lines hD1
  generalize shS S1 (b.take 1) ⟨nmL (b.take 1), numL (b.take 1), (ckL (b.take 1) : Int)⟩ = S2 at *
  rw [ws_if]
  simp only [at_tB, at_eOp, at_eArg, at_aCons, at_aNil, at_eSl, at_oNone, at_oSome, wm_bind, wm_getv, List.getElem?_cons_succ, List.getElem?_cons_zero, wopt_some, bk_ok, wm_mpure, wm_pure, wm_eC, wm_asI, wm_slL, hcut, wm_newI, l8]
  refine hin1 _ ?_
  simp only [nk_ok, bk_ok, wm_mpure, wm_pure, wm_bind, hfs1]
  simp [hcut, wm_eq hlin1, hj1, hok1]
  simp [hfs2, hok, hins, lkp, wm_eq hfz, heq]
  exact ⟨_, rfl⟩
end L05

open PySem PySem.Spec PyProof.Rows L2 ML
set_option maxRecDepth 100000 in
set_option maxHeartbeats 0 in
theorem PySem.Challenge.cw_byteshape_k05_written_form_holds : PySem.Challenge.rw_byteshape_k05_written_form.Holds := by
  w_on; o_law; k_head; (case hw => w_witness2)
  k_fill
  refine L05.walk (l := PySem.Challenge.rw_byteshape_k05_written_form) rfl rfl (fun w h Y => PySem.W.kIn_of Y) rfl ?F L05.law_true
  case F =>
    intro w mg h KX G
    refine' L05.all_mk KX G ?aC_Shape ?aC_ShapeCheck ?aC_InvalidShape ?pg_Shape ?hd_Shape ?po_Shape ?sa_Shape ?mk_Shape ?kc_Shape ?pg_ShapeCheck ?hd_ShapeCheck ?po_ShapeCheck ?sa_ShapeCheck ?mk_ShapeCheck ?kc_ShapeCheck ?a0 ?i0 ?l0 ?c0 ?k0 ?a1 ?i1 ?l1 ?c1 ?k1 ?a2 ?l2 ?c2 ?k2 ?a3 ?i3 ?l3 ?c3 ?k3 ?a4 ?l4 ?c4 ?k4 ?a5 ?i5 ?l5 ?c5 ?k5 ?a6 ?l6 ?c6 ?k6 ?a7 ?l7 ?c7 ?k7 ?a8 ?l8 ?c8 ?k8 ?a9 ?i9 ?l9 ?c9 ?k9 ?a10 ?l10 ?c10 ?k10 ?a11 ?i11 ?l11 ?c11 ?k11 ?a12 ?l12 ?c12 ?k12 ?a13 ?l13 ?c13 ?k13 ?a14 ?i14 ?l14 ?c14 ?k14 ?a15 ?l15 ?c15 ?k15 ?a16 ?l16 ?c16 ?k16 ?a17 ?l17 ?c17 ?k17 ?a18 ?l18 ?c18 ?k18 ?a19 ?l19 ?c19 ?k19 ?a20 ?l20 ?c20 ?k20 ?a21 ?l21 ?c21 ?k21 ?a22 ?l22 ?c22 ?k22 ?a23 ?l23 ?c23 ?k23 ?a24 ?l24 ?c24 ?k24 ?a25 ?l25 ?c25 ?k25 ?a26 ?l26 ?c26 ?k26 ?a27 ?l27 ?c27 ?k27 ?a28 ?l28 ?c28 ?k28 ?a29 ?l29 ?c29 ?k29 ?nb_abs ?nb_all ?nb_enumerate ?nb_int ?nb_isinstance ?nb_len ?nb_list ?nb_max ?nb_min ?nb_range ?nb_str ?nb_sum ?nb_tuple ?cb_MOST_CASES ?cb_MOST_CHOICES ?cb_MOST_COUNT ?cb_MOST_DEPTH ?cb_MOST_ITEMS ?cb_MOST_LENGTH ?cb_MOST_MODULUS ?cb_MOST_NAMES ?cb_MOST_NAME_CHARS ?cb_MULTIPLES ?cl_MULTIPLES ?cf_MULTIPLES ?cz_MULTIPLES ?cb_NAME_CHARS ?cb_ORDERS ?cl_ORDERS ?cf_ORDERS ?cz_ORDERS ?db_PARTS ?dl_PARTS ?dk_PARTS ?ds_PARTS ?dv_PARTS ?db_GREATEST ?dl_GREATEST ?ds_GREATEST ?di_GREATEST ?n_Shape_bounds ?n_ShapeCheck_checks ?n_Shape_names ?n_ShapeCheck_names ?n_ShapeCheck_numbers ?n_Shape_parts ?xq_InvalidShape ?xk_InvalidShape ?xb_InvalidShape ?xt_InvalidShape
    (case aC_Shape => k_is)
    (case aC_ShapeCheck => k_is)
    (case aC_InvalidShape => k_is)
    (case pg_Shape => k_is)
    (case hd_Shape => k_is)
    (case po_Shape => k_is)
    (case sa_Shape => k_is)
    (case mk_Shape => k_is)
    (case kc_Shape => k_is)
    (case pg_ShapeCheck => k_is)
    (case hd_ShapeCheck => k_is)
    (case po_ShapeCheck => k_is)
    (case sa_ShapeCheck => k_is)
    (case mk_ShapeCheck => k_is)
    (case kc_ShapeCheck => k_is)
    (case a0 => k_is)
    (case i0 => k_is)
    (case l0 => k_is)
    (case c0 => k_is)
    (case k0 => k_is)
    (case a1 => k_is)
    (case i1 => k_is)
    (case l1 => k_is)
    (case c1 => k_is)
    (case k1 => k_is)
    (case a2 => k_is)
    (case l2 => k_is)
    (case c2 => k_is)
    (case k2 => k_is)
    (case a3 => k_is)
    (case i3 => k_is)
    (case l3 => k_is)
    (case c3 => k_is)
    (case k3 => k_is)
    (case a4 => k_is)
    (case l4 => k_is)
    (case c4 => k_is)
    (case k4 => k_is)
    (case a5 => k_is)
    (case i5 => k_is)
    (case l5 => k_is)
    (case c5 => k_is)
    (case k5 => k_is)
    (case a6 => k_is)
    (case l6 => k_is)
    (case c6 => k_is)
    (case k6 => k_is)
    (case a7 => k_is)
    (case l7 => k_is)
    (case c7 => k_is)
    (case k7 => k_is)
    (case a8 => k_is)
    (case l8 => k_is)
    (case c8 => k_is)
    (case k8 => k_is)
    (case a9 => k_is)
    (case i9 => k_is)
    (case l9 => k_is)
    (case c9 => k_is)
    (case k9 => k_is)
    (case a10 => k_is)
    (case l10 => k_is)
    (case c10 => k_is)
    (case k10 => k_is)
    (case a11 => k_is)
    (case i11 => k_is)
    (case l11 => k_is)
    (case c11 => k_is)
    (case k11 => k_is)
    (case a12 => k_is)
    (case l12 => k_is)
    (case c12 => k_is)
    (case k12 => k_is)
    (case a13 => k_is)
    (case l13 => k_is)
    (case c13 => k_is)
    (case k13 => k_is)
    (case a14 => k_is)
    (case i14 => k_is)
    (case l14 => k_is)
    (case c14 => k_is)
    (case k14 => k_is)
    (case a15 => k_is)
    (case l15 => k_is)
    (case c15 => k_is)
    (case k15 => k_is)
    (case a16 => k_is)
    (case l16 => k_is)
    (case c16 => k_is)
    (case k16 => k_is)
    (case a17 => k_is)
    (case l17 => k_is)
    (case c17 => k_is)
    (case k17 => k_is)
    (case a18 => k_is)
    (case l18 => k_is)
    (case c18 => k_is)
    (case k18 => k_is)
    (case a19 => k_is)
    (case l19 => k_is)
    (case c19 => k_is)
    (case k19 => k_is)
    (case a20 => k_is)
    (case l20 => k_is)
    (case c20 => k_is)
    (case k20 => k_is)
    (case a21 => k_is)
    (case l21 => k_is)
    (case c21 => k_is)
    (case k21 => k_is)
    (case a22 => k_is)
    (case l22 => k_is)
    (case c22 => k_is)
    (case k22 => k_is)
    (case a23 => k_is)
    (case l23 => k_is)
    (case c23 => k_is)
    (case k23 => k_is)
    (case a24 => k_is)
    (case l24 => k_is)
    (case c24 => k_is)
    (case k24 => k_is)
    (case a25 => k_is)
    (case l25 => k_is)
    (case c25 => k_is)
    (case k25 => k_is)
    (case a26 => k_is)
    (case l26 => k_is)
    (case c26 => k_is)
    (case k26 => k_is)
    (case a27 => k_is)
    (case l27 => k_is)
    (case c27 => k_is)
    (case k27 => k_is)
    (case a28 => k_is)
    (case l28 => k_is)
    (case c28 => k_is)
    (case k28 => k_is)
    (case a29 => k_is)
    (case l29 => k_is)
    (case c29 => k_is)
    (case k29 => k_is)
    (case nb_abs => k_is)
    (case nb_all => k_is)
    (case nb_enumerate => k_is)
    (case nb_int => k_is)
    (case nb_isinstance => k_is)
    (case nb_len => k_is)
    (case nb_list => k_is)
    (case nb_max => k_is)
    (case nb_min => k_is)
    (case nb_range => k_is)
    (case nb_str => k_is)
    (case nb_sum => k_is)
    (case nb_tuple => k_is)
    (case cb_MOST_CASES => k_is)
    (case cb_MOST_CHOICES => k_is)
    (case cb_MOST_COUNT => k_is)
    (case cb_MOST_DEPTH => k_is)
    (case cb_MOST_ITEMS => k_is)
    (case cb_MOST_LENGTH => k_is)
    (case cb_MOST_MODULUS => k_is)
    (case cb_MOST_NAMES => k_is)
    (case cb_MOST_NAME_CHARS => k_is)
    (case cb_MULTIPLES => k_is)
    (case cl_MULTIPLES => k_is)
    (case cf_MULTIPLES => rfl)
    (case cz_MULTIPLES => decide)
    (case cb_NAME_CHARS => k_is)
    (case cb_ORDERS => k_is)
    (case cl_ORDERS => k_is)
    (case cf_ORDERS => rfl)
    (case cz_ORDERS => decide)
    (case db_PARTS => k_is)
    (case dl_PARTS => k_is)
    (case dk_PARTS => exact ⟨⟨_, _, rfl, rfl⟩, ⟨⟨_, _, rfl, rfl⟩, ⟨⟨_, _, rfl, rfl⟩, ⟨⟨_, _, rfl, rfl⟩, ⟨⟨_, _, rfl, rfl⟩, ⟨⟨_, _, rfl, rfl⟩, ⟨⟨_, _, rfl, rfl⟩, ⟨⟨_, _, rfl, rfl⟩, trivial⟩⟩⟩⟩⟩⟩⟩⟩)
    (case ds_PARTS => decide)
    (case dv_PARTS => exact ⟨⟨_, rfl⟩, ⟨_, rfl⟩, ⟨⟨_, rfl⟩, ⟨_, rfl⟩, ⟨⟨_, rfl⟩, ⟨_, rfl⟩, ⟨⟨_, rfl⟩, ⟨_, rfl⟩, ⟨⟨_, rfl⟩, ⟨_, rfl⟩, ⟨⟨_, rfl⟩, ⟨_, rfl⟩, ⟨⟨_, rfl⟩, ⟨_, rfl⟩, ⟨⟨_, rfl⟩, ⟨_, rfl⟩, trivial⟩⟩⟩⟩⟩⟩⟩⟩)
    (case db_GREATEST => k_is)
    (case dl_GREATEST => k_is)
    (case ds_GREATEST => decide)
    (case di_GREATEST => exact ⟨⟨_, rfl⟩, rfl, ⟨_, rfl⟩, ⟨⟨_, rfl⟩, rfl, ⟨_, rfl⟩, trivial⟩⟩)
    (case n_Shape_bounds => k_is)
    (case n_ShapeCheck_checks => k_is)
    (case n_Shape_names => k_is)
    (case n_ShapeCheck_names => k_is)
    (case n_ShapeCheck_numbers => k_is)
    (case n_Shape_parts => k_is)
    (case xq_InvalidShape => k_exc)
    (case xk_InvalidShape => k_is)
    (case xb_InvalidShape => k_is)
    (case xt_InvalidShape => k_is)
