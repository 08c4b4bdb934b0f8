import PyProof.Rows.All
import Wide.All
import OpenK.AllK
import Wide.FinOn
import HandS.ForMost
import HandS.Exc
import HandS.WordsExc
import HandS.TupAny
import HandS.Deep
import HandS.IsInst
import HandS.More
import PySem.Challenge.RW_byteshape_k89_words_of_a_session
set_option Elab.async false
set_option linter.all false
set_option maxRecDepth 100000
set_option maxHeartbeats 4000000
/-! ML 1: data, cells, the ghost heap, the relation to the abstract heap of the hand layer. -/
namespace ML
open PySem PySem.Spec PyProof.Rows L2

/-- data: what a Python value is, tuples and frozen lists through and through; ref: a cell of the store -/
inductive Dv where
  | non | bl (b : Bool) | int (i : Int) | str (x : Str)
  | tup (l : List Dv) | lst (l : List Dv) | scr (l : List Dv) | ref (n : Nat) | ty (s : String)
/-- a mutable object -/
inductive Cell where
  | lst (l : List Dv) | dct (kvs : List (Key × Dv)) | ins (c : Str) (fs : List (Str × Dv)) | dead
abbrev Sto := List Cell
abbrev Env' := List (Option Dv)

/-- an exception: its class by name, its fields -/
structure Exn where
  cls : Str
  fs : List (Str × Dv)

/-- outcome -/
inductive Rs (α : Type) where
  | ok (a : α) (S : Sto)
  | er (e : Exn) (S : Sto)
abbrev M (α : Type) := Sto → Option (Rs α)
def M.pure {α : Type} (a : α) : M α := fun S => some (.ok a S)
def M.bind {α β : Type} (x : M α) (f : α → M β) : M β := fun S => match x S with
  | none => none
  | some (.er e S') => some (.er e S')
  | some (.ok a S') => f a S'
instance : Monad M where
  pure := M.pure
  bind := M.bind
def stuck {α : Type} : M α := fun _ => none
def ofO {α : Type} : Option α → M α
  | some a => M.pure a
  | none => stuck
theorem bind_some {α β : Type} {x : M α} {f : α → M β} {S : Sto} {r : Rs β} (h : M.bind x f S = some r) :
    (∃ a S', x S = some (.ok a S') ∧ f a S' = some r) ∨ (∃ e S', x S = some (.er e S') ∧ r = .er e S') := by
  unfold M.bind at h
  cases e : x S with
  | none => rw [e] at h; cases h
  | some o =>
    rw [e] at h
    cases o with
    | ok a S' => exact .inl ⟨a, S', rfl, h⟩
    | er x S' => exact .inr ⟨x, S', rfl, (Option.some.inj h).symm⟩

/-- the written part and the module's names -/
structure Bs where
  K : PySem.W.Frag
  mg : Str → Option Value
abbrev _root_.L2.Cx.bs (X : Cx) : Bs := ⟨X.K, X.mg⟩

/-- the ghost: what is frozen, where the cells stand -/
structure Gh where
  F : Hp
  m : List Addr
  /-- private objects, kept by all -/
  pv : List (Addr × HO)
def Gh.le (g g' : Gh) : Prop := (∀ a o, g.F a = some o → g'.F a = some o) ∧ (∀ (n : Nat) (a : Addr), g.m[n]? = some a → g'.m[n]? = some a) ∧ g'.pv = g.pv
theorem Gh.le_refl (g : Gh) : g.le g := ⟨fun _ _ h => h, fun _ _ h => h, rfl⟩
theorem Gh.le_trans {a b c : Gh} (h : a.le b) (k : b.le c) : a.le c := ⟨fun x o e => k.1 x o (h.1 x o e), fun n x e => k.2.1 n x (h.2.1 n x e), k.2.2.trans h.2.2⟩

theorem Rd.mono {F F' : Hp} (h : ∀ a o, F a = some o → F' a = some o) {a : Addr} {u : HO} (r : Rd F a u) : Rd F' a u := by
  rcases r with r | ⟨o, r⟩
  · exact .inl (h _ _ r)
  · exact .inr ⟨o, h _ _ r⟩
theorem SqL_mono {K : PySem.W.Frag} {F F' : Hp} (h : ∀ a o, F a = some o → F' a = some o) {a : Addr} {xs : List V} (r : SqL K F a xs) : SqL K F' a xs := by
  rcases r with r | r
  · exact .inl (Rd.mono h r)
  · exact .inr r
theorem SqT_mono {K : PySem.W.Frag} {F F' : Hp} (h : ∀ a o, F a = some o → F' a = some o) {a : Addr} {xs : List V} (r : SqT K F a xs) : SqT K F' a xs := by
  rcases r with r | r
  · exact .inl (Rd.mono h r)
  · exact .inr r

mutual
/-- the value v is the data d -/
inductive Rp (K : PySem.W.Frag) (g : Gh) : Dv → V → Prop
  | non : Rp K g .non .non
  | bl (b : Bool) : Rp K g (.bl b) (.bl b)
  | int (i : Int) : Rp K g (.int i) (.int i)
  | str (x : Str) : Rp K g (.str x) (.str x)
  | ty (n : String) : Rp K g (.ty n) (.ty n)
  | tup {a : Addr} {vs : List V} {l : List Dv} : SqT K g.F a vs → Rps K g l vs → Rp K g (.tup l) (.ref a)
  | lst {a : Addr} {vs : List V} {l : List Dv} : g.F a = some (.lst vs) → Rps K g l vs → Rp K g (.lst l) (.ref a)
  | scr {a : Addr} {vs : List V} {l : List Dv} : SqL K g.F a vs → Rps K g l vs → Rp K g (.scr l) (.ref a)
  | ref {n : Nat} {a : Addr} : g.m[n]? = some a → Rp K g (.ref n) (.ref a)
inductive Rps (K : PySem.W.Frag) (g : Gh) : List Dv → List V → Prop
  | nil : Rps K g [] []
  | cons {d : Dv} {v : V} {ds : List Dv} {vs : List V} : Rp K g d v → Rps K g ds vs → Rps K g (d :: ds) (v :: vs)
end
section
variable {K : PySem.W.Frag} {g g' : Gh}
mutual
theorem Rp.same {F : Hp} {m : List Addr} {pv pv' : List (Addr × HO)} : ∀ {d : Dv} {v : V}, Rp K ⟨F, m, pv⟩ d v → Rp K ⟨F, m, pv'⟩ d v
  | _, _, .non => .non
  | _, _, .bl b => .bl b
  | _, _, .int i => .int i
  | _, _, .str x => .str x
  | _, _, .ty n => .ty n
  | _, _, .tup s r => .tup s (Rps.same r)
  | _, _, .lst s r => .lst s (Rps.same r)
  | _, _, .scr s r => .scr s (Rps.same r)
  | _, _, .ref e => .ref e
theorem Rps.same {F : Hp} {m : List Addr} {pv pv' : List (Addr × HO)} : ∀ {d : List Dv} {v : List V}, Rps K ⟨F, m, pv⟩ d v → Rps K ⟨F, m, pv'⟩ d v
  | _, _, .nil => .nil
  | _, _, .cons r t => .cons (Rp.same r) (Rps.same t)
end
mutual
theorem Rp.mono (h : g.le g') : ∀ {d : Dv} {v : V}, Rp K g d v → Rp K g' d v
  | _, _, .non => .non
  | _, _, .bl b => .bl b
  | _, _, .int i => .int i
  | _, _, .str x => .str x
  | _, _, .ty n => .ty n
  | _, _, .tup s r => .tup (SqT_mono h.1 s) (Rps.mono h r)
  | _, _, .lst s r => .lst (h.1 _ _ s) (Rps.mono h r)
  | _, _, .scr s r => .scr (SqL_mono h.1 s) (Rps.mono h r)
  | _, _, .ref e => .ref (h.2.1 _ _ e)
theorem Rps.mono (h : g.le g') : ∀ {d : List Dv} {v : List V}, Rps K g d v → Rps K g' d v
  | _, _, .nil => .nil
  | _, _, .cons r t => .cons (Rp.mono h r) (Rps.mono h t)
end
theorem Rp.mono' (h1 : ∀ a o, g.F a = some o → g'.F a = some o) (h2 : ∀ (n : Nat) (a : Addr), g.m[n]? = some a → g'.m[n]? = some a) {d : Dv} {v : V} (r : Rp K g d v) : Rp K g' d v := by
  have q : Rp K ⟨g'.F, g'.m, g.pv⟩ d v := Rp.mono (g := g) (g' := ⟨g'.F, g'.m, g.pv⟩) ⟨h1, h2, rfl⟩ r
  exact Rp.same q
theorem Rps.mono' (h1 : ∀ a o, g.F a = some o → g'.F a = some o) (h2 : ∀ (n : Nat) (a : Addr), g.m[n]? = some a → g'.m[n]? = some a) {d : List Dv} {v : List V} (r : Rps K g d v) : Rps K g' d v := by
  have q : Rps K ⟨g'.F, g'.m, g.pv⟩ d v := Rps.mono (g := g) (g' := ⟨g'.F, g'.m, g.pv⟩) ⟨h1, h2, rfl⟩ r
  exact Rps.same q
theorem Rps.length : ∀ {ds : List Dv} {vs : List V}, Rps K g ds vs → ds.length = vs.length
  | _, _, .nil => rfl
  | _, _, .cons _ t => by simp [Rps.length t]
theorem Rps.get : ∀ {ds : List Dv} {vs : List V} {i : Nat} {d : Dv}, Rps K g ds vs → ds[i]? = some d → ∃ v, vs[i]? = some v ∧ Rp K g d v
  | _, _, _, _, .nil, e => by simp at e
  | _, _, 0, _, .cons r _, e => by simp at e; subst e; exact ⟨_, rfl, r⟩
  | _, _, i + 1, d, .cons _ t, e => by
    obtain ⟨v, h1, h2⟩ := Rps.get (i := i) (d := d) t (by simpa using e)
    exact ⟨v, by simpa using h1, h2⟩
theorem Rps.getV : ∀ {ds : List Dv} {vs : List V} {i : Nat} {v : V}, Rps K g ds vs → vs[i]? = some v → ∃ d, ds[i]? = some d ∧ Rp K g d v
  | _, _, _, _, .nil, e => by simp at e
  | _, _, 0, _, .cons r _, e => by simp at e; subst e; exact ⟨_, rfl, r⟩
  | _, _, i + 1, d, .cons _ t, e => by
    obtain ⟨v, h1, h2⟩ := Rps.getV (i := i) (v := d) t (by simpa using e)
    exact ⟨v, by simpa using h1, h2⟩
theorem Rps.append : ∀ {ds es : List Dv} {vs ws : List V}, Rps K g ds vs → Rps K g es ws → Rps K g (ds ++ es) (vs ++ ws)
  | _, _, _, _, .nil, s => s
  | _, _, _, _, .cons r t, s => .cons r (Rps.append t s)
theorem Rps.take : ∀ {ds : List Dv} {vs : List V} (n : Nat), Rps K g ds vs → Rps K g (ds.take n) (vs.take n)
  | _, _, 0, _ => .nil
  | _, _, _ + 1, .nil => .nil
  | _, _, n + 1, .cons r t => .cons r (Rps.take n t)
theorem Rps.drop : ∀ {ds : List Dv} {vs : List V} (n : Nat), Rps K g ds vs → Rps K g (ds.drop n) (vs.drop n)
  | _, _, 0, r => r
  | _, _, _ + 1, .nil => .nil
  | _, _, n + 1, .cons _ t => Rps.drop n t
theorem Rps.set {d : Dv} {v : V} (r : Rp K g d v) : ∀ {ds : List Dv} {vs : List V} (i : Nat), Rps K g ds vs → Rps K g (ds.set i d) (vs.set i v)
  | _, _, _, .nil => .nil
  | _, _, 0, .cons _ t => .cons r t
  | _, _, i + 1, .cons q t => .cons q (Rps.set r i t)
theorem Rps.eraseIdx : ∀ {ds : List Dv} {vs : List V} (i : Nat), Rps K g ds vs → Rps K g (ds.eraseIdx i) (vs.eraseIdx i)
  | _, _, _, .nil => .nil
  | _, _, 0, .cons _ t => t
  | _, _, i + 1, .cons q t => .cons q (Rps.eraseIdx i t)
theorem Rps.reverse : ∀ {ds : List Dv} {vs : List V}, Rps K g ds vs → Rps K g ds.reverse vs.reverse
  | _, _, .nil => .nil
  | _, _, .cons r t => by
    rw [List.reverse_cons, List.reverse_cons]
    exact Rps.append (Rps.reverse t) (.cons r .nil)
/-- ints, texts, bools -/
theorem Rps.ints : ∀ (ns : List Int), Rps K g (ns.map Dv.int) (ns.map V.int)
  | [] => .nil
  | n :: ns => .cons (.int n) (Rps.ints ns)
theorem Rps.strs : ∀ (ns : List Str), Rps K g (ns.map Dv.str) (ns.map V.str)
  | [] => .nil
  | n :: ns => .cons (.str n) (Rps.strs ns)
end

/-- the pairs of a dict, the fields of an instance -/
def Rkv {κ : Type} (K : PySem.W.Frag) (g : Gh) : List (κ × Dv) → List (κ × V) → Prop
  | [], [] => True
  | p :: ps, q :: qs => p.1 = q.1 ∧ Rp K g p.2 q.2 ∧ Rkv K g ps qs
  | _, _ => False
theorem Rkv.mono {κ : Type} {K : PySem.W.Frag} {g g' : Gh} (h : g.le g') : ∀ {ps : List (κ × Dv)} {qs : List (κ × V)}, Rkv K g ps qs → Rkv K g' ps qs
  | [], [], _ => trivial
  | _ :: _, _ :: _, ⟨a, b, c⟩ => ⟨a, b.mono h, Rkv.mono h c⟩
  | [], _ :: _, x => x.elim
  | _ :: _, [], x => x.elim

theorem Rkv.mono' {κ : Type} {K : PySem.W.Frag} {g g' : Gh} (h1 : ∀ a o, g.F a = some o → g'.F a = some o) (h2 : ∀ (n : Nat) (a : Addr), g.m[n]? = some a → g'.m[n]? = some a) : ∀ {ps : List (κ × Dv)} {qs : List (κ × V)}, Rkv K g ps qs → Rkv K g' ps qs
  | [], [], _ => trivial
  | _ :: _, _ :: _, ⟨a, b, c⟩ => ⟨a, b.mono' h1 h2, Rkv.mono' h1 h2 c⟩
  | [], _ :: _, x => x.elim
  | _ :: _, [], x => x.elim

def CellOk (B : Bs) (g : Gh) (H : Hp) (a : Addr) : Cell → Prop
  | .lst l => ∃ vs, H a = some (.lst vs) ∧ Rps B.K g l vs
  | .dct kvs => ∃ ws, H a = some (.dK ws) ∧ Rkv B.K g kvs ws
  | .ins c fs => ∃ C dx ws, B.mg c = some (.ref C) ∧ H a = some (.ins C dx ws) ∧ H dx = some (.own a) ∧ g.F dx = none ∧ Rkv B.K g fs ws
  | .dead => ∃ o, g.F a = some o
/-- the store stands in the abstract heap -/
structure Ok (B : Bs) (g : Gh) (H : Hp) (S : Sto) : Prop where
  fz : ∀ a o, g.F a = some o → H a = some o
  len : g.m.length = S.length
  cel : ∀ (n : Nat) c a, S[n]? = some c → g.m[n]? = some a → CellOk B g H a c
  nf : ∀ (n : Nat) c a, S[n]? = some c → g.m[n]? = some a → g.F a = none ∨ c = .dead
  inj : ∀ (i j : Nat) a, g.m[i]? = some a → g.m[j]? = some a → i = j
  pvt : ∀ p ∈ g.pv, H p.1 = some p.2 ∧ g.F p.1 = none ∧ ∀ n : Nat, g.m[n]? ≠ some p.1
/-- the frame's slots -/
structure En (B : Bs) (g : Gh) (σ : L2.St) (env : Env') : Prop where
  len : env.length = σ.length
  at_ : ∀ (i : Nat) d, env[i]? = some (some d) → ∃ v, σ[i]? = some (some v) ∧ Rp B.K g d v
theorem En.mono {B : Bs} {g g' : Gh} (h : g.le g') {σ : L2.St} {env : Env'} (e : En B g σ env) : En B g' σ env :=
  ⟨e.len, fun i d q => let ⟨v, a, b⟩ := e.at_ i d q; ⟨v, a, b.mono h⟩⟩
theorem En.set {B : Bs} {g : Gh} {σ : L2.St} {env : Env'} (e : En B g σ env) (i : Nat) {d : Dv} {v : V} (r : Rp B.K g d v) : En B g (σ.set i (some v)) (env.set i (some d)) := by
  refine ⟨by rw [List.length_set, List.length_set]; exact e.len, fun j d' h => ?_⟩
  by_cases hj : i = j
  · subst hj
    by_cases hl : i < env.length
    · rw [List.getElem?_set_self hl] at h
      cases h
      exact ⟨v, List.getElem?_set_self (by rw [← e.len]; exact hl), r⟩
    · rw [List.getElem?_eq_none (by rw [List.length_set]; omega)] at h
      cases h
  · rw [List.getElem?_set_ne hj] at h
    obtain ⟨w, a, b⟩ := e.at_ j d' h
    exact ⟨w, by rw [List.getElem?_set_ne hj]; exact a, b⟩

section
variable {B : Bs} {g g' : Gh} {H H' : Hp} {S : Sto}
theorem Ok.live {n : Nat} {c : Cell} {a : Addr} (h : Ok B g H S) (hs : S[n]? = some c) (hm : g.m[n]? = some a) : ∃ o, H a = some o := by
  have q := h.cel n c a hs hm
  cases c with
  | lst l => obtain ⟨_, e, _⟩ := q; exact ⟨_, e⟩
  | dct l => obtain ⟨_, e, _⟩ := q; exact ⟨_, e⟩
  | ins c fs => obtain ⟨_, _, _, _, e, _⟩ := q; exact ⟨_, e⟩
  | dead => obtain ⟨o, e⟩ := q; exact ⟨o, h.fz a o e⟩
theorem Ok.at_ {n : Nat} {a : Addr} (h : Ok B g H S) (hm : g.m[n]? = some a) : ∃ c, S[n]? = some c := by
  have hl := h.len
  have hn : n < g.m.length := (List.getElem?_eq_some_iff.mp hm).1
  exact ⟨S[n]'(by omega), List.getElem?_eq_getElem (by omega)⟩
theorem Ok.adr {n : Nat} {c : Cell} (h : Ok B g H S) (hs : S[n]? = some c) : ∃ a, g.m[n]? = some a := by
  have hl := h.len
  have hn : n < S.length := (List.getElem?_eq_some_iff.mp hs).1
  exact ⟨g.m[n]'(by omega), List.getElem?_eq_getElem (by omega)⟩
/-- the heap grows: all that stood stands -/
theorem CellOk.same {a : Addr} {c : Cell} (q : CellOk B g H a c) (hg : g.le g') (k : ∀ b o, H b = some o → H' b = some o) (nd : ∀ b, g.F b = none → H b ≠ none → g'.F b = none) : CellOk B g' H' a c := by
  cases c with
  | lst l => obtain ⟨vs, e, r⟩ := q; exact ⟨vs, k _ _ e, r.mono hg⟩
  | dct l => obtain ⟨vs, e, r⟩ := q; exact ⟨vs, k _ _ e, r.mono hg⟩
  | ins c fs => obtain ⟨C, dx, ws, hm, e, ed, ef, r⟩ := q; exact ⟨C, dx, ws, hm, k _ _ e, k _ _ ed, nd dx ef (by rw [ed]; simp), r.mono hg⟩
  | dead => obtain ⟨o, e⟩ := q; exact ⟨o, hg.1 _ _ e⟩
/-- a new frozen object -/
def Gh.frz (g : Gh) (p : Addr) (o : HO) : Gh := ⟨upd g.F p o, g.m, g.pv⟩
theorem Gh.frz_le {p : Addr} {o : HO} (h : g.F p = none) : g.le (g.frz p o) :=
  ⟨fun a u e => by show upd g.F p o a = some u; rw [upd_ne (ne_of_none e h)]; exact e, fun _ _ e => e, rfl⟩
theorem Ok.free {p : Addr} (h : Ok B g H S) (hp : H p = none) : g.F p = none := by
  cases q : g.F p with
  | none => rfl
  | some o => rw [h.fz p o q] at hp; cases hp
theorem Ok.newF {p : Addr} {o : HO} (h : Ok B g H S) (hp : H p = none) : g.le (g.frz p o) ∧ Ok B (g.frz p o) (upd H p o) S := by
  have hf := h.free hp
  have hle : g.le (g.frz p o) := Gh.frz_le hf
  refine ⟨hle, ⟨fun a u e => ?_, h.len, fun n c a hs hm => ?_, fun n c a hs hm => ?_, h.inj, fun q hq => ?_⟩⟩
  · have e' : upd g.F p o a = some u := e
    by_cases ha : a = p
    · subst ha; rw [upd_same] at e' ⊢; exact e'
    · rw [upd_ne ha] at e' ⊢; exact h.fz a u e'
  · refine (h.cel n c a hs hm).same hle (fun b u e => by rw [upd_ne (ne_of_none e hp)]; exact e) fun b e hb => ?_
    show upd g.F p o b = none
    rw [upd_ne (fun z => by subst z; exact hb hp)]
    exact e
  · rcases h.nf n c a hs hm with z | z
    · refine .inl ?_
      obtain ⟨u, hu⟩ := h.live hs hm
      show upd g.F p o a = none
      rw [upd_ne (ne_of_none hu hp)]
      exact z
    · exact .inr z
  · obtain ⟨e1, e2, e3⟩ := h.pvt q hq
    have ne := ne_of_none e1 hp
    exact ⟨by rw [upd_ne ne]; exact e1, by show upd g.F p o q.1 = none; rw [upd_ne ne]; exact e2, e3⟩
/-- a new cell -/
def Gh.cell (g : Gh) (p : Addr) : Gh := ⟨g.F, g.m ++ [p], g.pv⟩
theorem Gh.cell_le {p : Addr} : g.le (g.cell p) := ⟨fun _ _ e => e, fun n a e => by
  show (g.m ++ [p])[n]? = some a
  rw [List.getElem?_append_left (List.getElem?_eq_some_iff.mp e).1]
  exact e, rfl⟩
theorem Gh.cell_at {p : Addr} : (g.cell p).m[g.m.length]? = some p := by
  show (g.m ++ [p])[g.m.length]? = some p
  simp
theorem Ok.newC {p : Addr} {o : HO} {c : Cell} (h : Ok B g H S) (hp : H p = none) (hc : CellOk B (g.cell p) (upd H p o) p c) : g.le (g.cell p) ∧ Ok B (g.cell p) (upd H p o) (S ++ [c]) := by
  have hle : g.le (g.cell p) := Gh.cell_le
  have hlen := h.len
  have split : ∀ (n : Nat) c' a, (S ++ [c])[n]? = some c' → (g.cell p).m[n]? = some a → (S[n]? = some c' ∧ g.m[n]? = some a) ∨ (c' = c ∧ a = p) := fun n c' a e1 e2 => by
    have e2' : (g.m ++ [p])[n]? = some a := e2
    by_cases hn : n < S.length
    · rw [List.getElem?_append_left hn] at e1
      rw [List.getElem?_append_left (by omega)] at e2'
      exact .inl ⟨e1, e2'⟩
    · rw [List.getElem?_append_right (by omega)] at e1
      rw [List.getElem?_append_right (by omega)] at e2'
      rw [hlen] at e2'
      cases hk : n - S.length with
      | zero => rw [hk] at e1 e2'; simp at e1 e2'; exact .inr ⟨e1.symm, e2'.symm⟩
      | succ k => rw [hk] at e1; simp at e1
  refine ⟨hle, ⟨fun a u e => ?_, ?_, fun n c' a hs hm => ?_, fun n c' a hs hm => ?_, fun i j a e1 e2 => ?_, fun q hq => ?_⟩⟩
  · have e' : g.F a = some u := e
    rw [upd_ne (ne_of_none (h.fz a u e') hp)]
    exact h.fz a u e'
  · show (g.m ++ [p]).length = _
    simp [hlen]
  · rcases split n c' a hs hm with ⟨e1, e2⟩ | ⟨rfl, rfl⟩
    · exact (h.cel n c' a e1 e2).same hle (fun b u e => by rw [upd_ne (ne_of_none e hp)]; exact e) fun b e _ => e
    · exact hc
  · rcases split n c' a hs hm with ⟨e1, e2⟩ | ⟨rfl, rfl⟩
    · exact h.nf n c' a e1 e2
    · exact .inl (h.free hp)
  · have pos : ∀ (i : Nat) a, (g.cell p).m[i]? = some a → (i < g.m.length ∧ g.m[i]? = some a) ∨ (i = g.m.length ∧ a = p) := fun i a e => by
      have e' : (g.m ++ [p])[i]? = some a := e
      by_cases hi : i < g.m.length
      · rw [List.getElem?_append_left hi] at e'
        exact .inl ⟨hi, e'⟩
      · rw [List.getElem?_append_right (by omega)] at e'
        cases hk : i - g.m.length with
        | zero => rw [hk] at e'; simp at e'; exact .inr ⟨by omega, e'.symm⟩
        | succ k => rw [hk] at e'; simp at e'
    have old : ∀ (i : Nat), g.m[i]? = some p → False := fun i e => by
      obtain ⟨c', hc'⟩ := h.at_ e
      obtain ⟨o', ho'⟩ := h.live hc' e
      rw [hp] at ho'; cases ho'
    rcases pos i a e1 with ⟨_, q1⟩ | ⟨q1, rfl⟩
    · rcases pos j a e2 with ⟨_, q2⟩ | ⟨q2, rfl⟩
      · exact h.inj i j a q1 q2
      · exact (old i q1).elim
    · rcases pos j a e2 with ⟨_, q2⟩ | ⟨q2, _⟩
      · exact (old j q2).elim
      · rw [q1, q2]
  · obtain ⟨e1, e2, e3⟩ := h.pvt q hq
    have ne := ne_of_none e1 hp
    refine ⟨by rw [upd_ne ne]; exact e1, e2, fun n e => ?_⟩
    have e' : (g.m ++ [p])[n]? = some q.1 := e
    by_cases hn : n < g.m.length
    · rw [List.getElem?_append_left hn] at e'
      exact e3 n e'
    · rw [List.getElem?_append_right (by omega)] at e'
      cases hk : n - g.m.length with
      | zero => rw [hk] at e'; simp at e'; exact ne e'.symm
      | succ k => rw [hk] at e'; simp at e'
/-- a cell written -/
theorem Ok.write {n : Nat} {c c' : Cell} {a : Addr} {o : HO} (h : Ok B g H S) (hs : S[n]? = some c) (hd : c ≠ .dead) (hm : g.m[n]? = some a) (hc : CellOk B g (upd H a o) a c') : Ok B g (upd H a o) (S.set n c') := by
  have nF : g.F a = none := by
    rcases h.nf n c a hs hm with z | z
    · exact z
    · exact absurd z hd
  have hn : n < S.length := (List.getElem?_eq_some_iff.mp hs).1
  have notown : ∀ x, H a ≠ some (.own x) := fun x e => by
    have q := h.cel n c a hs hm
    cases c with
    | lst l => obtain ⟨_, e', _⟩ := q; rw [e] at e'; cases e'
    | dct l => obtain ⟨_, e', _⟩ := q; rw [e] at e'; cases e'
    | ins c fs => obtain ⟨_, _, _, _, e', _⟩ := q; rw [e] at e'; cases e'
    | dead => exact hd rfl
  refine ⟨fun b u e => ?_, by rw [List.length_set]; exact h.len, fun k d b e1 e2 => ?_, fun k d b e1 e2 => ?_, h.inj, fun q hq => ?_⟩
  · rw [upd_ne (fun z => by rw [z, nF] at e; cases e)]
    exact h.fz b u e
  · by_cases hk : n = k
    · subst hk
      rw [List.getElem?_set_self hn] at e1
      cases e1
      rw [hm] at e2; cases e2
      exact hc
    · rw [List.getElem?_set_ne hk] at e1
      have ne : b ≠ a := fun z => hk (h.inj n k a hm (z ▸ e2))
      have q := h.cel k d b e1 e2
      cases d with
      | lst l => obtain ⟨vs, e, r⟩ := q; exact ⟨vs, by rw [upd_ne ne]; exact e, r⟩
      | dct l => obtain ⟨vs, e, r⟩ := q; exact ⟨vs, by rw [upd_ne ne]; exact e, r⟩
      | ins c fs =>
        obtain ⟨C, dx, ws, hmg, e, ed, ef, r⟩ := q
        refine ⟨C, dx, ws, hmg, by rw [upd_ne ne]; exact e, ?_, ef, r⟩
        rw [upd_ne (fun z => notown b (by rw [← z]; exact ed))]
        exact ed
      | dead => exact q
  · by_cases hk : n = k
    · subst hk
      rw [hm] at e2; cases e2
      exact .inl nF
    · rw [List.getElem?_set_ne hk] at e1
      exact h.nf k d b e1 e2
  · obtain ⟨e1, e2, e3⟩ := h.pvt q hq
    exact ⟨by rw [upd_ne (fun z => e3 n (by rw [z]; exact hm))]; exact e1, e2, e3⟩
/-- a list's cell is frozen -/
theorem Ok.freeze {n : Nat} {a : Addr} {l : List Dv} {vs : List V} (h : Ok B g H S) (hs : S[n]? = some (.lst l)) (hm : g.m[n]? = some a) (hv : H a = some (.lst vs)) :
    g.le (g.frz a (.lst vs)) ∧ Ok B (g.frz a (.lst vs)) H (S.set n .dead) := by
  have nF : g.F a = none := by
    rcases h.nf n _ a hs hm with z | z
    · exact z
    · cases z
  have hle : g.le (g.frz a (.lst vs)) := Gh.frz_le nF
  have hn : n < S.length := (List.getElem?_eq_some_iff.mp hs).1
  refine ⟨hle, ⟨fun b u e => ?_, by rw [List.length_set]; exact h.len, fun k d b e1 e2 => ?_, fun k d b e1 e2 => ?_, h.inj, fun q hq => ?_⟩⟩
  · have e' : upd g.F a (.lst vs) b = some u := e
    by_cases hb : b = a
    · subst hb; rw [upd_same] at e'; rw [hv]; exact e'
    · rw [upd_ne hb] at e'; exact h.fz b u e'
  · by_cases hk : n = k
    · subst hk
      rw [List.getElem?_set_self hn] at e1
      cases e1
      have e2' : g.m[n]? = some b := e2
      rw [hm] at e2'; cases e2'
      exact ⟨_, upd_same⟩
    · rw [List.getElem?_set_ne hk] at e1
      have q := h.cel k d b e1 e2
      cases d with
      | lst l => obtain ⟨ws, e, r⟩ := q; exact ⟨ws, e, r.mono hle⟩
      | dct l => obtain ⟨ws, e, r⟩ := q; exact ⟨ws, e, r.mono hle⟩
      | ins c fs =>
        obtain ⟨C, dx, ws, hmg, e, ed, ef, r⟩ := q
        refine ⟨C, dx, ws, hmg, e, ed, ?_, r.mono hle⟩
        show upd g.F a _ dx = none
        rw [upd_ne (fun z => by rw [z, hv] at ed; cases ed)]
        exact ef
      | dead => obtain ⟨o, e⟩ := q; exact ⟨o, hle.1 _ _ e⟩
  · by_cases hk : n = k
    · subst hk
      rw [List.getElem?_set_self hn] at e1
      cases e1
      exact .inr rfl
    · rw [List.getElem?_set_ne hk] at e1
      have ne : b ≠ a := fun z => hk (h.inj n k a hm (z ▸ e2))
      rcases h.nf k d b e1 e2 with z | z
      · refine .inl ?_
        show upd g.F a _ b = none
        rw [upd_ne ne]
        exact z
      · exact .inr z
  · obtain ⟨e1, e2, e3⟩ := h.pvt q hq
    exact ⟨e1, by show upd g.F a _ q.1 = none; rw [upd_ne (fun z => e3 n (by rw [z]; exact hm))]; exact e2, e3⟩
/-! ### private objects: made, written, given out -/
def Gh.priv (g : Gh) (p : Addr) (o : HO) : Gh := ⟨g.F, g.m, (p, o) :: g.pv⟩
theorem Ok.priv {p : Addr} {o : HO} (h : Ok B g H S) (hp : H p = none) : Ok B (g.priv p o) (upd H p o) S := by
  refine ⟨fun a u e => by rw [upd_ne (ne_of_none (h.fz a u e) hp)]; exact h.fz a u e, h.len, fun n c a hs hm => ?_, h.nf, h.inj, fun q hq => ?_⟩
  · have q := h.cel n c a hs hm
    have q2 : CellOk B g (upd H p o) a c := q.same (Gh.le_refl g) (fun b u e => by rw [upd_ne (ne_of_none e hp)]; exact e) fun b e _ => e
    cases c with
    | lst l => obtain ⟨vs, e, r⟩ := q2; exact ⟨vs, e, r.mono' (g := g) (g' := g.priv p o) (fun _ _ e => e) fun _ _ e => e⟩
    | dct l => obtain ⟨vs, e, r⟩ := q2; exact ⟨vs, e, r.mono' (g := g) (g' := g.priv p o) (fun _ _ e => e) fun _ _ e => e⟩
    | ins c fs => obtain ⟨C, dx, ws, hmg, e, ed, ef, r⟩ := q2; exact ⟨C, dx, ws, hmg, e, ed, ef, r.mono' (g := g) (g' := g.priv p o) (fun _ _ e => e) fun _ _ e => e⟩
    | dead => exact q2
  · rcases List.mem_cons.mp hq with rfl | hq
    · refine ⟨upd_same, h.free hp, fun n e => ?_⟩
      obtain ⟨c, hc⟩ := h.at_ (n := n) e
      obtain ⟨u, hu⟩ := h.live hc e
      rw [hp] at hu; cases hu
    · obtain ⟨e1, e2, e3⟩ := h.pvt q hq
      exact ⟨by rw [upd_ne (ne_of_none e1 hp)]; exact e1, e2, e3⟩
/-- back: the private object leaves the ghost, changed to o', frozen -/
theorem Ok.unpriv {g0 : Gh} {p : Addr} {o o' : HO} (h : Ok B g H S) (hg : g.pv = (p, o) :: g0.pv) (hn : ∀ q ∈ g0.pv, q.1 ≠ p) (no : ∀ {x}, o ≠ .own x) : Ok B ⟨upd g.F p o', g.m, g0.pv⟩ (upd H p o') S := by
  obtain ⟨p1, p2, p3⟩ := h.pvt (p, o) (by rw [hg]; exact List.mem_cons_self)
  have p1 : H p = some o := p1
  have p2 : g.F p = none := p2
  have p3 : ∀ n : Nat, g.m[n]? ≠ some p := p3
  have gF : ∀ a u, g.F a = some u → upd g.F p o' a = some u := fun a u e => by rw [upd_ne (fun z => by rw [z, p2] at e; cases e)]; exact e
  refine ⟨fun a u e => ?_, h.len, fun n c a hs hm => ?_, fun n c a hs hm => ?_, h.inj, fun q hq => ?_⟩
  · have e' : upd g.F p o' a = some u := e
    by_cases ha : a = p
    · subst ha; rw [upd_same] at e' ⊢; exact e'
    · rw [upd_ne ha] at e' ⊢; exact h.fz a u e'
  · have ne : a ≠ p := fun z => p3 n (z ▸ hm)
    have q := h.cel n c a hs hm
    cases c with
    | lst l => obtain ⟨vs, e, r⟩ := q; exact ⟨vs, by rw [upd_ne ne]; exact e, r.mono' (g := g) (g' := ⟨upd g.F p o', g.m, g0.pv⟩) gF fun _ _ e => e⟩
    | dct l => obtain ⟨vs, e, r⟩ := q; exact ⟨vs, by rw [upd_ne ne]; exact e, r.mono' (g := g) (g' := ⟨upd g.F p o', g.m, g0.pv⟩) gF fun _ _ e => e⟩
    | ins c fs =>
      obtain ⟨C, dx, ws, hmg, e, ed, ef, r⟩ := q
      have nd : dx ≠ p ∨ o = .own a := by
        by_cases z : dx = p
        · subst z
          rw [p1] at ed
          exact .inr (Option.some.inj ed)
        · exact .inl z
      rcases nd with nd | nd
      · exact ⟨C, dx, ws, hmg, by rw [upd_ne ne]; exact e, by rw [upd_ne nd]; exact ed, by show upd g.F p o' dx = none; rw [upd_ne nd]; exact ef, r.mono' (g := g) (g' := ⟨upd g.F p o', g.m, g0.pv⟩) gF fun _ _ e => e⟩
      · exact (no nd).elim
    | dead => obtain ⟨u, e⟩ := q; exact ⟨u, gF _ _ e⟩
  · rcases h.nf n c a hs hm with z | z
    · refine .inl ?_
      show upd g.F p o' a = none
      rw [upd_ne (fun z2 => p3 n (by rw [← z2]; exact hm))]
      exact z
    · exact .inr z
  · obtain ⟨e1, e2, e3⟩ := h.pvt q (by rw [hg]; exact List.mem_cons_of_mem _ hq)
    have ne := hn q hq
    exact ⟨by rw [upd_ne ne]; exact e1, by show upd g.F p o' q.1 = none; rw [upd_ne ne]; exact e2, e3⟩
end

/-! ### lists read: frozen, or a cell -/
/-- the items of a list of the program's own -/
def ownOf (S : Sto) : Dv → Option (List Dv)
  | .lst l => some l
  | .ref n => match S[n]? with
    | some (.lst l) => some l
    | _ => none
  | _ => none
/-- the items of a list -/
def listOf (S : Sto) : Dv → Option (List Dv)
  | .scr l => some l
  | d => ownOf S d
theorem own_at {B : Bs} {g : Gh} {H : Hp} {S : Sto} {d : Dv} {v : V} {l : List Dv} (h : Ok B g H S) (r : Rp B.K g d v) (e : ownOf S d = some l) : ∃ a vs, v = .ref a ∧ H a = some (.lst vs) ∧ Rps B.K g l vs := by
  cases r with
  | lst s q =>
    cases e
    exact ⟨_, _, rfl, h.fz _ _ s, q⟩
  | ref hm =>
    rename_i n a
    obtain ⟨c, hc⟩ := h.at_ hm
    simp only [ownOf, hc] at e
    cases c with
    | lst l' =>
      cases e
      obtain ⟨vs, ha, q⟩ := h.cel _ _ _ hc hm
      exact ⟨a, vs, rfl, ha, q⟩
    | dct _ => cases e
    | ins _ _ => cases e
    | dead => cases e
  | _ => cases e
theorem list_at {B : Bs} {g : Gh} {H : Hp} {S : Sto} {d : Dv} {v : V} {l : List Dv} (h : Ok B g H S) (r : Rp B.K g d v) (e : listOf S d = some l) : ∃ a vs, v = .ref a ∧ SqL B.K H a vs ∧ Rps B.K g l vs := by
  cases r with
  | scr s q =>
    cases e
    exact ⟨_, _, rfl, SqL_mono h.fz s, q⟩
  | lst s q =>
    obtain ⟨a, vs, h1, h2, h3⟩ := own_at h (.lst s q) e
    exact ⟨a, vs, h1, SqL.of h2, h3⟩
  | ref hm =>
    obtain ⟨a, vs, h1, h2, h3⟩ := own_at h (.ref hm) e
    exact ⟨a, vs, h1, SqL.of h2, h3⟩
  | _ => cases e
theorem tup_at {B : Bs} {g : Gh} {H : Hp} {S : Sto} {v : V} {l : List Dv} (h : Ok B g H S) (r : Rp B.K g (.tup l) v) : ∃ a vs, v = .ref a ∧ SqT B.K H a vs ∧ Rps B.K g l vs := by
  cases r with
  | tup s q => exact ⟨_, _, rfl, SqT_mono h.fz s, q⟩
end ML

/-! ML 2: the judgements over expressions; operators, comparisons, tests. -/
namespace ML
open PySem PySem.Spec PyProof.Rows L2

def Xr (B : Bs) (g : Gh) (H : Hp) (x : Exn) (c : Value) (dd : Option Addr) : Prop :=
  ∃ C, B.mg x.cls = some (.ref C) ∧ c = .ref C ∧ (x.fs = [] ∨ ∃ d ws, dd = some d ∧ H d = some (.xd ws) ∧ Rkv B.K g x.fs ws)
def Post {α β : Type} (B : Bs) (g : Gh) (R : Gh → α → β → Prop) (Q : β → Hp → Prop) (Wx : XK) : Rs α → Prop
  | .ok a S => ∀ g' b H', g.le g' → Ok B g' H' S → R g' a b → Q b H'
  | .er x S => ∀ g' c dd H', g.le g' → Ok B g' H' S → Xr B g' H' x c dd → Wx c dd H'
theorem Post.mono {α β : Type} {B : Bs} {g g1 : Gh} {R : Gh → α → β → Prop} {Q : β → Hp → Prop} {Wx : XK} {r : Rs α} (h : Post B g R Q Wx r) (hl : g.le g1) : Post B g1 R Q Wx r := by
  cases r with
  | ok a S => exact fun g' b H' l => h g' b H' (Gh.le_trans hl l)
  | er x S => exact fun g' c dd H' l => h g' c dd H' (Gh.le_trans hl l)
abbrev TX (β : Type) := L2.St → Hp → (β → Hp → Prop) → Prop
/-- a reading does what the mirror says -/
def Sn {α β : Type} (B : Bs) (W : WX) (R : Gh → α → β → Prop) (t : TX β) (f : Env' → M α) : Prop :=
  ∀ (g : Gh) (σ : L2.St) (H : Hp) (env : Env') (S : Sto) (r : Rs α) (Q : β → Hp → Prop), Ok B g H S → En B g σ env → f env S = some r → Post B g R Q (fun c dd H => W c dd σ H) r → t σ H Q
/-- what is behind a value, at the frame σ -/
def Sn1 {α β α1 β1 : Type} (B : Bs) (W : WX) (R1 : Gh → α1 → β1 → Prop) (R : Gh → α → β → Prop) (t : β1 → TX β) (f : α1 → Env' → M α) : Prop :=
  ∀ (g : Gh) (σ : L2.St) (H : Hp) (env : Env') (S : Sto) (a : α1) (b : β1) (r : Rs α) (Q : β → Hp → Prop), Ok B g H S → En B g σ env → R1 g a b → f a env S = some r → Post B g R Q (fun c dd H => W c dd σ H) r → t b σ H Q
theorem Sn.bind {α β α1 β1 : Type} {B : Bs} {W : WX} {R1 : Gh → α1 → β1 → Prop} {R : Gh → α → β → Prop} {t1 : TX β1} {f1 : Env' → M α1} {t2 : β1 → TX β} {f2 : α1 → Env' → M α}
    (h1 : Sn B W R1 t1 f1) (h2 : Sn1 B W R1 R t2 f2) : Sn B W R (fun σ H Q => t1 σ H fun b H1 => t2 b σ H1 Q) (fun env => do let a ← f1 env; f2 a env) := by
  intro g σ H env S r Q ok en e post
  rcases bind_some (x := f1 env) (f := fun a => f2 a env) e with ⟨a, S1, e1, e2⟩ | ⟨x, S1, e1, rfl⟩
  · exact h1 g σ H env S _ _ ok en e1 fun g' b H' l ok' r' => h2 g' σ H' env S1 a b r Q ok' (en.mono l) r' e2 (post.mono l)
  · exact h1 g σ H env S _ _ ok en e1 post
/-- the first value kept while a second one is asked -/
theorem Sn1.bind {α β α1 β1 α2 β2 : Type} {B : Bs} {W : WX} {R1 : Gh → α1 → β1 → Prop} {R2 : Gh → α2 → β2 → Prop} {R : Gh → α → β → Prop} {t2 : TX β2} {f2 : Env' → M α2} {t3 : β1 → β2 → TX β} {f3 : α1 → α2 → Env' → M α}
    (hm : ∀ g g' a b, g.le g' → R1 g a b → R1 g' a b) (h2 : Sn B W R2 t2 f2) (h3 : Sn1 B W (fun g (p : α1 × α2) (q : β1 × β2) => R1 g p.1 q.1 ∧ R2 g p.2 q.2) R (fun q => t3 q.1 q.2) (fun p => f3 p.1 p.2)) :
    Sn1 B W R1 R (fun b σ H Q => t2 σ H fun c H1 => t3 b c σ H1 Q) (fun a env => do let c ← f2 env; f3 a c env) := by
  intro g σ H env S a b r Q ok en ra e post
  rcases bind_some (x := f2 env) (f := fun c => f3 a c env) e with ⟨c, S1, e1, e2⟩ | ⟨x, S1, e1, rfl⟩
  · exact h2 g σ H env S _ _ ok en e1 fun g' d H' l ok' r' => h3 g' σ H' env S1 (a, c) (b, d) r Q ok' (en.mono l) ⟨hm _ _ _ _ l ra, r'⟩ e2 (post.mono l)
  · exact h2 g σ H env S _ _ ok en e1 post

/-- the standing premises -/
structure Ct (X : Cx) (W : WX) : Prop where
  calm : X.calm = true
  nd : X.N.Nodup
  un : X.A.units + 65 < cLine
  tk : Takes X W
abbrev Rv (X : Cx) : Gh → Dv → V → Prop := fun g => Rp X.K g
abbrev Rvs (X : Cx) : Gh → List Dv → List V → Prop := fun g => Rps X.K g
abbrev Re {α : Type} : Gh → α → α → Prop := fun _ a b => a = b
def DE (X : Cx) (W : WX) (e : Expr) (f : Env' → M Dv) : Prop := ∃ t : TE, PE X e t ∧ Sn X.bs W (Rv X) t f
def DT (X : Cx) (W : WX) (e : Expr) (f : Env' → M Bool) : Prop := ∃ t : TT, PT X e t ∧ Sn X.bs W Re t f
def DW (X : Cx) (W : WX) (e : Expr) (f : Env' → M Bool) : Prop := ∃ t : TT, PW X e t ∧ Sn X.bs W Re t f
def DA (X : Cx) (W : WX) (es : List Expr) (f : Env' → M (List Dv)) : Prop := ∃ t : TA, PA X es t ∧ Sn X.bs W (Rvs X) t f ∧ ∀ env S ds S', f env S = some (.ok ds S') → ds.length = es.length

/-! ### pure steps of the mirrors -/
def lift0 {α : Type} (o : Sto → Option α) : M α := fun S => match o S with
  | some d => some (.ok d S)
  | none => none
theorem lift0_some {α : Type} {o : Sto → Option α} {S : Sto} {r : Rs α} (h : lift0 o S = some r) : ∃ d, o S = some d ∧ r = .ok d S := by
  unfold lift0 at h
  cases e : o S with
  | none => rw [e] at h; cases h
  | some d => rw [e] at h; exact ⟨d, rfl, (Option.some.inj h).symm⟩
theorem pure_some {α : Type} {a : α} {S : Sto} {r : Rs α} (h : (pure a : M α) S = some r) : r = .ok a S := (Option.some.inj h).symm

section
variable {X : Cx} {W : WX}
/-! ### names, constants -/
def getv (i : Nat) (env : Env') : M Dv := match env[i]? with
  | some (some d) => M.pure d
  | _ => stuck
theorem de_var {i : Nat} {x : Str} {pos : Pos} (hN : X.N[i]? = some x) (hv : Vis X.env.scope x) (hd : (x == ("__debug__" : Str)) = false := by decide) (hcd : (x == ("__classdict__" : Str)) = false := by decide) :
    DE X W (.Name x pos) (getv i) := by
  refine ⟨_, pe_var hN hv hd hcd, fun g σ H env S r Q ok en e post => ?_⟩
  unfold getv at e
  cases he : env[i]? with
  | none => rw [he] at e; cases e
  | some o =>
    cases o with
    | none => rw [he] at e; cases e
    | some d =>
      rw [he] at e
      obtain ⟨v, h1, h2⟩ := en.at_ i d he
      have er := pure_some e
      subst er
      exact ⟨v, h1, post g v H (Gh.le_refl g) ok h2⟩
def eC (d : Dv) (_ : Env') : M Dv := pure d
theorem de_const {e : Expr} {d : Dv} {v : V} (hp : PE X e (tC v)) (hr : ∀ g, Rp X.K g d v) : DE X W e (eC d) := by
  refine ⟨_, hp, fun g σ H env S r Q ok en e post => ?_⟩
  have er := pure_some e
  subst er
  exact post g v H (Gh.le_refl g) ok (hr g)
theorem de_int {i j pos} : DE X W (.Constant (.int i) j pos) (eC (.int i)) := de_const pe_int fun _ => .int i
theorem de_bl {i j pos} : DE X W (.Constant (.bool i) j pos) (eC (.bl i)) := de_const pe_bl fun _ => .bl i
theorem de_non {j pos} : DE X W (.Constant .none j pos) (eC .non) := de_const pe_non fun _ => .non
theorem de_str {i j pos} : DE X W (.Constant (.str i) j pos) (eC (.str i)) := de_const pe_str fun _ => .str i
/-- a constant of the module -/
theorem de_glob {x : Str} {d : Dv} {v : V} {u : Value} {pos : Pos} (hm : X.mg x = some u) (r : RelV v u) (hr : ∀ g, Rp X.K g d v) (hg : Gl X x := by rfl) (hd : (x == ("__debug__" : Str)) = false := by decide) : DE X W (.Name x pos) (eC d) :=
  de_const (pe_glob hg hm r hd) hr

/-! ### binary operators -/
def OpD (X : Cx) (f : Value → Value → Sem Value) (o : Sto → Dv → Dv → Option Dv) : Prop :=
  ∃ r : R2, OpR X f r ∧ ∀ (g : Gh) (H : Hp) (S : Sto) (a b : Dv) (x y : V) (d : Dv) (Q : VK), Ok X.bs g H S → Rp X.K g a x → Rp X.K g b y → o S a b = some d →
    (∀ g' v H', g.le g' → Ok X.bs g' H' S → Rp X.K g' d v → Q v H') → r x y H Q
theorem OpD.or {f : Value → Value → Sem Value} {o o' : Sto → Dv → Dv → Option Dv} (h : OpD X f o) (h' : OpD X f o') : OpD X f (fun S a b => match o S a b with | some d => some d | none => o' S a b) := by
  obtain ⟨r, h1, h2⟩ := h
  obtain ⟨r', h1', h2'⟩ := h'
  refine ⟨_, h1.or h1', fun g H S a b x y d Q ok ra rb e q => ?_⟩
  dsimp only at e
  cases eo : o S a b with
  | some z => rw [eo] at e; cases e; exact .inl (h2 g H S a b x y _ Q ok ra rb eo q)
  | none => rw [eo] at e; exact .inr (h2' g H S a b x y d Q ok ra rb e q)
def op2 (o : Sto → Dv → Dv → Option Dv) (a b : Dv) : M Dv := lift0 fun S => o S a b
def eOp (o : Sto → Dv → Dv → Option Dv) (fa fb : Env' → M Dv) (env : Env') : M Dv := do let x ← fa env; let y ← fb env; op2 o x y
theorem sn_op {f : Value → Value → Sem Value} {o : Sto → Dv → Dv → Option Dv} {r : R2} {ta tb : TE} {fa fb : Env' → M Dv}
    (h2 : ∀ (g : Gh) (H : Hp) (S : Sto) (a b : Dv) (x y : V) (d : Dv) (Q : VK), Ok X.bs g H S → Rp X.K g a x → Rp X.K g b y → o S a b = some d → (∀ g' v H', g.le g' → Ok X.bs g' H' S → Rp X.K g' d v → Q v H') → r x y H Q)
    (ha : Sn X.bs W (Rv X) ta fa) (hb : Sn X.bs W (Rv X) tb fb) : Sn X.bs W (Rv X) (tOp r ta tb) (eOp o fa fb) := by
  refine Sn.bind (t2 := fun x σ H1 Q => tb σ H1 fun y H2 => r x y H2 Q) (f2 := fun a env => do let b ← fb env; op2 o a b) ha (Sn1.bind (t3 := fun x y σ H2 Q => r x y H2 Q) (f3 := fun a b _ => op2 o a b) (fun _ _ _ _ l r => Rp.mono l r) hb ?_)
  intro g σ H env S a b res Q ok en ⟨r1, r2⟩ e post
  obtain ⟨d, e', er⟩ := lift0_some e
  subst er
  exact h2 g H S a.1 a.2 b.1 b.2 d Q ok r1 r2 e' fun g' v H' l ok' rr => post g' v H' l ok' rr
theorem de_op {op : Operator} {a b : Expr} {fa fb : Env' → M Dv} {o : Sto → Dv → Dv → Option Dv} {pos : Pos} (ho : OpD X (binaryOp op) o) (ha : DE X W a fa) (hb : DE X W b fb) :
    DE X W (.BinOp a op b pos) (eOp o fa fb) := by
  obtain ⟨r, h1, h2⟩ := ho
  obtain ⟨ta, pa, sa⟩ := ha
  obtain ⟨tb, pb, sb⟩ := hb
  exact ⟨_, pe_op h1 pa pb, sn_op (f := binaryOp op) h2 sa sb⟩
theorem de_cmp {op : CmpOp} {a b : Expr} {fa fb : Env' → M Dv} {o : Sto → Dv → Dv → Option Dv} {pos : Pos} (ho : OpD X (compareOp op) o) (ha : DE X W a fa) (hb : DE X W b fb) (hm : behindInMarks op b = false) :
    DE X W (.Compare a [op] [b] pos) (eOp o fa fb) := by
  obtain ⟨r, h1, h2⟩ := ho
  obtain ⟨ta, pa, sa⟩ := ha
  obtain ⟨tb, pb, sb⟩ := hb
  exact ⟨_, pe_cmpR h1 pa pb hm, sn_op (f := compareOp op) h2 sa sb⟩
def asB : Dv → M Bool
  | .bl b => pure b
  | _ => stuck
def tB (f : Env' → M Dv) (env : Env') : M Bool := do let x ← f env; asB x
theorem sn_test {t : TE} {f : Env' → M Dv} (h : Sn X.bs W (Rv X) t f) : Sn X.bs W Re (tTest t) (tB f) := by
  refine Sn.bind (t2 := fun x _ H' Q => ∃ k, x = .bl k ∧ Q k H') (f2 := fun x _ => asB x) h ?_
  intro g σ H env S a b res Q ok en r e post
  cases a with
  | bl k =>
    cases r
    have er := pure_some e
    subst er
    exact ⟨k, rfl, post g k H (Gh.le_refl g) ok rfl⟩
  | _ => cases e
theorem dt_cmp {op : CmpOp} {a b : Expr} {fa fb : Env' → M Dv} {o : Sto → Dv → Dv → Option Dv} {pos : Pos} (ho : OpD X (compareOp op) o) (ha : DE X W a fa) (hb : DE X W b fb) (hm : behindInMarks op b = false) :
    DT X W (.Compare a [op] [b] pos) (tB (eOp o fa fb)) := by
  obtain ⟨r, h1, h2⟩ := ho
  obtain ⟨ta, pa, sa⟩ := ha
  obtain ⟨tb, pb, sb⟩ := hb
  exact ⟨_, pt_cmpR h1 pa pb hm, sn_test (sn_op (f := compareOp op) h2 sa sb)⟩

/-! ### the operators on data -/
def onI (p : Int → Int → Option Dv) : Sto → Dv → Dv → Option Dv := fun _ a b => match a, b with
  | .int i, .int j => p i j
  | _, _ => none
theorem op_onI {f : Value → Value → Sem Value} {C : Int → Int → Prop} [∀ i j, Decidable (C i j)] {k : Int → Int → V} {kd : Int → Int → Dv} (h : OpR X f (rI C k)) (hk : ∀ g i j, Rp X.K g (kd i j) (k i j)) :
    OpD X f (onI fun i j => if C i j then some (kd i j) else none) := by
  refine ⟨_, h, fun g H S a b x y d Q ok ra rb e q => ?_⟩
  unfold onI at e
  split at e
  · rename_i i j
    cases ra
    cases rb
    dsimp only at e
    split at e
    · rename_i hc
      cases e
      exact ⟨i, j, rfl, rfl, hc, q g _ H (Gh.le_refl g) ok (hk g i j)⟩
    · cases e
  · cases e
theorem op_onI0 {f : Value → Value → Sem Value} {k : Int → Int → V} {kd : Int → Int → Dv} (h : OpR X f (rI0 k)) (hk : ∀ g i j, Rp X.K g (kd i j) (k i j)) : OpD X f (onI fun i j => some (kd i j)) := by
  refine ⟨_, h, fun g H S a b x y d Q ok ra rb e q => ?_⟩
  unfold onI at e
  split at e
  · rename_i i j
    cases ra
    cases rb
    cases e
    exact ⟨i, j, rfl, rfl, q g _ H (Gh.le_refl g) ok (hk g i j)⟩
  · cases e
def onS (p : Str → Str → Option Dv) : Sto → Dv → Dv → Option Dv := fun _ a b => match a, b with
  | .str i, .str j => p i j
  | _, _ => none
def addS : Sto → Dv → Dv → Option Dv := onS fun i j => if i.length + j.length ≤ sizeLine then some (.str (i ++ j)) else none
theorem od_addS : OpD X (binaryOp .Add) addS := by
  refine ⟨_, op_add_str, fun g H S a b x y d Q ok ra rb e q => ?_⟩
  unfold addS onS at e
  split at e
  · rename_i i j
    cases ra
    cases rb
    dsimp only at e
    split at e
    · rename_i hc
      cases e
      exact ⟨i, j, rfl, rfl, hc, q g _ H (Gh.le_refl g) ok (.str _)⟩
    · cases e
  · cases e
def addT : Sto → Dv → Dv → Option Dv := fun _ a b => match a, b with
  | .tup l, .tup r => if l.length + r.length ≤ sizeLine then some (.tup (l ++ r)) else none
  | _, _ => none
theorem nilR {K : PySem.W.Frag} {g : Gh} {ds : List Dv} {vs : List V} (r : Rps K g ds vs) : ds = [] ↔ vs = [] := by
  cases r <;> simp
theorem od_addT : OpD X (binaryOp .Add) addT := by
  refine ⟨_, op_catA, fun g H S a b x y d Q ok ra rb e q => ?_⟩
  unfold addT at e
  split at e
  · rename_i l r
    split at e
    · rename_i hc
      cases e
      obtain ⟨p, vs, rfl, h1, r1⟩ := tup_at ok ra
      obtain ⟨p2, vs2, rfl, h2, r2⟩ := tup_at ok rb
      refine ⟨p, p2, vs, vs2, rfl, rfl, h1, h2, by rw [← r1.length, ← r2.length]; exact hc, fun z => ?_, fun z z2 => ?_, fun z z2 np hp => ?_⟩
      · have zl := (nilR r1).mpr z
        subst zl
        exact q g _ H (Gh.le_refl g) ok rb
      · have zl := (nilR r2).mpr z2
        subst zl
        rw [List.append_nil] at q
        exact q g _ H (Gh.le_refl g) ok ra
      · obtain ⟨hle, ok'⟩ := ok.newF (o := .tup (vs ++ vs2)) hp
        exact q _ _ _ hle ok' (.tup (SqT.of upd_same) ((r1.append r2).mono hle))
    · cases e
  · cases e
def addL : Sto → Dv → Dv → Option Dv := fun S a b => match ownOf S a, ownOf S b with
  | some l, some r => if l.length + r.length ≤ sizeLine then some (.lst (l ++ r)) else none
  | _, _ => none
theorem od_addL : OpD X (binaryOp .Add) addL := by
  refine ⟨_, op_cat, fun g H S a b x y d Q ok ra rb e q => ?_⟩
  unfold addL at e
  split at e
  · rename_i l r el er
    split at e
    · rename_i hc
      cases e
      obtain ⟨p, vs, rfl, h1, r1⟩ := own_at ok ra el
      obtain ⟨p2, vs2, rfl, h2, r2⟩ := own_at ok rb er
      refine ⟨p, p2, vs, vs2, rfl, rfl, h1, h2, by rw [← r1.length, ← r2.length]; exact hc, fun np hp => ?_⟩
      obtain ⟨hle, ok'⟩ := ok.newF (o := .lst (vs ++ vs2)) hp
      exact q _ _ _ hle ok' (.lst upd_same ((r1.append r2).mono hle))
    · cases e
  · cases e
/-- + -/
def addD : Sto → Dv → Dv → Option Dv := fun S a b => match a, b with
  | .int i, .int j => some (.int (i + j))
  | .str i, .str j => if i.length + j.length ≤ sizeLine then some (.str (i ++ j)) else none
  | .tup l, .tup r => if l.length + r.length ≤ sizeLine then some (.tup (l ++ r)) else none
  | a, b => addL S a b
theorem OpD.of {f : Value → Value → Sem Value} {o o' : Sto → Dv → Dv → Option Dv} (h : OpD X f o) (e : ∀ S a b d, o' S a b = some d → o S a b = some d) : OpD X f o' := by
  obtain ⟨r, h1, h2⟩ := h
  exact ⟨r, h1, fun g H S a b x y d Q ok ra rb eo q => h2 g H S a b x y d Q ok ra rb (e S a b d eo) q⟩
theorem od_add : OpD X (binaryOp .Add) addD := by
  refine OpD.of (OpD.or (op_onI0 (kd := fun i j => .int (i + j)) op_add fun _ _ _ => .int _) (OpD.or od_addS (OpD.or od_addT od_addL))) fun S a b d e => ?_
  unfold addD at e
  split at e
  · simpa [onI] using e
  · split at e
    · rename_i hc
      simp [onI, addS, onS, hc]
      exact Option.some.inj e
    · cases e
  · rename_i l r
    split at e
    · rename_i hc
      simp [onI, addS, onS, addT, hc]
      exact Option.some.inj e
    · cases e
  · rename_i h1 h2 h3
    have e1 : onI (fun i j => some (Dv.int (i + j))) S a b = none := by
      unfold onI
      split
      · exact (h1 _ _ rfl rfl).elim
      · rfl
    have e2 : addS S a b = none := by
      unfold addS onS
      split
      · exact (h2 _ _ rfl rfl).elim
      · rfl
    have e3 : addT S a b = none := by
      unfold addT
      split
      · exact (h3 _ _ rfl rfl).elim
      · rfl
    simp only [e1, e2, e3]
    exact e
def subD : Sto → Dv → Dv → Option Dv := onI fun i j => some (.int (i - j))
theorem od_sub : OpD X (binaryOp .Sub) subD := op_onI0 op_sub fun _ _ _ => .int _
instance {i j : Int} : Decidable (CMul i j) := by unfold CMul; infer_instance
instance {i j : Int} : Decidable (CDivN i j) := by unfold CDivN; infer_instance
instance {i j : Int} : Decidable (CPow i j) := by unfold CPow; infer_instance
def mulI : Sto → Dv → Dv → Option Dv := onI fun i j => if CMul i j then some (.int (i * j)) else none
theorem od_mulI : OpD X (binaryOp .Mult) mulI := op_onI op_mul fun _ _ _ => .int _
def fdivD : Sto → Dv → Dv → Option Dv := onI fun i j => if CDivN i j then some (.int (i.fdiv j)) else none
theorem od_fdiv : OpD X (binaryOp .FloorDiv) fdivD := op_onI op_fdivN fun _ _ _ => .int _
def modD : Sto → Dv → Dv → Option Dv := onI fun i j => if j ≠ 0 then some (.int (i.fmod j)) else none
theorem od_mod : OpD X (binaryOp .Mod) modD := op_onI op_modN fun _ _ _ => .int _
def powD : Sto → Dv → Dv → Option Dv := onI fun i j => if CPow i j then some (.int (i ^ j.toNat)) else none
theorem od_pow : OpD X (binaryOp .Pow) powD := op_onI op_pow fun _ _ _ => .int _

/-! ### order -/
def cmpI (p : Int → Int → Bool) : Sto → Dv → Dv → Option Dv := onI fun i j => some (.bl (p i j))
def ltD : Sto → Dv → Dv → Option Dv := cmpI fun i j => decide (i < j)
def leD : Sto → Dv → Dv → Option Dv := cmpI fun i j => decide (i ≤ j)
def gtD : Sto → Dv → Dv → Option Dv := cmpI fun i j => decide (j < i)
def geD : Sto → Dv → Dv → Option Dv := cmpI fun i j => decide (j ≤ i)
theorem od_lt : OpD X (compareOp .Lt) ltD := op_onI0 op_lt fun _ _ _ => .bl _
theorem od_le : OpD X (compareOp .LtE) leD := op_onI0 op_le fun _ _ _ => .bl _
theorem od_gt : OpD X (compareOp .Gt) gtD := op_onI0 op_gt fun _ _ _ => .bl _
theorem od_ge : OpD X (compareOp .GtE) geD := op_onI0 op_ge fun _ _ _ => .bl _

/-! ### equality of data -/
mutual
def pyOf (S : Sto) (top : Bool) : Dv → Option PyData
  | .non => some .none
  | .bl b => some (.bool b)
  | .int i => some (.int i)
  | .str x => some (.str x)
  | .tup l => (pysOf S l).map .tuple
  | .lst l => (pysOf S l).map .list
  | _ => none
def pysOf (S : Sto) : List Dv → Option (List PyData)
  | [] => some []
  | d :: ds => match pyOf S false d, pysOf S ds with
    | some p, some ps => some (p :: ps)
    | _, _ => none
end
/-- with a cell at the top -/
def pyTop (S : Sto) : Dv → Option PyData
  | .scr l => (pysOf S l).map .list
  | .ref n => match S[n]? with
    | some (.lst l) => (pysOf S l).map .list
    | _ => none
  | d => pyOf S false d
mutual
theorem pyOf_dp {B : Bs} {g : Gh} {H : Hp} {S : Sto} (ok : Ok B g H S) {k : Bool} : ∀ {d : Dv} {v : V} {p : PyData}, Rp B.K g d v → pyOf S k d = some p → Dp B.K H v p
  | _, _, _, .non, e => by cases e; exact .non
  | _, _, _, .bl b, e => by cases e; exact .bl b
  | _, _, _, .int b, e => by cases e; exact .int b
  | _, _, _, .str b, e => by cases e; exact .str b
  | _, _, _, .ty b, e => by cases e
  | _, _, _, .tup (l := l) s r, e => by
    simp only [pyOf] at e
    cases q : pysOf S l with
    | none => rw [q] at e; cases e
    | some ps => rw [q] at e; cases e; exact .tup (SqT_mono ok.fz s) (pysOf_dp ok r q)
  | _, _, _, .lst (l := l) s r, e => by
    simp only [pyOf] at e
    cases q : pysOf S l with
    | none => rw [q] at e; cases e
    | some ps => rw [q] at e; cases e; exact .lst (SqL.of (ok.fz _ _ s)) (pysOf_dp ok r q)
  | _, _, _, .scr _ _, e => by cases e
  | _, _, _, .ref _, e => by cases e
theorem pysOf_dp {B : Bs} {g : Gh} {H : Hp} {S : Sto} (ok : Ok B g H S) : ∀ {d : List Dv} {v : List V} {p : List PyData}, Rps B.K g d v → pysOf S d = some p → DpAll B.K H v p
  | _, _, _, .nil, e => by cases e; exact .nil
  | _, _, _, .cons (d := d) (ds := ds) r t, e => by
    simp only [pysOf] at e
    cases q : pyOf S false d with
    | none => rw [q] at e; cases e
    | some p =>
      cases q2 : pysOf S ds with
      | none => rw [q, q2] at e; cases e
      | some ps => rw [q, q2] at e; cases e; exact .cons (pyOf_dp ok r q) (pysOf_dp ok t q2)
end
theorem pyTop_dp {B : Bs} {g : Gh} {H : Hp} {S : Sto} (ok : Ok B g H S) {d : Dv} {v : V} {p : PyData} (r : Rp B.K g d v) (e : pyTop S d = some p) : Dp B.K H v p := by
  have lists : ∀ l, listOf S d = some l → (pysOf S l).map PyData.list = some p → Dp B.K H v p := fun l hl he => by
    obtain ⟨a, vs, rfl, s, rr⟩ := list_at ok r hl
    cases q : pysOf S l with
    | none => rw [q] at he; cases he
    | some ps => rw [q] at he; cases he; exact .lst s (pysOf_dp ok rr q)
  cases d with
  | scr l => exact lists l rfl e
  | ref n =>
    simp only [pyTop] at e
    cases q : S[n]? with
    | none => rw [q] at e; cases e
    | some c =>
      cases c with
      | lst l => rw [q] at e; exact lists l (by simp [listOf, ownOf, q]) e
      | dct _ => rw [q] at e; cases e
      | ins _ _ => rw [q] at e; cases e
      | dead => rw [q] at e; cases e
  | _ => exact pyOf_dp (k := false) ok r e
def eqPy (S : Sto) (a b : Dv) : Option Bool := match pyTop S a, pyTop S b with
  | some p, some q => if SeqAt.shaped p = true ∧ SeqAt.shaped q = true then some (PyData.eqv p q) else none
  | _, _ => none
def eqD : Sto → Dv → Dv → Option Dv := fun S a b => (eqPy S a b).map .bl
def neD : Sto → Dv → Dv → Option Dv := fun S a b => (eqPy S a b).map fun k => .bl (!k)
theorem eqPy_some {S : Sto} {a b : Dv} {k : Bool} (e : eqPy S a b = some k) : ∃ p q, pyTop S a = some p ∧ pyTop S b = some q ∧ SeqAt.shaped p = true ∧ SeqAt.shaped q = true ∧ k = PyData.eqv p q := by
  unfold eqPy at e
  split at e
  · rename_i p q h1 h2
    split at e
    · rename_i hc
      exact ⟨p, q, h1, h2, hc.1, hc.2, (Option.some.inj e).symm⟩
    · cases e
  · cases e
theorem od_eq (c : Ct X W) : OpD X (compareOp .Eq) eqD := by
  refine ⟨_, op_eqD (by have := c.un; omega), fun g H S a b x y d Q ok ra rb e q => ?_⟩
  obtain ⟨k, e1, e2⟩ := Option.map_eq_some_iff.mp e
  obtain ⟨p, p2, h1, h2, s1, s2, rfl⟩ := eqPy_some e1
  subst e2
  exact ⟨p, p2, pyTop_dp ok ra h1, pyTop_dp ok rb h2, s1, s2, q g _ H (Gh.le_refl g) ok (.bl _)⟩
theorem od_ne (c : Ct X W) : OpD X (compareOp .NotEq) neD := by
  refine ⟨_, op_neD (by have := c.un; omega), fun g H S a b x y d Q ok ra rb e q => ?_⟩
  obtain ⟨k, e1, e2⟩ := Option.map_eq_some_iff.mp e
  obtain ⟨p, p2, h1, h2, s1, s2, rfl⟩ := eqPy_some e1
  subst e2
  exact ⟨p, p2, pyTop_dp ok ra h1, pyTop_dp ok rb h2, s1, s2, q g _ H (Gh.le_refl g) ok (.bl _)⟩
/-- is None -/
def isND (neg : Bool) : Sto → Dv → Dv → Option Dv := fun _ a b => match b with
  | .non => some (.bl (match a with | .non => !neg | _ => neg))
  | _ => none
theorem rp_non {K : PySem.W.Frag} {g : Gh} {a : Dv} {v : V} (r : Rp K g a v) : decide (v = .non) = (match a with | .non => true | _ => false) := by
  cases r <;> rfl
theorem od_isN : OpD X (compareOp .Is) (isND false) := by
  refine ⟨_, op_isN, fun g H S a b x y d Q ok ra rb e q => ?_⟩
  cases b with
  | non =>
    cases rb
    cases e
    refine ⟨rfl, ?_⟩
    have h := rp_non ra
    have h2 := q g (.bl (decide (x = .non))) H (Gh.le_refl g) ok (by rw [h]; cases ra <;> exact .bl _)
    exact h2
  | _ => cases e
theorem od_notN : OpD X (compareOp .IsNot) (isND true) := by
  refine ⟨_, op_notN, fun g H S a b x y d Q ok ra rb e q => ?_⟩
  cases b with
  | non =>
    cases rb
    cases e
    refine ⟨rfl, ?_⟩
    have h := rp_non ra
    have h2 := q g (.bl (!decide (x = .non))) H (Gh.le_refl g) ok (by rw [h]; cases ra <;> exact .bl _)
    exact h2
  | _ => cases e

/-! ### in -/
def inSign : Str → Str → Option Bool := fun x z => match x.cps.toList with
  | [c] => some (decide (c ∈ z.cps.toList))
  | _ => none
theorem sign_of {x : Str} {c : Nat} (h : x.cps.toList = [c]) : x = ⟨#[c]⟩ := by
  cases x with
  | mk a =>
    have : a = #[c] := Array.toList_inj.mp (by simpa using h)
    rw [this]
def inS : Sto → Dv → Dv → Option Dv := onS fun x z => (inSign x z).map .bl
def ninS : Sto → Dv → Dv → Option Dv := onS fun x z => (inSign x z).map fun k => .bl (!k)
theorem inSign_some {x z : Str} {k : Bool} (e : inSign x z = some k) : ∃ c, x = ⟨#[c]⟩ ∧ k = decide (c ∈ z.cps.toList) := by
  unfold inSign at e
  split at e
  · rename_i c h
    exact ⟨c, sign_of h, (Option.some.inj e).symm⟩
  · cases e
theorem od_inS : OpD X (compareOp .In) inS := by
  refine ⟨_, op_in_sign, fun g H S a b x y d Q ok ra rb e q => ?_⟩
  unfold inS onS at e
  split at e
  · rename_i i j
    cases ra
    cases rb
    obtain ⟨k, e1, rfl⟩ := Option.map_eq_some_iff.mp e
    obtain ⟨c, rfl, rfl⟩ := inSign_some e1
    exact ⟨c, j, rfl, rfl, q g _ H (Gh.le_refl g) ok (.bl _)⟩
  · cases e
theorem od_ninS : OpD X (compareOp .NotIn) ninS := by
  refine ⟨_, op_notIn_sign, fun g H S a b x y d Q ok ra rb e q => ?_⟩
  unfold ninS onS at e
  split at e
  · rename_i i j
    cases ra
    cases rb
    obtain ⟨k, e1, rfl⟩ := Option.map_eq_some_iff.mp e
    obtain ⟨c, rfl, rfl⟩ := inSign_some e1
    exact ⟨c, j, rfl, rfl, q g _ H (Gh.le_refl g) ok (.bl _)⟩
  · cases e
/-- flat values -/
def flatD : Dv → Bool
  | .non => true
  | .bl _ => true
  | .int _ => true
  | .str _ => true
  | _ => false
def eqF : Dv → Dv → Bool
  | .non, .non => true
  | .bl a, .bl b => a == b
  | .bl a, .int b => (if a then 1 else 0) == b
  | .int a, .bl b => a == (if b then 1 else 0)
  | .int a, .int b => a == b
  | .str a, .str b => a == b
  | _, _ => false
theorem flat_rp {K : PySem.W.Frag} {g : Gh} {d : Dv} {v : V} (r : Rp K g d v) (h : flatD d = true) : flatV v = true := by
  cases r <;> first | rfl | cases h
theorem flats_rp {K : PySem.W.Frag} {g : Gh} : ∀ {ds : List Dv} {vs : List V}, Rps K g ds vs → ds.all flatD = true → vs.all flatV = true
  | _, _, .nil, _ => rfl
  | _, _, .cons r t, h => by
    rw [List.all_cons, Bool.and_eq_true] at h
    rw [List.all_cons, flat_rp r h.1, flats_rp t h.2]
    rfl
theorem eqF_rp {K : PySem.W.Frag} {g : Gh} {d e : Dv} {v w : V} (r : Rp K g d v) (q : Rp K g e w) (h : flatD d = true) (h2 : flatD e = true) : eqV v w = eqF d e := by
  cases r <;> first | (cases q <;> first | rfl | cases h2) | cases h
theorem inF_rp {K : PySem.W.Frag} {g : Gh} {d : Dv} {v : V} (r : Rp K g d v) (h : flatD d = true) : ∀ {ds : List Dv} {vs : List V}, Rps K g ds vs → ds.all flatD = true → inV v vs = ds.any fun y => eqF y d
  | _, _, .nil, _ => rfl
  | _, _, .cons r1 t, h2 => by
    rw [List.all_cons, Bool.and_eq_true] at h2
    have ih := inF_rp r h t h2.2
    unfold inV at ih ⊢
    rw [List.any_cons, List.any_cons, eqF_rp r1 r h2.1 h, ih]
def seqOf (S : Sto) : Dv → Option (List Dv)
  | .tup l => some l
  | d => listOf S d
theorem seq_at {B : Bs} {g : Gh} {H : Hp} {S : Sto} {d : Dv} {v : V} {l : List Dv} (h : Ok B g H S) (r : Rp B.K g d v) (e : seqOf S d = some l) : ∃ a vs, v = .ref a ∧ (SqL B.K H a vs ∨ SqT B.K H a vs) ∧ Rps B.K g l vs := by
  cases d with
  | tup l' =>
    cases e
    obtain ⟨a, vs, h1, h2, h3⟩ := tup_at h r
    exact ⟨a, vs, h1, .inr h2, h3⟩
  | _ =>
    obtain ⟨a, vs, h1, h2, h3⟩ := list_at h r e
    exact ⟨a, vs, h1, .inl h2, h3⟩
def inQ (neg : Bool) : Sto → Dv → Dv → Option Dv := fun S a b => match seqOf S b with
  | some l => if flatD a = true ∧ l.all flatD = true then some (.bl (if neg then !(l.any fun y => eqF y a) else l.any fun y => eqF y a)) else none
  | none => none
theorem od_inQ : OpD X (compareOp .In) (inQ false) := by
  refine ⟨_, op_in_seq, fun g H S a b x y d Q ok ra rb e q => ?_⟩
  unfold inQ at e
  split at e
  · rename_i l hl
    split at e
    · rename_i hc
      cases e
      obtain ⟨p, vs, rfl, h1, r1⟩ := seq_at ok rb hl
      refine ⟨p, vs, rfl, h1, flat_rp ra hc.1, flats_rp r1 hc.2, ?_⟩
      rw [inF_rp ra hc.1 r1 hc.2]
      exact q g _ H (Gh.le_refl g) ok (.bl _)
    · cases e
  · cases e
theorem od_ninQ : OpD X (compareOp .NotIn) (inQ true) := by
  refine ⟨_, op_notIn_seq, fun g H S a b x y d Q ok ra rb e q => ?_⟩
  unfold inQ at e
  split at e
  · rename_i l hl
    split at e
    · rename_i hc
      cases e
      obtain ⟨p, vs, rfl, h1, r1⟩ := seq_at ok rb hl
      refine ⟨p, vs, rfl, h1, flat_rp ra hc.1, flats_rp r1 hc.2, ?_⟩
      rw [inF_rp ra hc.1 r1 hc.2]
      exact q g _ H (Gh.le_refl g) ok (.bl _)
    · cases e
  · cases e
/-- in: a sign in a text, a flat value in a list or tuple -/
def inD : Sto → Dv → Dv → Option Dv := fun S a b => match inS S a b with | some d => some d | none => inQ false S a b
def ninD : Sto → Dv → Dv → Option Dv := fun S a b => match ninS S a b with | some d => some d | none => inQ true S a b
theorem od_in : OpD X (compareOp .In) inD := OpD.or od_inS od_inQ
theorem od_nin : OpD X (compareOp .NotIn) ninD := OpD.or od_ninS od_ninQ
end
end ML

/-! ML 3: chains, tests, displays, built-ins, subscripts, slices, methods. -/
namespace ML
open PySem PySem.Spec PyProof.Rows L2
section
variable {X : Cx} {W : WX}
/-! ### chains -/
def chainF (o o' : Sto → Dv → Dv → Option Dv) (fa fb fc : Env' → M Dv) : Env' → M Dv := fun env => do
  let x ← fa env; let y ← fb env; let z ← op2 o x y; let k ← asB z
  if k = true then (do let w ← fc env; op2 o' y w) else pure (.bl false)
theorem chain_sn {op op' : CmpOp} {fa fb fc : Env' → M Dv} {o o' : Sto → Dv → Dv → Option Dv} {r r' : R2} {ta tb tc : TE}
    (h2 : ∀ (g : Gh) (H : Hp) (S : Sto) (a b : Dv) (x y : V) (d : Dv) (Q : VK), Ok X.bs g H S → Rp X.K g a x → Rp X.K g b y → o S a b = some d → (∀ g' v H', g.le g' → Ok X.bs g' H' S → Rp X.K g' d v → Q v H') → r x y H Q)
    (h2' : ∀ (g : Gh) (H : Hp) (S : Sto) (a b : Dv) (x y : V) (d : Dv) (Q : VK), Ok X.bs g H S → Rp X.K g a x → Rp X.K g b y → o' S a b = some d → (∀ g' v H', g.le g' → Ok X.bs g' H' S → Rp X.K g' d v → Q v H') → r' x y H Q)
    (sa : Sn X.bs W (Rv X) ta fa) (sb : Sn X.bs W (Rv X) tb fb) (sc : Sn X.bs W (Rv X) tc fc) : Sn X.bs W (Rv X) (tChain r r' ta tb tc) (chainF o o' fa fb fc) := by
  refine fun g σ H env S res Q ok en e post => ?_
  unfold chainF at e
  rcases bind_some (x := fa env) e with ⟨x, S1, e1, e2⟩ | ⟨ex, S1, e1, rfl⟩
  · refine sa g σ H env S _ _ ok en e1 fun g1 v1 H1 l1 ok1 r1 => ?_
    rcases bind_some (x := fb env) e2 with ⟨y, S2, e3, e4⟩ | ⟨ex, S2, e3, rfl⟩
    · refine sb g1 σ H1 env S1 _ _ ok1 (en.mono l1) e3 fun g2 v2 H2 l2 ok2 r2 => ?_
      rcases bind_some (x := op2 o x y) e4 with ⟨z, S3, e5, e6⟩ | ⟨ex, S3, e5, rfl⟩
      · obtain ⟨d, e', er⟩ := lift0_some e5
        cases er
        refine h2 g2 H2 S2 x y v1 v2 z _ ok2 (r1.mono l2) r2 e' fun g3 v3 H3 l3 ok3 r3 => ?_
        rcases bind_some (x := asB z) e6 with ⟨k, S4, e7, e8⟩ | ⟨ex, S4, e7, _⟩
        · cases z with
          | bl b =>
            cases e7
            cases r3
            refine ⟨k, rfl, ?_⟩
            have l13 := Gh.le_trans l1 (Gh.le_trans l2 l3)
            cases k with
            | true =>
              rw [if_pos rfl] at e8 ⊢
              rcases bind_some (x := fc env) e8 with ⟨w, S5, e9, e10⟩ | ⟨ex, S5, e9, rfl⟩
              · refine sc g3 σ H3 env S2 _ _ ok3 (en.mono l13) e9 fun g4 v4 H4 l4 ok4 r4 => ?_
                obtain ⟨d, e', er⟩ := lift0_some e10
                subst er
                exact h2' g4 H4 S5 y w v2 v4 d _ ok4 (r2.mono (Gh.le_trans l3 l4)) r4 e' fun g5 v5 H5 l5 ok5 r5 => (post.mono l13) g5 v5 H5 (Gh.le_trans l4 l5) ok5 r5
              · exact sc g3 σ H3 env S2 _ _ ok3 (en.mono l13) e9 (post.mono l13)
            | false =>
              rw [if_neg Bool.false_ne_true] at e8 ⊢
              have er := pure_some e8
              subst er
              exact post g3 _ H3 l13 ok3 (.bl false)
          | _ => cases e7
        · cases z with
          | bl b => cases e7
          | _ => cases e7
      · obtain ⟨d, e', er⟩ := lift0_some e5
        cases er
    · exact sb g1 σ H1 env S1 _ _ ok1 (en.mono l1) e3 (post.mono l1)
  · exact sa g σ H env S _ _ ok en e1 post

theorem de_chain {op op' : CmpOp} {a b c : Expr} {fa fb fc : Env' → M Dv} {o o' : Sto → Dv → Dv → Option Dv} {pos : Pos} (ho : OpD X (compareOp op) o) (ho' : OpD X (compareOp op') o')
    (ha : DE X W a fa) (hb : DE X W b fb) (hc : DE X W c fc) (h : ∀ {r r' : R2} {ta tb tc : TE}, OpR X (compareOp op) r → OpR X (compareOp op') r' → PE X a ta → PE X b tb → PE X c tc → PE X (.Compare a [op, op'] [b, c] pos) (tChain r r' ta tb tc)) :
    DE X W (.Compare a [op, op'] [b, c] pos) (chainF o o' fa fb fc) := by
  obtain ⟨r, h1, h2⟩ := ho
  obtain ⟨r', h1', h2'⟩ := ho'
  obtain ⟨ta, pa, sa⟩ := ha
  obtain ⟨tb, pb, sb⟩ := hb
  obtain ⟨tc, pc, sc⟩ := hc
  exact ⟨_, h h1 h1' pa pb pc, chain_sn (op := op) (op' := op') h2 h2' sa sb sc⟩

/-! ### tests -/
def truD (S : Sto) : Dv → Option Bool
  | .non => some false
  | .bl b => some b
  | .int i => some (i != 0)
  | .str y => if y.length ≤ sizeLine then some ((y.length : Int) != 0) else none
  | .tup l => some (!l.isEmpty)
  | .lst l => some (!l.isEmpty)
  | .scr l => some (!l.isEmpty)
  | .ref n => match S[n]? with
    | some (.lst l) => some (!l.isEmpty)
    | some (.dct l) => some (!l.isEmpty)
    | _ => none
  | .ty _ => none
theorem emp_rps {K : PySem.W.Frag} {g : Gh} {ds : List Dv} {vs : List V} (r : Rps K g ds vs) : ds.isEmpty = vs.isEmpty := by cases r <;> rfl
theorem emp_rkv {κ : Type} {K : PySem.W.Frag} {g : Gh} : ∀ {ds : List (κ × Dv)} {vs : List (κ × V)}, Rkv K g ds vs → ds.isEmpty = vs.isEmpty
  | [], [], _ => rfl
  | _ :: _, _ :: _, _ => rfl
  | [], _ :: _, x => x.elim
  | _ :: _, [], x => x.elim
theorem tru_at {B : Bs} {g : Gh} {H : Hp} {S : Sto} {d : Dv} {v : V} {k : Bool} (ok : Ok B g H S) (r : Rp B.K g d v) (e : truD S d = some k) : TruV B.K v H k := by
  cases r with
  | non => cases e; rfl
  | bl b => cases e; rfl
  | int i => cases e; rfl
  | str y =>
    simp only [truD] at e
    split at e
    · rename_i h
      cases e
      exact ⟨h, rfl⟩
    · cases e
  | ty n => cases e
  | tup s q =>
    cases e
    exact .inr (.inl ⟨_, SqT_mono ok.fz s, by rw [emp_rps q]⟩)
  | lst s q =>
    cases e
    exact .inl ⟨_, SqL.of (ok.fz _ _ s), by rw [emp_rps q]⟩
  | scr s q =>
    cases e
    exact .inl ⟨_, SqL_mono ok.fz s, by rw [emp_rps q]⟩
  | ref hm =>
    obtain ⟨c, hc⟩ := ok.at_ hm
    simp only [truD, hc] at e
    have q := ok.cel _ _ _ hc hm
    cases c with
    | lst l =>
      cases e
      obtain ⟨vs, h1, h2⟩ := q
      exact .inl ⟨_, SqL.of h1, by rw [emp_rps h2]⟩
    | dct l =>
      cases e
      obtain ⟨vs, h1, h2⟩ := q
      exact .inr (.inr ⟨_, h1, by rw [emp_rkv h2]⟩)
    | ins _ _ => cases e
    | dead => cases e
def truM (d : Dv) : M Bool := lift0 fun S => truD S d
def tTru (f : Env' → M Dv) (env : Env') : M Bool := do let d ← f env; truM d
def tAnd2 (fa fb : Env' → M Bool) (env : Env') : M Bool := do let k ← fa env; if k = true then fb env else pure false
def tOr2 (fa fb : Env' → M Bool) (env : Env') : M Bool := do let k ← fa env; if k = true then pure true else fb env
def tNot1 (fa : Env' → M Bool) (env : Env') : M Bool := do let k ← fa env; pure (!k)
def eAnd (fa fb : Env' → M Dv) (env : Env') : M Dv := do let x ← fa env; let k ← asB x; if k = true then fb env else pure (.bl false)
def eOr (fa fb : Env' → M Dv) (env : Env') : M Dv := do let x ← fa env; let k ← asB x; if k = true then pure (.bl true) else fb env
def eNot (fa : Env' → M Dv) (env : Env') : M Dv := do let x ← fa env; let k ← asB x; pure (.bl (!k))
def eIfE (fc : Env' → M Bool) (fa fb : Env' → M Dv) (env : Env') : M Dv := do let k ← fc env; if k = true then fa env else fb env
def eBnd (f : Env' → M Dv) (o : Dv → M Dv) (env : Env') : M Dv := do let x ← f env; o x
def aNil (_ : Env') : M (List Dv) := pure []
def aCons (f : Env' → M Dv) (fs : Env' → M (List Dv)) (env : Env') : M (List Dv) := do let d ← f env; let ds ← fs env; pure (d :: ds)
def eArg (fs : Env' → M (List Dv)) (o : List Dv → M Dv) (env : Env') : M Dv := do let ds ← fs env; o ds
theorem dt_truth {e : Expr} {f : Env' → M Dv} (h : DE X W e f) (he : ∀ whole, isTrue e X.env whole = (do let v ← whole; standAt e.pos; holding [v] (truthy v)) := by intro _; rfl) :
    DT X W e (tTru f) := by
  obtain ⟨t, p, s⟩ := h
  refine ⟨_, pt_truth p he, Sn.bind (t2 := fun x _ H' Q => ∃ k, TruV X.K x H' k ∧ Q k H') (f2 := fun d _ => truM d) s ?_⟩
  intro g σ H env S a b res Q ok en r e post
  obtain ⟨k, e', er⟩ := lift0_some e
  subst er
  exact ⟨k, tru_at ok r e', post g k H (Gh.le_refl g) ok rfl⟩
theorem dw_and1 {a : Expr} {fa : Env' → M Bool} {pos : Pos} (ha : DT X W a fa) : DW X W (.BoolOp .And [a] pos) fa := by
  obtain ⟨t, p, s⟩ := ha
  exact ⟨t, pw_and1 p, s⟩
theorem dw_or1 {a : Expr} {fa : Env' → M Bool} {pos : Pos} (ha : DT X W a fa) : DW X W (.BoolOp .Or [a] pos) fa := by
  obtain ⟨t, p, s⟩ := ha
  exact ⟨t, pw_or1 p, s⟩
theorem dw_and {a b : Expr} {rest : List Expr} {fa fb : Env' → M Bool} {pos : Pos} (ha : DT X W a fa) (hb : DW X W (.BoolOp .And (b :: rest) pos) fb) :
    DW X W (.BoolOp .And (a :: b :: rest) pos) (tAnd2 fa fb) := by
  obtain ⟨t, p, s⟩ := ha
  obtain ⟨t2, p2, s2⟩ := hb
  refine ⟨_, pw_and p p2, Sn.bind (t2 := fun c σ H1 Q => if c = true then t2 σ H1 Q else Q false H1) (f2 := fun k env => if k = true then fb env else pure false) s ?_⟩
  intro g σ H env S a b res Q ok en r e post
  cases r
  cases a with
  | true => exact s2 g σ H env S res Q ok en e post
  | false =>
    have er := pure_some e
    subst er
    exact post g false H (Gh.le_refl g) ok rfl
theorem dw_or {a b : Expr} {rest : List Expr} {fa fb : Env' → M Bool} {pos : Pos} (ha : DT X W a fa) (hb : DW X W (.BoolOp .Or (b :: rest) pos) fb) :
    DW X W (.BoolOp .Or (a :: b :: rest) pos) (tOr2 fa fb) := by
  obtain ⟨t, p, s⟩ := ha
  obtain ⟨t2, p2, s2⟩ := hb
  refine ⟨_, pw_or p p2, Sn.bind (t2 := fun c σ H1 Q => if c = true then Q true H1 else t2 σ H1 Q) (f2 := fun k env => if k = true then pure true else fb env) s ?_⟩
  intro g σ H env S a b res Q ok en r e post
  cases r
  cases a with
  | false => exact s2 g σ H env S res Q ok en e post
  | true =>
    have er := pure_some e
    subst er
    exact post g true H (Gh.le_refl g) ok rfl
theorem dt_w {e : Expr} {f : Env' → M Bool} (h : DW X W e f) : DT X W e f := by
  obtain ⟨t, p, s⟩ := h
  exact ⟨t, p.pt, s⟩
theorem dt_not {a : Expr} {fa : Env' → M Bool} {pos : Pos} (ha : DT X W a fa) : DT X W (.UnaryOp .Not a pos) (tNot1 fa) := by
  obtain ⟨t, p, s⟩ := ha
  refine ⟨_, pt_not p, Sn.bind (t2 := fun c _ H1 Q => Q (!c) H1) (f2 := fun k _ => pure (!k)) s ?_⟩
  intro g σ H env S a b res Q ok en r e post
  cases r
  have er := pure_some e
  subst er
  exact post g _ H (Gh.le_refl g) ok rfl
/-! ### and, or, not as values -/
theorem de_one {op : PySem.BoolOp} {a : Expr} {fa : Env' → M Dv} {pos : Pos} (ha : DE X W a fa) : DE X W (.BoolOp op [a] pos) fa := by
  obtain ⟨t, p, s⟩ := ha
  exact ⟨t, pe_one p, s⟩
theorem de_and {a b : Expr} {rest : List Expr} {fa fb : Env' → M Dv} {pos : Pos} (ha : DE X W a fa) (hb : DE X W (.BoolOp .And (b :: rest) pos) fb) :
    DE X W (.BoolOp .And (a :: b :: rest) pos) (eAnd fa fb) := by
  obtain ⟨t, p, s⟩ := ha
  obtain ⟨t2, p2, s2⟩ := hb
  refine ⟨_, pe_and p p2, Sn.bind (t2 := fun x σ H1 Q => ∃ c, x = .bl c ∧ if c = true then t2 σ H1 Q else Q (V.bl false) H1) (f2 := fun x env => do let k ← asB x; if k = true then fb env else pure (.bl false)) s ?_⟩
  intro g σ H env S a b res Q ok en r e post
  rcases bind_some (x := asB a) e with ⟨k, S1, e1, e2⟩ | ⟨ex, S1, e1, _⟩
  · cases a with
    | bl c =>
      cases e1
      cases r
      refine ⟨k, rfl, ?_⟩
      cases k with
      | true => exact s2 g σ H env S res Q ok en e2 post
      | false =>
        have er := pure_some e2
        subst er
        exact post g _ H (Gh.le_refl g) ok (.bl _)
    | _ => cases e1
  · cases a <;> cases e1
theorem de_or {a b : Expr} {rest : List Expr} {fa fb : Env' → M Dv} {pos : Pos} (ha : DE X W a fa) (hb : DE X W (.BoolOp .Or (b :: rest) pos) fb) :
    DE X W (.BoolOp .Or (a :: b :: rest) pos) (eOr fa fb) := by
  obtain ⟨t, p, s⟩ := ha
  obtain ⟨t2, p2, s2⟩ := hb
  refine ⟨_, pe_or p p2, Sn.bind (t2 := fun x σ H1 Q => ∃ c, x = .bl c ∧ if c = true then Q (V.bl true) H1 else t2 σ H1 Q) (f2 := fun x env => do let k ← asB x; if k = true then pure (.bl true) else fb env) s ?_⟩
  intro g σ H env S a b res Q ok en r e post
  rcases bind_some (x := asB a) e with ⟨k, S1, e1, e2⟩ | ⟨ex, S1, e1, _⟩
  · cases a with
    | bl c =>
      cases e1
      cases r
      refine ⟨k, rfl, ?_⟩
      cases k with
      | false => exact s2 g σ H env S res Q ok en e2 post
      | true =>
        have er := pure_some e2
        subst er
        exact post g _ H (Gh.le_refl g) ok (.bl _)
    | _ => cases e1
  · cases a <;> cases e1
theorem de_not {a : Expr} {fa : Env' → M Dv} {pos : Pos} (ha : DE X W a fa) : DE X W (.UnaryOp .Not a pos) (eNot fa) := by
  obtain ⟨t, p, s⟩ := ha
  refine ⟨_, pe_not p, Sn.bind (t2 := fun x _ H1 Q => ∃ c, x = .bl c ∧ Q (V.bl (!c)) H1) (f2 := fun x _ => do let k ← asB x; pure (Dv.bl (!k))) s ?_⟩
  intro g σ H env S a b res Q ok en r e post
  rcases bind_some (x := asB a) e with ⟨k, S1, e1, e2⟩ | ⟨ex, S1, e1, _⟩
  · cases a with
    | bl c =>
      cases e1
      cases r
      have er := pure_some e2
      subst er
      exact ⟨k, rfl, post g _ H (Gh.le_refl g) ok (.bl _)⟩
    | _ => cases e1
  · cases a <;> cases e1
theorem de_ifExp {c a b : Expr} {fc : Env' → M Bool} {fa fb : Env' → M Dv} {pos : Pos} (hc : DT X W c fc) (ha : DE X W a fa) (hb : DE X W b fb) :
    DE X W (.IfExp c a b pos) (eIfE fc fa fb) := by
  obtain ⟨tc, pc, sc⟩ := hc
  obtain ⟨ta, pa, sa⟩ := ha
  obtain ⟨tb, pb, sb⟩ := hb
  refine ⟨_, pe_ifExp pc pa pb, Sn.bind (t2 := fun c σ H1 Q => if c = true then ta σ H1 Q else tb σ H1 Q) (f2 := fun k env => if k = true then fa env else fb env) sc ?_⟩
  intro g σ H env S a b res Q ok en r e post
  cases r
  cases a with
  | true => exact sa g σ H env S res Q ok en e post
  | false => exact sb g σ H env S res Q ok en e post
def unI (p : Int → Dv) : Dv → M Dv
  | .int i => pure (p i)
  | _ => stuck
theorem de_neg {a : Expr} {fa : Env' → M Dv} {pos : Pos} (ha : DE X W a fa) : DE X W (.UnaryOp .USub a pos) (eBnd fa (unI fun i => .int (-i))) := by
  obtain ⟨t, p, s⟩ := ha
  refine ⟨_, pe_un un_neg p, Sn.bind (t2 := fun x _ H1 Q => rU (fun i => .int (-i)) x H1 Q) (f2 := fun x _ => unI (fun i => .int (-i)) x) s ?_⟩
  intro g σ H env S a b res Q ok en r e post
  cases a with
  | int i =>
    cases r
    have er := pure_some e
    subst er
    exact ⟨i, rfl, post g _ H (Gh.le_refl g) ok (.int _)⟩
  | _ => cases e

/-! ### arguments, displays -/
theorem da_nil : DA X W [] aNil := by
  refine ⟨_, pa_nil, fun g σ H env S r Q ok en e post => ?_, fun env S ds S' e => by cases e; rfl⟩
  have er := pure_some e
  subst er
  exact post g [] H (Gh.le_refl g) ok .nil
theorem da_cons {e : Expr} {es : List Expr} {f : Env' → M Dv} {fs : Env' → M (List Dv)} (h : DE X W e f) (hs : DA X W es fs) (hst : starEach (e :: es) X.env = (false, eval e X.env) :: starEach es X.env := by rfl) :
    DA X W (e :: es) (aCons f fs) := by
  obtain ⟨t, p, s⟩ := h
  obtain ⟨t2, p2, s2, hl⟩ := hs
  refine ⟨_, pa_cons p p2 hst, ?_, fun env S ds S' e => ?_⟩
  rotate_left
  · rcases bind_some (x := f env) e with ⟨d, S1, e1, e2⟩ | ⟨_, _, _, q⟩
    · rcases bind_some (x := fs env) e2 with ⟨dr, S2, e3, e4⟩ | ⟨_, _, _, q⟩
      · have q := pure_some e4
        cases q
        simp [hl env S1 dr _ e3]
      · cases q
    · cases q
  refine Sn.bind (t2 := fun x σ H1 Q => t2 σ H1 fun xs H2 => Q (x :: xs) H2) (f2 := fun d env => do let ds ← fs env; pure (d :: ds)) s (Sn1.bind (t3 := fun x xs _ H2 Q => Q (x :: xs) H2) (f3 := fun d ds _ => pure (d :: ds)) (fun _ _ _ _ l r => Rp.mono l r) s2 ?_)
  intro g σ H env S a b res Q ok en ⟨r1, r2⟩ e post
  have er := pure_some e
  subst er
  exact post g _ H (Gh.le_refl g) ok (.cons r1 r2)
def mkT (ds : List Dv) : M Dv := fun S => if ds.length ≤ sizeLine then some (.ok (.tup ds) S) else none
def mkL (ds : List Dv) : M Dv := fun S => if ds.length ≤ sizeLine then some (.ok (.lst ds) S) else none
/-- a list that will be changed -/
def mkC (ds : List Dv) : M Dv := fun S => if ds.length ≤ sizeLine then some (.ok (.ref S.length) (S ++ [.lst ds])) else none
theorem post_T {B : Bs} {g : Gh} {H : Hp} {S : Sto} {ds : List Dv} {vs : List V} {r : Rs Dv} {Q : VK} {Wx : XK} (ok : Ok B g H S) (rr : Rps B.K g ds vs) (e : mkT ds S = some r) (post : Post B g (fun g => Rp B.K g) Q Wx r) :
    vs.length ≤ sizeLine ∧ ∀ p, H p = none → Q (.ref p) (upd H p (.tup vs)) := by
  unfold mkT at e
  split at e
  · rename_i hc
    cases e
    refine ⟨by rw [← rr.length]; exact hc, fun p hp => ?_⟩
    obtain ⟨hle, ok'⟩ := ok.newF (o := .tup vs) hp
    exact post _ _ _ hle ok' (.tup (SqT.of upd_same) (rr.mono hle))
  · cases e
theorem post_L {B : Bs} {g : Gh} {H : Hp} {S : Sto} {ds : List Dv} {vs : List V} {r : Rs Dv} {Q : VK} {Wx : XK} (ok : Ok B g H S) (rr : Rps B.K g ds vs) (e : mkL ds S = some r) (post : Post B g (fun g => Rp B.K g) Q Wx r) :
    vs.length ≤ sizeLine ∧ ∀ p, H p = none → Q (.ref p) (upd H p (.lst vs)) := by
  unfold mkL at e
  split at e
  · rename_i hc
    cases e
    refine ⟨by rw [← rr.length]; exact hc, fun p hp => ?_⟩
    obtain ⟨hle, ok'⟩ := ok.newF (o := .lst vs) hp
    exact post _ _ _ hle ok' (.lst upd_same (rr.mono hle))
  · cases e
theorem post_C {B : Bs} {g : Gh} {H : Hp} {S : Sto} {ds : List Dv} {vs : List V} {r : Rs Dv} {Q : VK} {Wx : XK} (ok : Ok B g H S) (rr : Rps B.K g ds vs) (e : mkC ds S = some r) (post : Post B g (fun g => Rp B.K g) Q Wx r) :
    vs.length ≤ sizeLine ∧ ∀ p, H p = none → Q (.ref p) (upd H p (.lst vs)) := by
  unfold mkC at e
  split at e
  · rename_i hc
    cases e
    refine ⟨by rw [← rr.length]; exact hc, fun p hp => ?_⟩
    obtain ⟨hle, ok'⟩ := ok.newC (o := .lst vs) (c := .lst ds) hp ⟨vs, upd_same, rr.mono Gh.cell_le⟩
    refine post _ _ _ hle ok' (.ref ?_)
    rw [← ok.len]
    exact Gh.cell_at
  · cases e
theorem de_tup {es : List Expr} {fs : Env' → M (List Dv)} {x1} {pos : Pos} (h : DA X W es fs) : DE X W (.Tuple es x1 pos) (eArg fs mkT) := by
  obtain ⟨t, p, s, _⟩ := h
  refine ⟨_, pe_tup p, Sn.bind (t2 := fun xs _ H1 Q => xs.length ≤ sizeLine ∧ ∀ p, H1 p = none → Q (V.ref p) (upd H1 p (.tup xs))) (f2 := fun ds _ => mkT ds) s ?_⟩
  intro g σ H env S a b res Q ok en r e post
  exact post_T ok r e post
theorem de_lst {es : List Expr} {fs : Env' → M (List Dv)} {pos : Pos} (h : DA X W es fs) : DE X W (.List es pos) (eArg fs mkL) := by
  obtain ⟨t, p, s, _⟩ := h
  refine ⟨_, pe_lst p, Sn.bind (t2 := fun xs _ H1 Q => xs.length ≤ sizeLine ∧ ∀ p, H1 p = none → Q (V.ref p) (upd H1 p (.lst xs))) (f2 := fun ds _ => mkL ds) s ?_⟩
  intro g σ H env S a b res Q ok en r e post
  exact post_L ok r e post
theorem de_lstC {es : List Expr} {fs : Env' → M (List Dv)} {pos : Pos} (h : DA X W es fs) : DE X W (.List es pos) (eArg fs mkC) := by
  obtain ⟨t, p, s, _⟩ := h
  refine ⟨_, pe_lst p, Sn.bind (t2 := fun xs _ H1 Q => xs.length ≤ sizeLine ∧ ∀ p, H1 p = none → Q (V.ref p) (upd H1 p (.lst xs))) (f2 := fun ds _ => mkC ds) s ?_⟩
  intro g σ H env S a b res Q ok en r e post
  exact post_C ok r e post

/-! ### built-ins -/
def CallD (X : Cx) (f : Value) (o : List Dv → M Dv) : Prop :=
  ∃ r : List V → Hp → VK → Prop, CallR X f r ∧ ∀ (g : Gh) (H : Hp) (S : Sto) (ds : List Dv) (vs : List V) (res : Rs Dv) (Q : VK) (Wx : XK), Ok X.bs g H S → Rps X.K g ds vs → o ds S = some res → Post X.bs g (Rv X) Q Wx res → r vs H Q
def orM (o o' : List Dv → M Dv) : List Dv → M Dv := fun ds S => match o ds S with
  | some r => some r
  | none => o' ds S
theorem CallD.or {f : Value} {o o' : List Dv → M Dv} (h : CallD X f o) (h' : CallD X f o') : CallD X f (orM o o') := by
  obtain ⟨r, h1, h2⟩ := h
  obtain ⟨r', h1', h2'⟩ := h'
  refine ⟨fun vs H Q => r vs H Q ∨ r' vs H Q, fun pins s σ H vs us Q I rr q => ?_, fun g H S ds vs res Q Wx ok rr e post => ?_⟩
  · rcases q with q | q
    · exact h1 pins s σ H vs us Q I rr q
    · exact h1' pins s σ H vs us Q I rr q
  · unfold orM at e
    cases eo : o ds S with
    | some z => rw [eo] at e; cases e; exact .inl (h2 g H S ds vs _ Q Wx ok rr eo post)
    | none => rw [eo] at e; exact .inr (h2' g H S ds vs _ Q Wx ok rr e post)
theorem de_callB {id : String} {o : List Dv → M Dv} {x : Str} {p pos : Pos} {e : Expr} {es : List Expr} {fs : Env' → M (List Dv)} (hc : CallD X (.builtin id) o) (hm : X.mg x = none) (hv : bootBuiltins x = some (.builtin id)) (ha : DA X W (e :: es) fs) (hg : Gl X x := by rfl)
    (hn : x ≠ "__name__" := by decide) (hdb : (x == ("__debug__" : Str)) = false := by decide)
    (he : starEach (e :: es) X.env = (false, eval e X.env) :: starEach es X.env := by rfl) (hpl : (backTo pos (starEach es X.env)).any (·.1) = false := by rfl) : DE X W (.Call (.Name x p) (e :: es) [] pos) (eArg fs o) := by
  obtain ⟨r, h1, h2⟩ := hc
  obtain ⟨t, pa, s, _⟩ := ha
  refine ⟨_, pe_callB h1 hg hm hv pa hn hdb he hpl, Sn.bind (t2 := fun vs _ H1 Q => r vs H1 Q) (f2 := fun ds _ => o ds) s ?_⟩
  intro g σ H env S a b res Q ok en rr e post
  exact h2 g H S a b res Q _ ok rr e post
theorem de_callTy {T : String} {o : List Dv → M Dv} {x : Str} {p pos : Pos} {e : Expr} {es : List Expr} {fs : Env' → M (List Dv)} (hc : CallD X (.type T) o) (hm : X.mg x = none) (hv : bootBuiltins x = some (.type T)) (ha : DA X W (e :: es) fs) (hg : Gl X x := by rfl)
    (hn : x ≠ "__name__" := by decide) (hdb : (x == ("__debug__" : Str)) = false := by decide)
    (he : starEach (e :: es) X.env = (false, eval e X.env) :: starEach es X.env := by rfl) (hpl : (backTo pos (starEach es X.env)).any (·.1) = false := by rfl) : DE X W (.Call (.Name x p) (e :: es) [] pos) (eArg fs o) := by
  obtain ⟨r, h1, h2⟩ := hc
  obtain ⟨t, pa, s, _⟩ := ha
  refine ⟨_, pe_callTy h1 hg hm hv pa hn hdb he hpl, Sn.bind (t2 := fun vs _ H1 Q => r vs H1 Q) (f2 := fun ds _ => o ds) s ?_⟩
  intro g σ H env S a b res Q ok en rr e post
  exact h2 g H S a b res Q _ ok rr e post
/-- a built-in that only reads -/
def opA (o : Sto → List Dv → Option Dv) (ds : List Dv) : M Dv := lift0 fun S => o S ds
theorem callD0 {f : Value} {o : Sto → List Dv → Option Dv} {r : List V → Hp → VK → Prop} (h : CallR X f r)
    (h2 : ∀ (g : Gh) (H : Hp) (S : Sto) (ds : List Dv) (vs : List V) (d : Dv) (Q : VK), Ok X.bs g H S → Rps X.K g ds vs → o S ds = some d → (∀ v, Rp X.K g d v → Q v H) → r vs H Q) : CallD X f (opA o) := by
  refine ⟨r, h, fun g H S ds vs res Q Wx ok rr e post => ?_⟩
  obtain ⟨d, e', er⟩ := lift0_some e
  subst er
  exact h2 g H S ds vs d Q ok rr e' fun v rv => post g v H (Gh.le_refl g) ok rv
def lenO (S : Sto) : Dv → Option Int
  | .str z => if z.length ≤ sizeLine then some z.length else none
  | .tup l => some l.length
  | d => (listOf S d).map fun l => (l.length : Int)
def lenD : Sto → List Dv → Option Dv := fun S ds => match ds with
  | [d] => (lenO S d).map .int
  | _ => none
theorem cd_len : CallD X (.builtin "len") (opA lenD) := by
  refine callD0 call_len fun g H S ds vs d Q ok rr e q => ?_
  unfold lenD at e
  split at e
  · rename_i d0
    obtain ⟨n, e1, rfl⟩ := Option.map_eq_some_iff.mp e
    cases rr with
    | cons r1 r2 =>
      cases r2
      rename_i v
      cases d0 with
      | str z =>
        cases r1
        simp only [lenO] at e1
        split at e1
        · rename_i hc
          cases e1
          exact ⟨_, z.length, rfl, ⟨hc, rfl⟩, q _ (.int _)⟩
        · cases e1
      | tup l =>
        obtain ⟨a, ws, rfl, s, r⟩ := tup_at ok r1
        simp only [lenO] at e1
        cases e1
        refine ⟨_, ws.length, rfl, .inr ⟨ws, s, rfl⟩, ?_⟩
        rw [← r.length]
        exact q _ (.int _)
      | _ =>
        simp only [lenO] at e1
        obtain ⟨l, hl, rfl⟩ := Option.map_eq_some_iff.mp e1
        obtain ⟨a, ws, rfl, s, r⟩ := list_at ok r1 hl
        refine ⟨_, ws.length, rfl, .inl ⟨ws, s, rfl⟩, ?_⟩
        rw [← r.length]
        exact q _ (.int _)
  · cases e
def absD : Sto → List Dv → Option Dv := fun _ ds => match ds with
  | [.int i] => some (.int (if i < 0 then -i else i))
  | _ => none
theorem cd_abs : CallD X (.builtin "abs") (opA absD) := by
  refine callD0 call_abs fun g H S ds vs d Q ok rr e q => ?_
  unfold absD at e
  split at e
  · cases e
    cases rr with
    | cons r1 r2 => cases r2; cases r1; exact ⟨_, rfl, q _ (.int _)⟩
  · cases e
def max2D : Sto → List Dv → Option Dv := fun _ ds => match ds with
  | [.int i, .int j] => some (.int (if j > i then j else i))
  | _ => none
theorem cd_max2 (c : Ct X W) : CallD X (.builtin "max") (opA max2D) := by
  refine callD0 (call_max2 c.calm) fun g H S ds vs d Q ok rr e q => ?_
  unfold max2D at e
  split at e
  · cases e
    cases rr with
    | cons r1 r2 => cases r2 with
      | cons r2 r3 => cases r3; cases r1; cases r2; exact ⟨_, _, rfl, q _ (.int _)⟩
  · cases e
def min2D : Sto → List Dv → Option Dv := fun _ ds => match ds with
  | [.int i, .int j] => some (.int (if j < i then j else i))
  | _ => none
theorem cd_min2 (c : Ct X W) : CallD X (.builtin "min") (opA min2D) := by
  refine callD0 (call_min2 c.calm) fun g H S ds vs d Q ok rr e q => ?_
  unfold min2D at e
  split at e
  · cases e
    cases rr with
    | cons r1 r2 => cases r2 with
      | cons r2 r3 => cases r3; cases r1; cases r2; exact ⟨_, _, rfl, q _ (.int _)⟩
  · cases e
def intD : Sto → List Dv → Option Dv := fun _ ds => match ds with
  | [.int i] => some (.int i)
  | [.bl k] => some (.int (if k then 1 else 0))
  | [.str a] => if a.length ≤ 640 then (PySem.intText? a).map .int else none
  | _ => none
theorem cd_int : CallD X (.type "int") (opA intD) := by
  have h := CallD.or (callD0 (o := fun S ds => match ds with | [.int i] => some (.int i) | [.bl k] => some (.int (if k then 1 else 0)) | _ => none) (X := X) call_int1 fun g H S ds vs d Q ok rr e q => by
    split at e
    · cases e
      cases rr with
      | cons r1 r2 => cases r2; cases r1; exact .inl ⟨_, rfl, q _ (.int _)⟩
    · cases e
      cases rr with
      | cons r1 r2 => cases r2; cases r1; exact .inr ⟨_, rfl, q _ (.int _)⟩
    · cases e) (callD0 (o := fun S ds => match ds with | [.str a] => if a.length ≤ 640 then (PySem.intText? a).map .int else none | _ => none) (X := X) call_int_str fun g H S ds vs d Q ok rr e q => by
    split at e
    · split at e
      · rename_i hc
        obtain ⟨n, e1, rfl⟩ := Option.map_eq_some_iff.mp e
        cases rr with
        | cons r1 r2 => cases r2; cases r1; exact ⟨_, n, rfl, e1, hc, q _ (.int _)⟩
      · cases e
    · cases e)
  obtain ⟨r, h1, h2⟩ := h
  refine ⟨r, h1, fun g H S ds vs res Q Wx ok rr e post => h2 g H S ds vs res Q Wx ok rr ?_ post⟩
  unfold opA lift0 intD at e
  unfold orM opA lift0
  split at e
  · rename_i d hd
    split at hd
    · cases hd; exact e
    · cases hd; exact e
    · rename_i a
      simp only [hd]
      exact e
    · cases hd
  · cases e
def strD : Sto → List Dv → Option Dv := fun _ ds => match ds with
  | [.int i] => if i.natAbs.log2 < 1920 then some (.str (toString i)) else none
  | _ => none
theorem cd_str : CallD X (.type "str") (opA strD) := by
  refine callD0 call_str_int fun g H S ds vs d Q ok rr e q => ?_
  unfold strD at e
  split at e
  · split at e
    · rename_i hc
      cases e
      cases rr with
      | cons r1 r2 => cases r2; cases r1; exact ⟨_, rfl, hc, q _ (.str _)⟩
    · cases e
  · cases e
/-- list(x) -/
def listC (ds : List Dv) : M Dv := match ds with
  | [d] => fun S => match seqOf S d with
    | some l => mkC l S
    | none => none
  | _ => stuck
def listL (ds : List Dv) : M Dv := match ds with
  | [d] => fun S => match seqOf S d with
    | some l => mkL l S
    | none => none
  | _ => stuck
theorem cd_listC : CallD X (.type "list") listC := by
  refine ⟨_, call_list_of, fun g H S ds vs res Q Wx ok rr e post => ?_⟩
  unfold listC at e
  split at e
  · split at e
    · rename_i l hl
      cases rr with
      | cons r1 r2 =>
        cases r2
        obtain ⟨a, ws, rfl, s, r⟩ := seq_at ok r1 hl
        exact ⟨a, ws, rfl, s, (post_C ok r e post).2⟩
    · cases e
  · cases e
theorem cd_listL : CallD X (.type "list") listL := by
  refine ⟨_, call_list_of, fun g H S ds vs res Q Wx ok rr e post => ?_⟩
  unfold listL at e
  split at e
  · split at e
    · rename_i l hl
      cases rr with
      | cons r1 r2 =>
        cases r2
        obtain ⟨a, ws, rfl, s, r⟩ := seq_at ok r1 hl
        exact ⟨a, ws, rfl, s, (post_L ok r e post).2⟩
    · cases e
  · cases e
/-- tuple(x) -/
def tupleM (ds : List Dv) : M Dv := match ds with
  | [.tup l] => pure (.tup l)
  | [d] => fun S => match listOf S d with
    | some l => mkT l S
    | none => none
  | _ => stuck
theorem cd_tuple : CallD X (.type "tuple") tupleM := by
  refine ⟨_, call_tuple_of, fun g H S ds vs res Q Wx ok rr e post => ?_⟩
  unfold tupleM at e
  split at e
  · have er := pure_some e
    subst er
    cases rr with
    | cons r1 r2 =>
      cases r2
      obtain ⟨a, ws, rfl, s, r⟩ := tup_at ok r1
      exact ⟨a, ws, rfl, .inr ⟨s, post g _ H (Gh.le_refl g) ok r1⟩⟩
  · dsimp only at e
    split at e
    · rename_i l hl
      cases rr with
      | cons r1 r2 =>
        cases r2
        obtain ⟨a, ws, rfl, s, r⟩ := list_at ok r1 hl
        exact ⟨a, ws, rfl, .inl ⟨s, (post_T ok r e post).2⟩⟩
    · cases e
  · cases e
/-- all, any, sum of a list -/
def boolsOf : List Dv → Option (List Bool)
  | [] => some []
  | .bl b :: r => (boolsOf r).map (b :: ·)
  | _ :: _ => none
def intsOf : List Dv → Option (List Int)
  | [] => some []
  | .int b :: r => (intsOf r).map (b :: ·)
  | _ :: _ => none
theorem boolsOf_eq : ∀ {l : List Dv} {bs : List Bool}, boolsOf l = some bs → l = bs.map .bl
  | [], _, h => by cases h; rfl
  | .bl b :: r, bs, h => by
    simp only [boolsOf] at h
    obtain ⟨cs, h1, rfl⟩ := Option.map_eq_some_iff.mp h
    rw [boolsOf_eq h1]
    rfl
  | .non :: _, _, h => by cases h
  | .int _ :: _, _, h => by cases h
  | .str _ :: _, _, h => by cases h
  | .tup _ :: _, _, h => by cases h
  | .lst _ :: _, _, h => by cases h
  | .scr _ :: _, _, h => by cases h
  | .ref _ :: _, _, h => by cases h
  | .ty _ :: _, _, h => by cases h
theorem intsOf_eq : ∀ {l : List Dv} {bs : List Int}, intsOf l = some bs → l = bs.map .int
  | [], _, h => by cases h; rfl
  | .int b :: r, bs, h => by
    simp only [intsOf] at h
    obtain ⟨cs, h1, rfl⟩ := Option.map_eq_some_iff.mp h
    rw [intsOf_eq h1]
    rfl
  | .non :: _, _, h => by cases h
  | .bl _ :: _, _, h => by cases h
  | .str _ :: _, _, h => by cases h
  | .tup _ :: _, _, h => by cases h
  | .lst _ :: _, _, h => by cases h
  | .scr _ :: _, _, h => by cases h
  | .ref _ :: _, _, h => by cases h
  | .ty _ :: _, _, h => by cases h
theorem rps_bl {K : PySem.W.Frag} {g : Gh} : ∀ {bs : List Bool} {vs : List V}, Rps K g (bs.map .bl) vs → vs = bs.map .bl
  | [], _, h => by cases h; rfl
  | b :: bs, _, h => by
    cases h with
    | cons r t => cases r; rw [rps_bl t]; rfl
theorem rps_int {K : PySem.W.Frag} {g : Gh} : ∀ {bs : List Int} {vs : List V}, Rps K g (bs.map .int) vs → vs = bs.map .int
  | [], _, h => by cases h; rfl
  | b :: bs, _, h => by
    cases h with
    | cons r t => cases r; rw [rps_int t]; rfl
theorem rps_str {K : PySem.W.Frag} {g : Gh} : ∀ {bs : List Str} {vs : List V}, Rps K g (bs.map .str) vs → vs = bs.map .str
  | [], _, h => by cases h; rfl
  | b :: bs, _, h => by
    cases h with
    | cons r t => cases r; rw [rps_str t]; rfl
def allD : Sto → List Dv → Option Dv := fun S ds => match ds with
  | [d] => ((listOf S d).bind boolsOf).map fun bs => .bl (bs.all id)
  | _ => none
theorem cd_all (c : Ct X W) : CallD X (.builtin "all") (opA allD) := by
  refine callD0 (cr_all c.calm) fun g H S ds vs d Q ok rr e q => ?_
  unfold allD at e
  split at e
  · obtain ⟨bs, e1, rfl⟩ := Option.map_eq_some_iff.mp e
    obtain ⟨l, hl, hb⟩ := Option.bind_eq_some_iff.mp e1
    cases rr with
    | cons r1 r2 =>
      cases r2
      obtain ⟨a, ws, rfl, s, r⟩ := list_at ok r1 hl
      rw [boolsOf_eq hb] at r
      rw [rps_bl r] at s
      exact ⟨a, bs, rfl, s, q _ (.bl _)⟩
  · cases e
def anyD : Sto → List Dv → Option Dv := fun S ds => match ds with
  | [d] => ((listOf S d).bind boolsOf).map fun bs => .bl (bs.any id)
  | _ => none
theorem cd_any (c : Ct X W) : CallD X (.builtin "any") (opA anyD) := by
  refine callD0 (cr_any c.calm) fun g H S ds vs d Q ok rr e q => ?_
  unfold anyD at e
  split at e
  · obtain ⟨bs, e1, rfl⟩ := Option.map_eq_some_iff.mp e
    obtain ⟨l, hl, hb⟩ := Option.bind_eq_some_iff.mp e1
    cases rr with
    | cons r1 r2 =>
      cases r2
      obtain ⟨a, ws, rfl, s, r⟩ := list_at ok r1 hl
      rw [boolsOf_eq hb] at r
      rw [rps_bl r] at s
      exact ⟨a, bs, rfl, s, q _ (.bl _)⟩
  · cases e
/-- isinstance(x, T) -/
def tyOfD (S : Sto) : Dv → Option String
  | .non => some "NoneType"
  | .bl _ => some "bool"
  | .int _ => some "int"
  | .str _ => some "str"
  | .tup _ => some "tuple"
  | d => (listOf S d).map fun _ => "list"
def isiB (t c : String) : Bool := t == c || (t == "bool" && c == "int")
def isiD : Sto → List Dv → Option Dv := fun S ds => match ds with
  | [d, .ty c] => if c = "int" ∨ c = "bool" ∨ c = "str" ∨ c = "list" ∨ c = "tuple" then (tyOfD S d).map fun t => .bl (isiB t c) else none
  | _ => none
theorem isiB_ok : ∀ t ∈ (["NoneType", "bool", "int", "str", "tuple", "list"] : List String), ∀ c ∈ (["int", "bool", "str", "list", "tuple"] : List String), kitB t c = some (isiB t c) := by decide +kernel
theorem tyx_list {K : PySem.W.Frag} {H : Hp} {a : Addr} {vs : List V} (s : SqL K H a vs) : TyX K H (.ref a) (.type "list") := by
  rcases s with (s | ⟨o, s⟩) | ⟨o, its, n, h1, h2, h3⟩
  · exact .base (.lst s)
  · exact .base (.frz s)
  · exact .kList h1 h2
theorem tyx_tup {K : PySem.W.Frag} {H : Hp} {a : Addr} {vs : List V} (s : SqT K H a vs) : TyX K H (.ref a) (.type "tuple") := by
  rcases s with (s | ⟨o, s⟩) | ⟨o, its, n, h1, h2, h3⟩
  · exact .base (.tup s)
  · exact .fTuple s
  · exact .kTuple h1 h2
theorem cd_isi : CallD X (.builtin "isinstance") (opA isiD) := by
  refine callD0 call_isi fun g H S ds vs d Q ok rr e q => ?_
  unfold isiD at e
  split at e
  · rename_i d0 c
    split at e
    · rename_i hc
      obtain ⟨t, e1, rfl⟩ := Option.map_eq_some_iff.mp e
      cases rr with
      | cons r1 r2 =>
        cases r2 with
        | cons r2 r3 =>
          cases r3
          cases r2
          rename_i v
          have hc' : c ∈ (["int", "bool", "str", "list", "tuple"] : List String) := by
            rcases hc with h | h | h | h | h <;> subst h <;> decide
          have fin : ∀ t', t = t' → t' ∈ (["NoneType", "bool", "int", "str", "tuple", "list"] : List String) → TyX X.K H v (.type t') → rIsi X.K [v, .ty c] H Q := fun t' et mt ty => by
            subst et
            exact ⟨v, .ty c, .type t, .type c, isiB t c, rfl, .ty c, ty, kit_ty (isiB_ok t mt c hc'), q _ (.bl _)⟩
          have lst : ∀ l, listOf S d0 = some l → (listOf S d0).map (fun _ => "list") = some t → rIsi X.K [v, .ty c] H Q := fun l hl he => by
            rw [hl] at he
            cases he
            obtain ⟨a, ws, rfl, s, r⟩ := list_at ok r1 hl
            exact fin "list" rfl (by decide) (tyx_list s)
          cases d0 with
          | non => cases e1; cases r1; exact fin _ rfl (by decide) (.base .non)
          | bl b => cases e1; cases r1; exact fin _ rfl (by decide) (.base (.bl b))
          | int b => cases e1; cases r1; exact fin _ rfl (by decide) (.base (.int b))
          | str b => cases e1; cases r1; exact fin _ rfl (by decide) (.base (.str b))
          | tup l =>
            cases e1
            obtain ⟨a, ws, rfl, s, r⟩ := tup_at ok r1
            exact fin _ rfl (by decide) (tyx_tup s)
          | _ =>
            simp only [tyOfD] at e1
            obtain ⟨l, hl, _⟩ := Option.map_eq_some_iff.mp e1
            exact lst l hl e1
    · cases e
  · cases e
end
end ML

/-! ML 4: subscripts, slices, methods, walks, comprehensions. -/
namespace ML
open PySem PySem.Spec PyProof.Rows L2
section
variable {X : Cx} {W : WX}
/-! ### subscripts -/
theorem atI_rps {K : PySem.W.Frag} {g : Gh} {ds : List Dv} {vs : List V} {i : Int} {d : Dv} (r : Rps K g ds vs) (e : atI ds i = some d) : ∃ v, atI vs i = some v ∧ Rp K g d v := by
  unfold atI at e ⊢
  rw [← r.length]
  cases h : ixN ds.length i with
  | none => rw [h] at e; cases e
  | some j =>
    rw [h] at e
    exact r.get e
def IxD (X : Cx) (o : Sto → Dv → Dv → Option Dv) : Prop :=
  ∃ r : R2, IxR X r ∧ ∀ (g : Gh) (H : Hp) (S : Sto) (a b : Dv) (x y : V) (d : Dv) (Q : VK), Ok X.bs g H S → Rp X.K g a x → Rp X.K g b y → o S a b = some d →
    (∀ g' v H', g.le g' → Ok X.bs g' H' S → Rp X.K g' d v → Q v H') → r x y H Q
theorem de_ix {a b : Expr} {fa fb : Env' → M Dv} {o : Sto → Dv → Dv → Option Dv} {pos : Pos} (ho : IxD X o) (ha : DE X W a fa) (hb : DE X W b fb) (hs : PlainIx b := by exact fun _ _ => rfl) :
    DE X W (.Subscript a b pos) (eOp o fa fb) := by
  obtain ⟨r, h1, h2⟩ := ho
  obtain ⟨ta, pa, sa⟩ := ha
  obtain ⟨tb, pb, sb⟩ := hb
  exact ⟨_, pe_ix h1 pa pb hs, sn_op (f := fun v u => getItem v u) h2 sa sb⟩
def ixD : Sto → Dv → Dv → Option Dv := fun S a b => match b with
  | .int i => match a with
    | .str z => if z.length ≤ sizeLine then (atI z.cps.toList i).map fun c => .str ⟨#[c]⟩ else none
    | .tup l => atI l i
    | d => (listOf S d).bind fun l => atI l i
  | _ => none
theorem id_seq : IxD X ixD := by
  refine ⟨_, ix_seq, fun g H S a b x y d Q ok ra rb e q => ?_⟩
  unfold ixD at e
  split at e
  · rename_i i
    cases rb
    have lst : ∀ l, listOf S a = some l → atI l i = some d → rIx X.K x (.int i) H Q := fun l hl he => by
      obtain ⟨p, vs, rfl, s, r⟩ := list_at ok ra hl
      obtain ⟨v, hv, rv⟩ := atI_rps r he
      exact .inl ⟨p, vs, i, v, rfl, rfl, s, hv, q g v H (Gh.le_refl g) ok rv⟩
    cases a with
    | str z =>
      cases ra
      dsimp only at e
      split at e
      · rename_i hc
        obtain ⟨c, e1, rfl⟩ := Option.map_eq_some_iff.mp e
        exact .inr (.inr ⟨z, i, c, rfl, rfl, hc, e1, q g _ H (Gh.le_refl g) ok (.str _)⟩)
      · cases e
    | tup l =>
      obtain ⟨p, vs, rfl, s, r⟩ := tup_at ok ra
      obtain ⟨v, hv, rv⟩ := atI_rps r e
      exact .inr (.inl ⟨p, vs, i, v, rfl, rfl, s, hv, q g v H (Gh.le_refl g) ok rv⟩)
    | _ =>
      obtain ⟨l, hl, he⟩ := Option.bind_eq_some_iff.mp e
      exact lst l hl he
  · cases e

/-! ### slices -/
def DO (X : Cx) (W : WX) (e : Option Expr) (f : Env' → M (Option Int)) : Prop := ∃ t : TO, PO X e t ∧ Sn X.bs W Re t f
def oNone (_ : Env') : M (Option Int) := pure none
def asI : Dv → M Int
  | .int i => pure i
  | _ => stuck
def oSome (f : Env' → M Dv) (env : Env') : M (Option Int) := do let d ← f env; let i ← asI d; pure (some i)
theorem do_none : DO X W none oNone := by
  refine ⟨_, po_none, fun g σ H env S r Q ok en e post => ?_⟩
  have er := pure_some e
  subst er
  exact post g _ H (Gh.le_refl g) ok rfl
theorem do_some {e : Expr} {f : Env' → M Dv} (h : DE X W e f) : DO X W (some e) (oSome f) := by
  obtain ⟨t, p, s⟩ := h
  refine ⟨_, po_some p, Sn.bind (t2 := fun x _ H1 Q => ∃ i, x = .int i ∧ Q (some i) H1) (f2 := fun d _ => do let i ← asI d; pure (some i)) s ?_⟩
  intro g σ H env S a b res Q ok en r e post
  cases a with
  | int i =>
    cases r
    have er := pure_some e
    subst er
    exact ⟨i, rfl, post g _ H (Gh.le_refl g) ok rfl⟩
  | _ => cases e
def cutG {α : Type} (xs : List α) (lo hi : Option Int) : List α := (xs.drop (HT.sIx xs.length 0 lo)).take (HT.sIx xs.length xs.length hi - HT.sIx xs.length 0 lo)
theorem cut_rps {K : PySem.W.Frag} {g : Gh} {ds : List Dv} {vs : List V} {lo hi : Option Int} (r : Rps K g ds vs) : Rps K g (cutG ds lo hi) (cutV vs lo hi) := by
  unfold cutG cutV
  rw [r.length]
  exact (r.drop _).take _
def SlD (X : Cx) (o : Dv → Option Int → Option Int → M Dv) : Prop :=
  ∃ r : V → Option Int → Option Int → Hp → VK → Prop, SlR X r ∧ ∀ (g : Gh) (H : Hp) (S : Sto) (a : Dv) (x : V) (lo hi : Option Int) (res : Rs Dv) (Q : VK) (Wx : XK), Ok X.bs g H S → Rp X.K g a x → o a lo hi S = some res → Post X.bs g (Rv X) Q Wx res → r x lo hi H Q
def eSl (o : Dv → Option Int → Option Int → M Dv) (f : Env' → M Dv) (fl fh : Env' → M (Option Int)) (env : Env') : M Dv := do let d ← f env; let l ← fl env; let u ← fh env; o d l u
theorem de_slice {e : Expr} {lo hi : Option Expr} {f : Env' → M Dv} {fl fh : Env' → M (Option Int)} {o : Dv → Option Int → Option Int → M Dv} {p2 pos : Pos} (ho : SlD X o) (he : DE X W e f) (hl : DO X W lo fl) (hh : DO X W hi fh) :
    DE X W (.Subscript e (.Slice lo hi none p2) pos) (eSl o f fl fh) := by
  obtain ⟨r, h1, h2⟩ := ho
  obtain ⟨t, p, s⟩ := he
  obtain ⟨tl, pl, sl⟩ := hl
  obtain ⟨th, ph, sh⟩ := hh
  refine ⟨_, pe_slice h1 p pl ph, fun g σ H env S res Q ok en e post => ?_⟩
  rcases bind_some (x := f env) e with ⟨d, S1, e1, e2⟩ | ⟨ex, S1, e1, rfl⟩
  · refine s g σ H env S _ _ ok en e1 fun g1 v1 H1 l1 ok1 r1 => ?_
    rcases bind_some (x := fl env) e2 with ⟨l, S2, e3, e4⟩ | ⟨ex, S2, e3, rfl⟩
    · refine sl g1 σ H1 env S1 _ _ ok1 (en.mono l1) e3 fun g2 v2 H2 l2 ok2 r2 => ?_
      cases r2
      rcases bind_some (x := fh env) e4 with ⟨u, S3, e5, e6⟩ | ⟨ex, S3, e5, rfl⟩
      · refine sh g2 σ H2 env S2 _ _ ok2 (en.mono (Gh.le_trans l1 l2)) e5 fun g3 v3 H3 l3 ok3 r3 => ?_
        cases r3
        exact h2 g3 H3 S3 d v1 l u res Q _ ok3 (r1.mono (Gh.le_trans l2 l3)) e6 (post.mono (Gh.le_trans l1 (Gh.le_trans l2 l3)))
      · exact sh g2 σ H2 env S2 _ _ ok2 (en.mono (Gh.le_trans l1 l2)) e5 (post.mono (Gh.le_trans l1 l2))
    · exact sl g1 σ H1 env S1 _ _ ok1 (en.mono l1) e3 (post.mono l1)
  · exact s g σ H env S _ _ ok en e1 post
/-- x[lo:hi]: a text, a tuple, a list (frozen) -/
def slD (d : Dv) (lo hi : Option Int) : M Dv := match d with
  | .str z => if z.length ≤ sizeLine then pure (.str (cutS z lo hi)) else stuck
  | .tup l => pure (.tup (cutG l lo hi))
  | d => fun S => match listOf S d with
    | some l => some (.ok (.lst (cutG l lo hi)) S)
    | none => none
/-- the same, the list to be changed -/
def slC (d : Dv) (lo hi : Option Int) : M Dv := fun S => match listOf S d with
    | some l => some (.ok (.ref S.length) (S ++ [.lst (cutG l lo hi)]))
    | none => none
theorem sl_whole {vs : List V} {lo hi : Option Int} (h : HT.sIx vs.length 0 lo = 0 ∧ HT.sIx vs.length vs.length hi = vs.length) : cutV vs lo hi = vs := by
  unfold cutV
  rw [h.1, h.2, List.drop_zero, Nat.sub_zero, List.take_length]
theorem sd_sl : SlD X slD := by
  refine ⟨_, sl_str.or (sl_tupA.or sl_list), fun g H S a x lo hi res Q Wx ok ra e post => ?_⟩
  have lst : ∀ l, listOf S a = some l → res = .ok (.lst (cutG l lo hi)) S → rSlL X.K x lo hi H Q := fun l hl he => by
    subst he
    obtain ⟨p, vs, rfl, s, r⟩ := list_at ok ra hl
    refine ⟨p, vs, rfl, s, fun np hp => ?_⟩
    obtain ⟨hle, ok'⟩ := ok.newF (o := .lst (cutV vs lo hi)) hp
    exact post _ _ _ hle ok' (.lst upd_same ((cut_rps r).mono hle))
  cases a with
  | str z =>
    cases ra
    unfold slD at e
    dsimp only at e
    by_cases hc : z.length ≤ sizeLine
    · rw [if_pos hc] at e
      have er := pure_some e
      subst er
      exact .inl ⟨z, rfl, hc, post g _ H (Gh.le_refl g) ok (.str _)⟩
    · rw [if_neg hc] at e
      cases e
  | tup l =>
    have er := pure_some e
    subst er
    obtain ⟨p, vs, rfl, s, r⟩ := tup_at ok ra
    refine .inr (.inl ⟨p, vs, rfl, s, fun hw => ?_, fun _ np hp => ?_⟩)
    · have c := cut_rps (lo := lo) (hi := hi) r
      rw [sl_whole hw] at c
      refine post g _ H (Gh.le_refl g) ok ?_
      cases ra with
      | tup s2 r2 =>
        have e2 : HT.sIx l.length 0 lo = 0 ∧ HT.sIx l.length l.length hi = l.length := by rw [r.length]; exact hw
        unfold cutG
        rw [e2.1, e2.2, List.drop_zero, Nat.sub_zero, List.take_length]
        exact .tup s2 r2
    · obtain ⟨hle, ok'⟩ := ok.newF (o := .tup (cutV vs lo hi)) hp
      exact post _ _ _ hle ok' (.tup (SqT.of upd_same) ((cut_rps r).mono hle))
  | _ =>
    unfold slD at e
    dsimp only at e
    split at e
    · rename_i l hl
      exact .inr (.inr (lst l hl (Option.some.inj e).symm))
    · cases e
theorem sd_slC : SlD X slC := by
  refine ⟨_, sl_list, fun g H S a x lo hi res Q Wx ok ra e post => ?_⟩
  unfold slC at e
  split at e
  · rename_i l hl
    cases e
    obtain ⟨p, vs, rfl, s, r⟩ := list_at ok ra hl
    refine ⟨p, vs, rfl, s, fun np hp => ?_⟩
    obtain ⟨hle, ok'⟩ := ok.newC (o := .lst (cutV vs lo hi)) (c := .lst (cutG l lo hi)) hp ⟨_, upd_same, (cut_rps r).mono Gh.cell_le⟩
    refine post _ _ _ hle ok' (.ref ?_)
    rw [← ok.len]
    exact Gh.cell_at
  · cases e

/-! ### methods of built-in types -/
def tyD (S : Sto) : Dv → String → Bool
  | .str _, T => T == "str"
  | .ref n, T => match S[n]? with
    | some (.lst _) => T == "list"
    | some (.dct _) => T == "dict"
    | _ => false
  | d, T => T == "list" && (listOf S d).isSome
theorem tyD_at {B : Bs} {g : Gh} {H : Hp} {S : Sto} {d : Dv} {v : V} {T : String} (ok : Ok B g H S) (r : Rp B.K g d v) (e : tyD S d T = true) : tyV B.K T v H := by
  have lst : ∀ l, listOf S d = some l → T = "list" → tyV B.K T v H := fun l hl he => by
    obtain ⟨a, vs, rfl, s, _⟩ := list_at ok r hl
    exact .inl ⟨he, vs, s⟩
  have gen : (T == "list" && (listOf S d).isSome) = true → tyV B.K T v H := fun h => by
    rw [Bool.and_eq_true] at h
    obtain ⟨l, hl⟩ := Option.isSome_iff_exists.mp h.2
    exact lst l hl (beq_iff_eq.mp h.1)
  cases d with
  | str z =>
    cases r
    exact beq_iff_eq.mp e
  | ref n =>
    simp only [tyD] at e
    cases hc : S[n]? with
    | none => rw [hc] at e; cases e
    | some c =>
      rw [hc] at e
      cases c with
      | lst l => exact lst l (by simp [listOf, ownOf, hc]) (beq_iff_eq.mp e)
      | dct l =>
        cases r with
        | ref hm =>
          obtain ⟨ws, h1, _⟩ := ok.cel _ _ _ hc hm
          exact .inr (.inr (.inl ⟨beq_iff_eq.mp e, .inl ⟨ws, h1⟩⟩))
      | ins _ _ => cases e
      | dead => cases e
  | _ => exact gen e
def chkT (T : String) (d : Dv) : M Unit := fun S => if tyD S d T = true then some (.ok () S) else none
def MtD (X : Cx) (id : String) (o : Dv → List Dv → M Dv) : Prop :=
  ∃ r : V → List V → Hp → VK → Prop, MtR X id r ∧ ∀ (g : Gh) (H : Hp) (S : Sto) (a : Dv) (ds : List Dv) (v : V) (vs : List V) (res : Rs Dv) (Q : VK) (Wx : XK), Ok X.bs g H S → Rp X.K g a v → Rps X.K g ds vs → o a ds S = some res → Post X.bs g (Rv X) Q Wx res → r v vs H Q
def eMt0 (T : String) (fo : Env' → M Dv) (op : Dv → List Dv → M Dv) (env : Env') : M Dv := do let a ← fo env; chkT T a; op a []
def eMt (T : String) (fo : Env' → M Dv) (fs : Env' → M (List Dv)) (op : Dv → List Dv → M Dv) (env : Env') : M Dv := do let a ← fo env; chkT T a; let ds ← fs env; op a ds
theorem de_bm0 {T id : String} {name : Str} {apos cpos : Pos} {o : Expr} {fo : Env' → M Dv} {op : Dv → List Dv → M Dv} (pa : PlainAttrs T) (slot : Slot T name id) (hty : typeOf (.builtin id) = pure (.type "method_descriptor")) (hm : MtD X id op) (ho : DE X W o fo)
    (hbase : attributeBase o name X.env (eval o X.env) = eval o X.env := by rfl) (hline : (apos.endLine == cpos.line) = true := by rfl) : DE X W (.Call (.Attribute o name apos) [] [] cpos) (eMt0 T fo op) := by
  obtain ⟨r, h1, h2⟩ := hm
  obtain ⟨t, p, s⟩ := ho
  refine ⟨_, pe_bm0 pa slot hty h1 p hbase hline, Sn.bind (t2 := fun x _ H1 Q => tyV X.K T x H1 ∧ r x [] H1 Q) (f2 := fun a _ => do chkT T a; op a []) s ?_⟩
  intro g σ H env S a b res Q ok en rr e post
  rcases bind_some (x := chkT T a) e with ⟨_, S1, e1, e2⟩ | ⟨ex, S1, e1, _⟩
  · unfold chkT at e1
    split at e1
    · rename_i hc
      cases e1
      exact ⟨tyD_at ok rr hc, h2 g H S a [] b [] res Q _ ok rr .nil e2 post⟩
    · cases e1
  · unfold chkT at e1
    split at e1 <;> cases e1
theorem de_bm {T id : String} {name : Str} {apos cpos : Pos} {o e : Expr} {es : List Expr} {fo : Env' → M Dv} {fs : Env' → M (List Dv)} {op : Dv → List Dv → M Dv} (pa : PlainAttrs T) (slot : Slot T name id) (hty : typeOf (.builtin id) = pure (.type "method_descriptor")) (hm : MtD X id op) (ho : DE X W o fo) (ha : DA X W (e :: es) fs)
    (hbase : attributeBase o name X.env (eval o X.env) = eval o X.env := by rfl)
    (hfew : ((backTo cpos (starEach (e :: es) X.env)).all (fun x => !x.1) && (backToKw cpos (keywordEach [] X.env)).all (fun x => x.1.isSome)
      && decide ((e :: es).length + ([] : List Keyword).length + (if ([] : List Keyword).isEmpty then 0 else 1) < 30)) = true := by rfl)
    (hline : (apos.endLine == cpos.line) = true := by rfl) (hs : starEach (e :: es) X.env = (false, eval e X.env) :: starEach es X.env := by rfl) (hplain : (backTo cpos (starEach es X.env)).any (·.1) = false := by rfl) :
    DE X W (.Call (.Attribute o name apos) (e :: es) [] cpos) (eMt T fo fs op) := by
  obtain ⟨r, h1, h2⟩ := hm
  obtain ⟨t, p, s⟩ := ho
  obtain ⟨t2, p2, s2, _⟩ := ha
  refine ⟨_, pe_bm pa slot hty h1 p p2 hbase hfew hline hs hplain, Sn.bind (t2 := fun x σ H1 Q => tyV X.K T x H1 ∧ t2 σ H1 fun xs H2 => r x xs H2 Q) (f2 := fun a env => do chkT T a; let ds ← fs env; op a ds) s ?_⟩
  intro g σ H env S a b res Q ok en rr e post
  rcases bind_some (x := chkT T a) e with ⟨_, S1, e1, e2⟩ | ⟨ex, S1, e1, _⟩
  · unfold chkT at e1
    split at e1
    · rename_i hc
      cases e1
      refine ⟨tyD_at ok rr hc, ?_⟩
      rcases bind_some (x := fs env) e2 with ⟨ds, S2, e3, e4⟩ | ⟨ex, S2, e3, rfl⟩
      · refine s2 g σ H env S _ _ ok en e3 fun g1 vs H1 l1 ok1 r1 => ?_
        exact h2 g1 H1 S2 a ds b vs res Q _ ok1 (rr.mono l1) r1 e4 (post.mono l1)
      · exact s2 g σ H env S _ _ ok en e3 post
    · cases e1
  · unfold chkT at e1
    split at e1 <;> cases e1
def opM (o : Sto → Dv → List Dv → Option Dv) (a : Dv) (ds : List Dv) : M Dv := lift0 fun S => o S a ds
theorem mtD0 {id : String} {o : Sto → Dv → List Dv → Option Dv} {r : V → List V → Hp → VK → Prop} (h : MtR X id r)
    (h2 : ∀ (g : Gh) (H : Hp) (S : Sto) (a : Dv) (ds : List Dv) (v : V) (vs : List V) (d : Dv) (Q : VK), Ok X.bs g H S → Rp X.K g a v → Rps X.K g ds vs → o S a ds = some d → (∀ g' v H', g.le g' → Ok X.bs g' H' S → Rp X.K g' d v → Q v H') → r v vs H Q) : MtD X id (opM o) := by
  refine ⟨r, h, fun g H S a ds v vs res Q Wx ok ra rr e post => ?_⟩
  obtain ⟨d, e', er⟩ := lift0_some e
  subst er
  exact h2 g H S a ds v vs d Q ok ra rr e' fun g' v H' l ok' rv => post g' v H' l ok' rv
def strsOf : List Dv → Option (List Str)
  | [] => some []
  | .str b :: r => (strsOf r).map (b :: ·)
  | _ :: _ => none
theorem strsOf_eq : ∀ {l : List Dv} {bs : List Str}, strsOf l = some bs → l = bs.map .str
  | [], _, h => by cases h; rfl
  | .str b :: r, bs, h => by
    simp only [strsOf] at h
    obtain ⟨cs, h1, rfl⟩ := Option.map_eq_some_iff.mp h
    rw [strsOf_eq h1]
    rfl
  | .non :: _, _, h => by cases h
  | .bl _ :: _, _, h => by cases h
  | .int _ :: _, _, h => by cases h
  | .tup _ :: _, _, h => by cases h
  | .lst _ :: _, _, h => by cases h
  | .scr _ :: _, _, h => by cases h
  | .ref _ :: _, _, h => by cases h
  | .ty _ :: _, _, h => by cases h
def joinD : Sto → Dv → List Dv → Option Dv := fun S a ds => match a, ds with
  | .str z, [d] => match (seqOf S d).bind strsOf with
    | some ys => if (ys.map (·.length)).sum + ys.length * z.length ≤ 16777216 then some (.str (Txt.join z ys)) else none
    | none => none
  | _, _ => none
theorem md_join : MtD X "str.join" (opM joinD) := by
  refine mtD0 mt_join fun g H S a ds v vs d Q ok ra rr e q => ?_
  unfold joinD at e
  split at e
  · split at e
    · rename_i ys hy
      split at e
      · rename_i hc
        cases e
        obtain ⟨l, hl, hs⟩ := Option.bind_eq_some_iff.mp hy
        cases ra
        cases rr with
        | cons r1 r2 =>
          cases r2
          obtain ⟨p, ws, rfl, s, r⟩ := seq_at ok r1 hl
          rw [strsOf_eq hs] at r
          rw [rps_str r] at s
          exact ⟨_, p, ys, rfl, rfl, s, hc, q g _ H (Gh.le_refl g) ok (.str _)⟩
      · cases e
    · cases e
  · cases e
def splitD : Sto → Dv → List Dv → Option Dv := fun S a ds => match a, ds with
  | .str z, [.str y] => if (y.length == 0) = false ∧ z.length + 2 ≤ sizeLine then some (.lst ((Txt.split z y).map .str)) else none
  | _, _ => none
theorem md_split : MtD X "str.split" (opM splitD) := by
  refine mtD0 mt_split fun g H S a ds v vs d Q ok ra rr e q => ?_
  unfold splitD at e
  split at e
  · split at e
    · rename_i hc
      cases e
      cases ra
      cases rr with
      | cons r1 r2 =>
        cases r2
        cases r1
        refine ⟨_, _, rfl, rfl, hc.1, hc.2, fun p hp => ?_⟩
        obtain ⟨hle, ok'⟩ := ok.newF (o := .lst ((Txt.split _ _).map V.str)) hp
        exact q _ _ _ hle ok' (.lst upd_same (Rps.strs _))
    · cases e
  · cases e
/-- a cell's list -/
def cellL (S : Sto) : Dv → Option (Nat × List Dv)
  | .ref n => match S[n]? with
    | some (.lst l) => some (n, l)
    | _ => none
  | _ => none
theorem cellL_at {B : Bs} {g : Gh} {H : Hp} {S : Sto} {d : Dv} {v : V} {n : Nat} {l : List Dv} (ok : Ok B g H S) (r : Rp B.K g d v) (e : cellL S d = some (n, l)) :
    ∃ a vs, v = .ref a ∧ S[n]? = some (.lst l) ∧ g.m[n]? = some a ∧ H a = some (.lst vs) ∧ Rps B.K g l vs := by
  cases d with
  | ref k =>
    simp only [cellL] at e
    cases hc : S[k]? with
    | none => rw [hc] at e; cases e
    | some c =>
      rw [hc] at e
      cases c with
      | lst l' =>
        cases e
        cases r with
        | ref hm =>
          obtain ⟨vs, h1, h2⟩ := ok.cel _ _ _ hc hm
          exact ⟨_, vs, rfl, hc, hm, h1, h2⟩
      | dct _ => cases e
      | ins _ _ => cases e
      | dead => cases e
  | _ => cases e
theorem Ok.setL {B : Bs} {g : Gh} {H : Hp} {S : Sto} {n : Nat} {l l' : List Dv} {a : Addr} {vs' : List V} (ok : Ok B g H S) (hs : S[n]? = some (.lst l)) (hm : g.m[n]? = some a) (r : Rps B.K g l' vs') : Ok B g (upd H a (.lst vs')) (S.set n (.lst l')) :=
  ok.write hs (by intro z; cases z) hm ⟨vs', upd_same, r⟩
def appendM (a : Dv) (ds : List Dv) : M Dv := fun S => match ds, cellL S a with
  | [d], some (n, l) => if l.length < sizeLine then some (.ok .non (S.set n (.lst (l ++ [d])))) else none
  | _, _ => none
theorem md_append : MtD X "list.append" appendM := by
  refine ⟨_, mt_append, fun g H S a ds v vs res Q Wx ok ra rr e post => ?_⟩
  unfold appendM at e
  split at e
  · rename_i d n l hl
    split at e
    · rename_i hc
      cases e
      obtain ⟨p, ws, rfl, h1, h2, h3, h4⟩ := cellL_at ok ra hl
      cases rr with
      | cons r1 r2 =>
        cases r2
        refine ⟨p, ws, _, rfl, rfl, h3, by rw [← h4.length]; exact hc, ?_⟩
        exact post g _ _ (Gh.le_refl g) (ok.setL h1 h2 (h4.append (.cons r1 .nil))) .non
    · cases e
  · cases e
def popAtM (a : Dv) (ds : List Dv) : M Dv := fun S => match ds, cellL S a with
  | [.int i], some (n, l) => if -(2 ^ 63) ≤ i ∧ i < 2 ^ 63 then (match seqIndex? i l.length with
    | some k => match l[k]? with
      | some d => some (.ok d (S.set n (.lst (l.eraseIdx k))))
      | none => none
    | none => none) else none
  | _, _ => none
theorem md_popAt : MtD X "list.pop" popAtM := by
  refine ⟨_, mt_popAt, fun g H S a ds v vs res Q Wx ok ra rr e post => ?_⟩
  unfold popAtM at e
  split at e
  · rename_i i n l hl
    split at e
    · rename_i hc
      split at e
      · rename_i k hk
        split at e
        · rename_i d hd
          cases e
          obtain ⟨p, ws, rfl, h1, h2, h3, h4⟩ := cellL_at ok ra hl
          cases rr with
          | cons r1 r2 =>
            cases r2
            cases r1
            obtain ⟨w, hw, rw'⟩ := h4.get hd
            refine ⟨p, ws, i, k, w, rfl, rfl, h3, hc.1, hc.2, by rw [← h4.length]; exact hk, hw, ?_⟩
            exact post g _ _ (Gh.le_refl g) (ok.setL h1 h2 (h4.eraseIdx k)) rw'
        · cases e
      · cases e
    · cases e
  · cases e
def popM (a : Dv) (ds : List Dv) : M Dv := fun S => match ds, cellL S a with
  | [], some (n, l) => match l[l.length - 1]? with
    | some d => some (.ok d (S.set n (.lst l.dropLast)))
    | none => none
  | _, _ => none
theorem rps_dropLast {K : PySem.W.Frag} {g : Gh} {l : List Dv} {vs : List V} (r : Rps K g l vs) : Rps K g l.dropLast vs.dropLast := by
  rw [List.dropLast_eq_take, List.dropLast_eq_take, r.length]
  exact r.take _
theorem md_pop : MtD X "list.pop" popM := by
  refine ⟨_, mt_pop, fun g H S a ds v vs res Q Wx ok ra rr e post => ?_⟩
  unfold popM at e
  split at e
  · rename_i n l hl
    split at e
    · rename_i d hd
      cases e
      obtain ⟨p, ws, rfl, h1, h2, h3, h4⟩ := cellL_at ok ra hl
      cases rr
      obtain ⟨w, hw, rw'⟩ := h4.get hd
      refine ⟨p, ws, w, rfl, rfl, h3, by rw [← h4.length]; exact hw, ?_⟩
      exact post g _ _ (Gh.le_refl g) (ok.setL h1 h2 (rps_dropLast h4)) rw'
    · cases e
  · cases e
end
end ML

/-! ML 5: walks, comprehensions, targets, statements. -/
namespace ML
open PySem PySem.Spec PyProof.Rows L2
section
variable {X : Cx} {W : WX}
/-! ### what is walked -/
abbrev Sr := Sto → Option (List Dv)
/-- the ghost grows; the private objects may be others -/
def Gh.sub (g g' : Gh) : Prop := (∀ a o, g.F a = some o → g'.F a = some o) ∧ ∀ (n : Nat) (a : Addr), g.m[n]? = some a → g'.m[n]? = some a
theorem Gh.le.sub {g g' : Gh} (h : g.le g') : g.sub g' := ⟨h.1, h.2.1⟩
theorem Gh.sub_trans {a b c : Gh} (h : a.sub b) (k : b.sub c) : a.sub c := ⟨fun x o e => k.1 x o (h.1 x o e), fun n x e => k.2 n x (h.2 n x e)⟩
theorem Rp.sub {K : PySem.W.Frag} {g g' : Gh} (h : g.sub g') {d : Dv} {v : V} (r : Rp K g d v) : Rp K g' d v := r.mono' h.1 h.2
theorem Rps.sub {K : PySem.W.Frag} {g g' : Gh} (h : g.sub g') {d : List Dv} {v : List V} (r : Rps K g d v) : Rps K g' d v := r.mono' h.1 h.2
theorem Rkv.sub {κ : Type} {K : PySem.W.Frag} {g g' : Gh} (h : g.sub g') {d : List (κ × Dv)} {v : List (κ × V)} (r : Rkv K g d v) : Rkv K g' d v := r.mono' h.1 h.2
theorem En.sub {B : Bs} {g g' : Gh} (h : g.sub g') {σ : L2.St} {env : Env'} (e : En B g σ env) : En B g' σ env :=
  ⟨e.len, fun i d q => let ⟨v, a, b⟩ := e.at_ i d q; ⟨v, a, b.sub h⟩⟩
def JOk (B : Bs) (g : Gh) (J : It) (src : Sr) : Prop :=
  ∀ (g' : Gh) (H : Hp) (S : Sto) (l : List Dv), g.sub g' → Ok B g' H S → src S = some l → ∀ i : Nat, (l.length ≤ i → J.stop i H) ∧
    ∀ d, l[i]? = some d → J.go i H ∧ ∀ x H', J.yld i H x H' → ∃ g'', g'.le g'' ∧ Ok B g'' H' S ∧ Rp B.K g'' d x
abbrev Rj (X : Cx) : Gh → Sr → It → Prop := fun g src J => JOk X.bs g J src
def DI (X : Cx) (W : WX) (tg iter : Expr) (f : Env' → M Sr) : Prop := ∃ wi : TI, PI X tg iter wi ∧ Sn X.bs W (Rj X) wi f
/-- the source of a walk over a value -/
def srcOf (d : Dv) : M Sr := match d with
  | .lst l => pure fun _ => some l
  | .scr l => pure fun _ => some l
  | .tup l => pure fun _ => some l
  | .str z => pure fun _ => some (z.cps.toList.map fun c => .str ⟨#[c]⟩)
  | .ref n => fun S => match S[n]? with
    | some (.lst _) => some (.ok (fun S => listOf S (.ref n)) S)
    | _ => none
  | _ => stuck
theorem jok_list {B : Bs} {g : Gh} {a : Addr} {d : Dv} (r : Rp B.K g d (.ref a)) {src : Sr} (h : ∀ S, src S = listOf S d) : JOk B g (Itl B.K a) src := by
  intro g' H S l hl ok hs i
  rw [h] at hs
  obtain ⟨a', vs, e, s, rr⟩ := list_at ok (r.sub hl) hs
  cases e
  refine ⟨fun hi => ⟨vs, s, by rw [← rr.length]; exact hi⟩, fun d' hd => ?_⟩
  obtain ⟨v, hv, rv⟩ := rr.get hd
  refine ⟨⟨vs, v, s, hv⟩, fun x H' hy => ?_⟩
  obtain ⟨rfl, hy⟩ := hy
  have e := hy vs s
  rw [hv] at e
  cases e
  exact ⟨g', Gh.le_refl g', ok, rv⟩
theorem jok_tup {B : Bs} {g : Gh} {a : Addr} {l : List Dv} (r : Rp B.K g (.tup l) (.ref a)) : JOk B g (Itt B.K a) (fun _ => some l) := by
  intro g' H S l' hl ok hs i
  cases hs
  obtain ⟨a', vs, e, s, rr⟩ := tup_at ok (r.sub hl)
  cases e
  refine ⟨fun hi => ⟨vs, s, by rw [← rr.length]; exact hi⟩, fun d' hd => ?_⟩
  obtain ⟨v, hv, rv⟩ := rr.get hd
  refine ⟨⟨vs, v, s, hv⟩, fun x H' hy => ?_⟩
  obtain ⟨rfl, hy⟩ := hy
  have e := hy vs s
  rw [hv] at e
  cases e
  exact ⟨g', Gh.le_refl g', ok, rv⟩
theorem jok_str {B : Bs} {g : Gh} (z : Str) : JOk B g (Its z) (fun _ => some (z.cps.toList.map fun c => .str ⟨#[c]⟩)) := by
  intro g' H S l' hl ok hs i
  cases hs
  refine ⟨fun hi => ?_, fun d' hd => ?_⟩
  · show z.cps.size ≤ i
    simpa using hi
  · rw [List.getElem?_map] at hd
    obtain ⟨c, hc, rfl⟩ := Option.map_eq_some_iff.mp hd
    have hc' : z.cps[i]? = some c := by simpa using hc
    refine ⟨(Array.getElem?_eq_some_iff.mp hc').1, fun x H' hy => ?_⟩
    obtain ⟨rfl, c', h1, rfl⟩ := hy
    rw [hc'] at h1
    cases h1
    exact ⟨g', Gh.le_refl g', ok, .str _⟩
def iVal (f : Env' → M Dv) (env : Env') : M Sr := do let d ← f env; srcOf d
def iArg (fs : Env' → M (List Dv)) (o : List Dv → M Sr) (env : Env') : M Sr := do let ds ← fs env; o ds
theorem pi_or {tg iter : Expr} {w1 w2 : TI} (h1 : PI X tg iter w1) (h2 : PI X tg iter w2) : PI X tg iter (fun σ H R => w1 σ H R ∨ w2 σ H R) :=
  ⟨fun pins s σ H R I h => h.elim (h1.run pins s σ H R I) (h2.run pins s σ H R I)⟩
/-- over a list, a tuple, a text -/
theorem di_val {tg e : Expr} {f : Env' → M Dv} (h : DE X W e f) : DI X W tg e (iVal f) := by
  obtain ⟨t, p, s⟩ := h
  refine ⟨_, pi_or (pi_list p) (pi_or (pi_tup p) (pi_str p)), fun g σ H env S r Q ok en e post => ?_⟩
  rcases bind_some (x := f env) e with ⟨d, S1, e1, e2⟩ | ⟨ex, S1, e1, rfl⟩
  · have lst : ∀ l src, listOf S1 d = some l → (∀ S, src S = listOf S d) → r = .ok src S1 → iList X.K t σ H Q := fun l src hl hsrc er => by
      subst er
      refine s g σ H env S _ _ ok en e1 fun g' v H' l1 ok' rv => ?_
      obtain ⟨a, vs, rfl, s', rr⟩ := list_at ok' rv hl
      exact ⟨a, rfl, ⟨vs, s'⟩, post g' _ H' l1 ok' (jok_list rv hsrc)⟩
    cases d with
    | lst l =>
      have er := pure_some e2
      exact .inl (lst l _ rfl (fun _ => rfl) er)
    | scr l =>
      have er := pure_some e2
      exact .inl (lst l _ rfl (fun _ => rfl) er)
    | ref n =>
      simp only [srcOf] at e2
      cases hc : S1[n]? with
      | none => rw [hc] at e2; cases e2
      | some c =>
        rw [hc] at e2
        cases c with
        | lst l => exact .inl (lst l _ (by simp [listOf, ownOf, hc]) (fun _ => rfl) (Option.some.inj e2).symm)
        | dct _ => cases e2
        | ins _ _ => cases e2
        | dead => cases e2
    | tup l =>
      have er := pure_some e2
      subst er
      refine .inr (.inl (s g σ H env S _ _ ok en e1 fun g' v H' l1 ok' rv => ?_))
      obtain ⟨a, vs, rfl, s', rr⟩ := tup_at ok' rv
      exact ⟨a, rfl, ⟨vs, s'⟩, post g' _ H' l1 ok' (jok_tup rv)⟩
    | str z =>
      have er := pure_some e2
      subst er
      refine .inr (.inr (s g σ H env S _ _ ok en e1 fun g' v H' l1 ok' rv => ?_))
      cases rv
      exact ⟨z, rfl, post g' _ H' l1 ok' (jok_str z)⟩
    | _ => cases e2
  · exact .inl (s g σ H env S _ _ ok en e1 post)
theorem jok_range {B : Bs} {g : Gh} (lo : Int) (n : Nat) : JOk B g (Itr lo n) (fun _ => some ((List.range n).map fun i : Nat => .int (lo + i))) := by
  intro g' H S l' hl ok hs i
  cases hs
  refine ⟨fun hi => ?_, fun d' hd => ?_⟩
  · show n ≤ i
    simpa using hi
  · rw [List.getElem?_map] at hd
    obtain ⟨c, hc, rfl⟩ := Option.map_eq_some_iff.mp hd
    obtain ⟨h1, h2⟩ := List.getElem?_eq_some_iff.mp hc
    rw [List.getElem_range] at h2
    subst h2
    have h1' : i < n := by simpa using h1
    refine ⟨h1', fun x H' hy => ?_⟩
    obtain ⟨rfl, rfl⟩ := hy
    exact ⟨g', Gh.le_refl g', ok, .int _⟩
def rng1M (ds : List Dv) : M Sr := match ds with
  | [.int j] => if -(2 ^ 62) ≤ j ∧ j < 2 ^ 62 then pure fun _ => some ((List.range j.toNat).map fun i : Nat => .int (0 + i)) else stuck
  | _ => stuck
def rng2M (ds : List Dv) : M Sr := match ds with
  | [.int i, .int j] => if -(2 ^ 62) ≤ i ∧ i < 2 ^ 62 ∧ -(2 ^ 62) ≤ j ∧ j < 2 ^ 62 then pure fun _ => some ((List.range (j - i).toNat).map fun k : Nat => .int (i + k)) else stuck
  | _ => stuck
theorem di_range1 {tg a : Expr} {fa : Env' → M (List Dv)} {p pos : Pos} (hm : X.mg "range" = none) (ha : DA X W [a] fa) (hg : Gl X "range" := by rfl) (hs : starEach [a] X.env = [(false, eval a X.env)] := by rfl) :
    DI X W tg (.Call (.Name "range" p) [a] [] pos) (iArg fa rng1M) := by
  obtain ⟨t, p, s, _⟩ := ha
  refine ⟨_, pi_range1 hg hm p hs, Sn.bind (t2 := fun vs _ H1 R => ∃ j : Int, vs = [.int j] ∧ -(2 ^ 62) ≤ j ∧ j < 2 ^ 62 ∧ R (Itr 0 j.toNat) H1) (f2 := fun ds _ => rng1M ds) s ?_⟩
  intro g σ H env S ds vs res Q ok en rr e post
  dsimp only at e
  unfold rng1M at e
  split at e
  · rename_i j
    by_cases hc : -(2 ^ 62) ≤ j ∧ j < 2 ^ 62
    · rw [if_pos hc] at e
      have er := pure_some e
      subst er
      cases rr with
      | cons r1 r2 =>
        cases r2
        cases r1
        exact ⟨j, rfl, hc.1, hc.2, post g _ H (Gh.le_refl g) ok (jok_range 0 j.toNat)⟩
    · rw [if_neg hc] at e
      cases e
  · cases e
theorem di_range2 {tg a b : Expr} {fa : Env' → M (List Dv)} {p pos : Pos} (hm : X.mg "range" = none) (ha : DA X W [a, b] fa) (hg : Gl X "range" := by rfl) (hs : starEach [a, b] X.env = [(false, eval a X.env), (false, eval b X.env)] := by rfl) (hs2 : starEach [b] X.env = [(false, eval b X.env)] := by rfl) :
    DI X W tg (.Call (.Name "range" p) [a, b] [] pos) (iArg fa rng2M) := by
  obtain ⟨t, p, s, _⟩ := ha
  refine ⟨_, pi_range2 hg hm p hs hs2, Sn.bind (t2 := fun vs _ H1 R => ∃ i j : Int, vs = [.int i, .int j] ∧ (-(2 ^ 62) ≤ i ∧ i < 2 ^ 62 ∧ -(2 ^ 62) ≤ j ∧ j < 2 ^ 62) ∧ R (Itr i (j - i).toNat) H1) (f2 := fun ds _ => rng2M ds) s ?_⟩
  intro g σ H env S ds vs res Q ok en rr e post
  dsimp only at e
  unfold rng2M at e
  split at e
  · rename_i i j
    by_cases hc : -(2 ^ 62) ≤ i ∧ i < 2 ^ 62 ∧ -(2 ^ 62) ≤ j ∧ j < 2 ^ 62
    · rw [if_pos hc] at e
      have er := pure_some e
      subst er
      cases rr with
      | cons r1 r2 =>
        cases r2 with
        | cons r2 r3 =>
          cases r3
          cases r1
          cases r2
          exact ⟨i, j, rfl, hc, post g _ H (Gh.le_refl g) ok (jok_range i (j - i).toNat)⟩
    · rw [if_neg hc] at e
      cases e
  · cases e

/-! ### targets -/
def DG (X : Cx) (tg : Expr) (is : List Nat) (gf : Dv → Env' → M Env') : Prop :=
  ∃ t : TG, PG X tg t ∧ ∀ (g : Gh) (σ : L2.St) (H : Hp) (env : Env') (S : Sto) (d : Dv) (v : V) (env' : Env') (S' : Sto) (Q : L2.St → Hp → Prop), Ok X.bs g H S → En X.bs g σ env → Rp X.K g d v → gf d env S = some (.ok env' S') →
    (∀ g' σ' H', g.le g' → Ok X.bs g' H' S' → En X.bs g' σ' env' → σ'.length = σ.length → (∀ j : Nat, j ∉ is → σ'[j]? = σ[j]?) → Q σ' H') → t v σ H Q
def DGs (X : Cx) (tgs : List Expr) (is : List Nat) (gf : List Dv → Env' → M Env') : Prop :=
  ∃ t : TGs, PGs X tgs t ∧ ∀ (g : Gh) (σ : L2.St) (H : Hp) (env : Env') (S : Sto) (d : List Dv) (v : List V) (env' : Env') (S' : Sto) (Q : L2.St → Hp → Prop), Ok X.bs g H S → En X.bs g σ env → Rps X.K g d v → gf d env S = some (.ok env' S') →
    (∀ g' σ' H', g.le g' → Ok X.bs g' H' S' → En X.bs g' σ' env' → σ'.length = σ.length → (∀ j : Nat, j ∉ is → σ'[j]? = σ[j]?) → Q σ' H') → t v σ H Q
def gSet (i : Nat) (d : Dv) (env : Env') : M Env' := pure (env.set i (some d))
theorem dg_name {i : Nat} {x : Str} {pos : Pos} (hN : X.N.Nodup) (hi : X.N[i]? = some x) (hx : Loc X.env.scope x) (hf : X.fn x = true ∨ X.env.scope.names.lookup x = some .local := by first | exact .inl rfl | exact .inr rfl | assumption) : DG X (.Name x pos) [i] (gSet i) := by
  refine ⟨_, pg_name hN hi hx hf, fun g σ H env S d v env' S' Q ok en r e post => ?_⟩
  cases e
  exact post g _ H (Gh.le_refl g) ok (en.set i r) (List.length_set ..) fun j hj => List.getElem?_set_ne (fun z => hj (by simp [z]))
def gsNil (ds : List Dv) (env : Env') : M Env' := match ds with
  | [] => pure env
  | _ => stuck
def gsCons (f : Dv → Env' → M Env') (fs : List Dv → Env' → M Env') (ds : List Dv) (env : Env') : M Env' := match ds with
  | d :: r => do let e ← f d env; fs r e
  | [] => stuck
theorem dgs_nil : DGs X [] [] gsNil := by
  refine ⟨_, pgs_nil, fun g σ H env S d v env' S' Q ok en r e post => ?_⟩
  cases r with
  | nil =>
    cases e
    exact ⟨rfl, post g σ H (Gh.le_refl g) ok en rfl fun _ _ => rfl⟩
  | cons _ _ => cases e
theorem dgs_cons {e : Expr} {es : List Expr} {is js : List Nat} {f : Dv → Env' → M Env'} {fs : List Dv → Env' → M Env'} (h1 : DG X e is f) (h2 : DGs X es js fs)
    (hs : (assignEach (e :: es) X.env).map (·.2) = assign e X.env :: (assignEach es X.env).map (·.2) := by rfl) : DGs X (e :: es) (is ++ js) (gsCons f fs) := by
  obtain ⟨t, p, s⟩ := h1
  obtain ⟨t2, p2, s2⟩ := h2
  refine ⟨_, pgs_cons p p2 hs, fun g σ H env S d v env' S' Q ok en r e post => ?_⟩
  cases r with
  | nil => cases e
  | cons r1 r2 =>
    refine ⟨_, _, rfl, ?_⟩
    rcases bind_some (x := f _ env) e with ⟨e1, S1, q1, q2⟩ | ⟨_, _, _, q⟩
    · refine s g σ H env S _ _ e1 S1 _ ok en r1 q1 fun g1 σ1 H1 l1 ok1 en1 len1 k1 => ?_
      refine s2 g1 σ1 H1 e1 S1 _ _ env' S' _ ok1 en1 (r2.mono l1) q2 fun g2 σ2 H2 l2 ok2 en2 len2 k2 => ?_
      refine post g2 σ2 H2 (Gh.le_trans l1 l2) ok2 en2 (len2.trans len1) fun j hj => ?_
      simp only [List.mem_append, not_or] at hj
      rw [k2 j hj.2, k1 j hj.1]
    · cases q
def gTupM (n : Nat) (fs : List Dv → Env' → M Env') (d : Dv) (env : Env') : M Env' := match d with
  | .tup l => if l.length = n then fs l env else stuck
  | _ => stuck
theorem dg_tup {es : List Expr} {is : List Nat} {k n : Nat} {pos : Pos} {fs : List Dv → Env' → M Env'} (hc : X.calm = true) (h : DGs X es is fs)
    (hn : (assignEach es X.env).length = n := by rfl) (hst : (assignEach es X.env).findIdx? (·.1) = none := by rfl) : DG X (.Tuple es k pos) is (gTupM n fs) := by
  obtain ⟨t, p, s⟩ := h
  refine ⟨_, pg_tup hc p hn hst, fun g σ H env S d v env' S' Q ok en r e post => ?_⟩
  cases d with
  | tup l =>
    simp only [gTupM] at e
    split at e
    · rename_i hl
      obtain ⟨a, vs, rfl, sq, rr⟩ := tup_at ok r
      exact ⟨a, vs, rfl, sq, by rw [← rr.length]; exact hl, s g σ H env S l vs env' S' Q ok en rr e post⟩
    · cases e
  | _ => cases e

/-! ### comprehensions -/
theorem wipe_at : ∀ (vs : List Nat) (σ : L2.St) (j : Nat), (wipe σ vs)[j]? = if j ∈ vs then (σ[j]?).map fun _ => none else σ[j]?
  | [], σ, j => by simp [wipe]
  | v :: vs, σ, j => by
    unfold wipe
    have ih := wipe_at vs σ j
    by_cases hj : v = j
    · subst hj
      rw [if_pos List.mem_cons_self]
      by_cases hl : v < (wipe σ vs).length
      · rw [List.getElem?_set_self hl]
        rw [wipe_length] at hl
        rw [List.getElem?_eq_getElem hl]
        rfl
      · rw [List.getElem?_eq_none (by rw [List.length_set]; omega)]
        rw [wipe_length] at hl
        rw [List.getElem?_eq_none (by omega)]
        rfl
    · rw [List.getElem?_set_ne hj, ih]
      by_cases hm : j ∈ vs
      · rw [if_pos hm, if_pos (List.mem_cons_of_mem _ hm)]
      · rw [if_neg hm, if_neg (by simp [hm, Ne.symm hj])]
theorem wipe_same {vs : List Nat} {σ σ' : L2.St} (hl : σ'.length = σ.length) (h : ∀ j : Nat, j ∉ vs → σ'[j]? = (wipe σ vs)[j]?) : wipe σ' vs = wipe σ vs := by
  apply List.ext_getElem?
  intro j
  rw [wipe_at, wipe_at]
  by_cases hj : j ∈ vs
  · rw [if_pos hj, if_pos hj]
    by_cases hb : j < σ.length
    · rw [List.getElem?_eq_getElem hb, List.getElem?_eq_getElem (by omega)]
      rfl
    · rw [List.getElem?_eq_none (by omega), List.getElem?_eq_none (by omega)]
  · rw [if_neg hj, if_neg hj, h j hj, wipe_at, if_neg hj]
def wipeE (env : Env') : List Nat → Env'
  | [] => env
  | v :: vs => (wipeE env vs).set v none
theorem En.wipe {B : Bs} {g : Gh} {σ : L2.St} {env : Env'} (h : En B g σ env) : ∀ vs : List Nat, En B g (L2.wipe σ vs) (wipeE env vs)
  | [] => h
  | v :: vs => by
    have ih := En.wipe h vs
    unfold L2.wipe wipeE
    refine ⟨by rw [List.length_set, List.length_set]; exact ih.len, fun j d e => ?_⟩
    by_cases hj : v = j
    · subst hj
      by_cases hl : v < (wipeE env vs).length
      · rw [List.getElem?_set_self hl] at e; cases e
      · rw [List.getElem?_eq_none (by rw [List.length_set]; omega)] at e; cases e
    · rw [List.getElem?_set_ne hj] at e ⊢
      exact ih.at_ j d e
def DTs (X : Cx) (W : WX) (ifs : List Expr) (f : Env' → M Bool) : Prop := ∃ t : TT, PTs X ifs t ∧ Sn X.bs W Re t f
def tYes' (_ : Env') : M Bool := pure true
theorem dts_nil : DTs X W [] tYes' := by
  refine ⟨_, pts_nil, fun g σ H env S r Q ok en e post => ?_⟩
  have er := pure_some e
  subst er
  exact post g true H (Gh.le_refl g) ok rfl
theorem dts_one {c : Expr} {f : Env' → M Bool} (h : DT X W c f) : DTs X W [c] f := by
  obtain ⟨t, p, s⟩ := h
  exact ⟨t, pts_one p, s⟩
open Classical in
noncomputable def compL (src : Sr) (l0 : List Dv) (el : Dv → M (Option Dv)) : List Dv → List Dv → M (List Dv)
  | [], acc => fun S => if src S = some l0 then some (.ok acc S) else none
  | d :: r, acc => fun S => if src S = some l0 then (match el d S with
    | some (.ok (some y) S') => if acc.length < sizeLine then compL src l0 el r (acc ++ [y]) S' else none
    | some (.ok none S') => compL src l0 el r acc S'
    | _ => none) else none
noncomputable def compM (src : Sr) (el : Dv → M (Option Dv)) : M (List Dv) := fun S => match src S with
  | some l => compL src l el l [] S
  | none => none
def elM (vs : List Nat) (gf : Dv → Env' → M Env') (ft : Env' → M Bool) (fe : Env' → M Dv) (env : Env') (d : Dv) : M (Option Dv) := do
  let env' ← gf d (wipeE env vs)
  let b ← ft env'
  if b = true then (do let y ← fe env'; pure (some y)) else pure none
abbrev W0 : WX := fun _ _ _ _ => False
/-- the parts of a comprehension's block, over every entry -/
structure Blk (X : Cx) (tg : Expr) (ifs : List Expr) (elt : Expr) (scope : Scope) (vs : List Nat) (gf : Dv → Env' → M Env') (ft : Env' → M Bool) (fe : Env' → M Dv) : Prop where
  ex : ∃ (g : TG) (tt : TT) (te : TE), (∀ (s : Shared) (H : Hp) (C : Addr) (cl : List (Str × Addr)) (fp : List Addr), PG (X.blk s H scope (compEnvC scope cl C X.env) fp) tg g ∧ PTs (X.blk s H scope (compEnvC scope cl C X.env) fp) ifs tt ∧ PE (X.blk s H scope (compEnvC scope cl C X.env) fp) elt te) ∧
    (∀ (g1 : Gh) (σ : L2.St) (H : Hp) (env : Env') (S : Sto) (d : Dv) (v : V) (env' : Env') (S' : Sto) (Q : L2.St → Hp → Prop), Ok X.bs g1 H S → En X.bs g1 σ env → Rp X.K g1 d v → gf d env S = some (.ok env' S') →
      (∀ g' σ' H', g1.le g' → Ok X.bs g' H' S' → En X.bs g' σ' env' → σ'.length = σ.length → (∀ j : Nat, j ∉ vs → σ'[j]? = σ[j]?) → Q σ' H') → g v σ H Q) ∧
    Sn X.bs W0 Re tt ft ∧ Sn X.bs W0 (Rv X) te fe
theorem Ok.privSet {B : Bs} {g g0 : Gh} {H : Hp} {S : Sto} {p : Addr} {o o' : HO} (ok : Ok B g H S) (hg : g.pv = (p, o) :: g0.pv) (hn : ∀ q ∈ g0.pv, q.1 ≠ p) (no : ∀ {x}, o ≠ .own x) : Ok B ⟨g.F, g.m, (p, o') :: g0.pv⟩ (upd H p o') S := by
  obtain ⟨p1, p2, p3⟩ := ok.pvt (p, o) (by rw [hg]; exact List.mem_cons_self)
  have p1 : H p = some o := p1
  have p2 : g.F p = none := p2
  have p3 : ∀ n : Nat, g.m[n]? ≠ some p := p3
  refine ⟨fun a u e => by rw [upd_ne (fun z => by rw [z, p2] at e; cases e)]; exact ok.fz a u e, ok.len, fun n c a hs hm => ?_, ok.nf, ok.inj, fun q hq => ?_⟩
  · have ne : a ≠ p := fun z => p3 n (by rw [← z]; exact hm)
    have q := ok.cel n c a hs hm
    cases c with
    | lst l => obtain ⟨vs, e, r⟩ := q; exact ⟨vs, by rw [upd_ne ne]; exact e, r.sub (g := g) (g' := ⟨g.F, g.m, (p, o') :: g0.pv⟩) ⟨fun _ _ e => e, fun _ _ e => e⟩⟩
    | dct l => obtain ⟨vs, e, r⟩ := q; exact ⟨vs, by rw [upd_ne ne]; exact e, r.sub (g := g) (g' := ⟨g.F, g.m, (p, o') :: g0.pv⟩) ⟨fun _ _ e => e, fun _ _ e => e⟩⟩
    | ins c fs =>
      obtain ⟨C, dx, ws, hmg, e, ed, ef, r⟩ := q
      have nd : dx ≠ p := fun z => by
        rw [z, p1] at ed
        exact no (Option.some.inj ed)
      exact ⟨C, dx, ws, hmg, by rw [upd_ne ne]; exact e, by rw [upd_ne nd]; exact ed, ef, r.sub (g := g) (g' := ⟨g.F, g.m, (p, o') :: g0.pv⟩) ⟨fun _ _ e => e, fun _ _ e => e⟩⟩
    | dead => exact q
  · rcases List.mem_cons.mp hq with rfl | hq
    · exact ⟨upd_same, p2, p3⟩
    · obtain ⟨e1, e2, e3⟩ := ok.pvt q (by rw [hg]; exact List.mem_cons_of_mem _ hq)
      exact ⟨by rw [upd_ne (hn q hq)]; exact e1, e2, e3⟩
/-- the reading of a comprehension; Q at the end gets the list at D, private still -/
theorem comp_read {tg : Expr} {ifs : List Expr} {elt : Expr} {scope : Scope} {vs : List Nat} {gf : Dv → Env' → M Env'} {ft : Env' → M Bool} {fe : Env' → M Dv} {g : TG} {tt : TT} {te : TE}
    (hg : ∀ (g1 : Gh) (σ : L2.St) (H : Hp) (env : Env') (S : Sto) (d : Dv) (v : V) (env' : Env') (S' : Sto) (Q : L2.St → Hp → Prop), Ok X.bs g1 H S → En X.bs g1 σ env → Rp X.K g1 d v → gf d env S = some (.ok env' S') →
      (∀ g' σ' H', g1.le g' → Ok X.bs g' H' S' → En X.bs g' σ' env' → σ'.length = σ.length → (∀ j : Nat, j ∉ vs → σ'[j]? = σ[j]?) → Q σ' H') → g v σ H Q)
    (ht : Sn X.bs W0 Re tt ft) (he : Sn X.bs W0 (Rv X) te fe) {J : It} {src : Sr} {g0 : Gh} {σ : L2.St} {H1 : Hp} {env : Env'} {S S' : Sto} {res : List Dv} {Q : VK} (ok : Ok X.bs g0 H1 S) (en : En X.bs g0 σ env) (hj : JOk X.bs g0 J src)
    (e : compM src (elM vs gf ft fe env) S = some (.ok res S'))
    (post : ∀ g' D acc H', g0.F D = none → g'.pv = (D, .lst acc) :: g0.pv → (∀ q ∈ g0.pv, q.1 ≠ D) → (∀ a o, g0.F a = some o → g'.F a = some o) → (∀ (n : Nat) (a : Addr), g0.m[n]? = some a → g'.m[n]? = some a) → Ok X.bs g' H' S' → Rps X.K g' res acc → res.length ≤ sizeLine → Q (.ref D) H') :
    ∀ D, H1 D = none → ∃ W : Nat → Nat → Hp → Prop, (∃ m, W 0 m (upd H1 D (.lst []))) ∧ ∀ i m H, W i m H →
      (J.stop i H ∧ Q (.ref D) H) ∨ (J.go i H ∧ ∃ Nx : Hp → Prop, (∀ H', Nx H' → ∃ m', m' < m ∧ W (i + 1) m' H') ∧ ∀ x H', J.yld i H x H' → g x (wipe σ vs) H' fun σ2 H2 => wipe σ2 vs = wipe σ vs ∧ tt σ2 H2 fun b H3 =>
        if b = true then te σ2 H3 fun y H4 => ∃ acc, H4 D = some (.lst acc) ∧ acc.length < sizeLine ∧ Nx (upd H4 D (.lst (acc ++ [y]))) else Nx H3) := by
  intro D hD
  unfold compM at e
  split at e
  · rename_i l0 hl0
    have hfD := ok.free hD
    have hnp : ∀ q ∈ g0.pv, q.1 ≠ D := fun q hq => ne_of_none (ok.pvt q hq).1 hD
    -- the invariant: the rest of the walk
    let Wv : Nat → Nat → Hp → Prop := fun i m H => ∃ (gg : Gh) (SS : Sto) (acc : List Dv) (va : List V), m = l0.length - i ∧ i ≤ l0.length ∧ gg.pv = (D, .lst va) :: g0.pv ∧ g0.sub gg ∧
      Ok X.bs gg H SS ∧ Rps X.K gg acc va ∧ acc.length ≤ sizeLine ∧ compL src l0 (elM vs gf ft fe env) (l0.drop i) acc SS = some (.ok res S')
    refine ⟨Wv, ⟨l0.length, g0.priv D (.lst []), S, [], [], by simp, Nat.zero_le _, rfl, ⟨fun _ _ e => e, fun _ _ e => e⟩, ok.priv hD, .nil, Nat.zero_le _, by rw [List.drop_zero]; exact e⟩, ?_⟩
    rintro i m H ⟨gg, SS, acc, va, rfl, hi, hpv, hsub, okk, racc, hz, ec⟩
    by_cases hlt : i < l0.length
    · have hdrop : l0.drop i = l0[i] :: l0.drop (i + 1) := List.drop_eq_getElem_cons hlt
      rw [hdrop] at ec
      unfold compL at ec
      split at ec
      · rename_i hsrc
        obtain ⟨_, hj2⟩ := hj gg H SS l0 hsub okk hsrc i
        obtain ⟨hgo, hyld⟩ := hj2 l0[i] (List.getElem?_eq_getElem hlt)
        refine .inr ⟨hgo, fun H' => Wv (i + 1) (l0.length - (i + 1)) H', fun H' w => ⟨_, by omega, w⟩, fun x H' hy => ?_⟩
        obtain ⟨g2, hl2, ok2, r2⟩ := hyld x H' hy
        have en2 : En X.bs g2 (L2.wipe σ vs) (wipeE env vs) := (en.wipe vs).sub (Gh.sub_trans hsub hl2.sub)
        -- the element
        have el : ∀ (o : Option Dv) (S1 : Sto), elM vs gf ft fe env l0[i] SS = some (.ok o S1) → (match o with
            | some y => if acc.length < sizeLine then compL src l0 (elM vs gf ft fe env) (l0.drop (i + 1)) (acc ++ [y]) S1 else none
            | none => compL src l0 (elM vs gf ft fe env) (l0.drop (i + 1)) acc S1) = some (.ok res S') →
            g x (L2.wipe σ vs) H' fun σ2 H2 => L2.wipe σ2 vs = L2.wipe σ vs ∧ tt σ2 H2 fun b H3 =>
              if b = true then te σ2 H3 fun y H4 => ∃ acc, H4 D = some (.lst acc) ∧ acc.length < sizeLine ∧ Wv (i + 1) (l0.length - (i + 1)) (upd H4 D (.lst (acc ++ [y]))) else Wv (i + 1) (l0.length - (i + 1)) H3 := fun o S1 eo ho => by
          unfold elM at eo
          rcases bind_some (x := gf l0[i] (wipeE env vs)) eo with ⟨env', S2, e1, e2⟩ | ⟨_, _, _, q⟩
          · refine hg g2 (L2.wipe σ vs) H' (wipeE env vs) SS l0[i] x env' S2 _ ok2 en2 r2 e1 fun g3 σ3 H3 l3 ok3 en3 len3 k3 => ⟨wipe_same (by rw [len3, L2.wipe_length]) fun j hj => k3 j hj, ?_⟩
            rcases bind_some (x := ft env') e2 with ⟨b, S3, e3, e4⟩ | ⟨_, _, _, q⟩
            · refine ht g3 σ3 H3 env' S2 _ _ ok3 en3 e3 fun g4 b' H4 l4 ok4 rb => ?_
              cases rb
              have pv4 : g4.pv = (D, .lst va) :: g0.pv := by rw [l4.2.2, l3.2.2, hl2.2.2]; exact hpv
              have sub4 : gg.sub g4 := (Gh.le_trans hl2 (Gh.le_trans l3 l4)).sub
              cases b with
              | true =>
                rw [if_pos rfl] at e4 ⊢
                rcases bind_some (x := fe env') e4 with ⟨y, S4, e5, e6⟩ | ⟨_, _, _, q⟩
                · have q := pure_some e6
                  cases q
                  dsimp only at ho
                  split at ho
                  · rename_i hlen
                    refine he g4 σ3 H4 env' S3 _ _ ok4 (en3.mono l4) e5 fun g5 yv H5 l5 ok5 ry => ?_
                    have pv5 : g5.pv = (D, .lst va) :: g0.pv := by rw [l5.2.2]; exact pv4
                    obtain ⟨p1, _, _⟩ := ok5.pvt (D, .lst va) (by rw [pv5]; exact List.mem_cons_self)
                    have sub5 : gg.sub g5 := Gh.sub_trans sub4 l5.sub
                    refine ⟨va, p1, by rw [← racc.length]; exact hlen, ?_⟩
                    have ok6 := ok5.privSet (o' := .lst (va ++ [yv])) pv5 hnp (by intro z h; cases h)
                    have s56 : g5.sub ⟨g5.F, g5.m, (D, .lst (va ++ [yv])) :: g0.pv⟩ := ⟨fun _ _ e => e, fun _ _ e => e⟩
                    exact ⟨_, S1, acc ++ [y], va ++ [yv], rfl, hlt, rfl, Gh.sub_trans hsub (Gh.sub_trans sub5 s56), ok6, (racc.sub (Gh.sub_trans sub5 s56)).append (.cons (ry.sub s56) .nil), by rw [List.length_append]; exact hlen, ho⟩
                  · cases ho
                · cases q
              | false =>
                rw [if_neg Bool.false_ne_true] at e4 ⊢
                have q := pure_some e4
                cases q
                exact ⟨g4, S1, acc, va, rfl, hlt, pv4, Gh.sub_trans hsub sub4, ok4, racc.sub sub4, hz, ho⟩
            · cases q
          · cases q
        cases eel : elM vs gf ft fe env l0[i] SS with
        | none => rw [eel] at ec; cases ec
        | some oo =>
          rw [eel] at ec
          cases oo with
          | er _ _ => cases ec
          | ok o S1 =>
            cases o with
            | some y => exact el (some y) S1 eel ec
            | none => exact el none S1 eel ec
      · cases ec
    · have hdrop : l0.drop i = [] := List.drop_eq_nil_of_le (by omega)
      rw [hdrop] at ec
      unfold compL at ec
      split at ec
      · rename_i hsrc
        obtain ⟨hj1, _⟩ := hj gg H SS l0 hsub okk hsrc i
        cases ec
        exact .inl ⟨hj1 (by omega), post gg D va H hfD hpv hnp hsub.1 hsub.2 okk racc hz⟩
      · cases ec
  · cases e
/-- frozen at the end -/
theorem comp_frz {B : Bs} {g0 g' : Gh} {D : Addr} {acc : List V} {H' : Hp} {S : Sto} {res : List Dv} {Q : VK} {Wx : XK} (hf : g0.F D = none) (pv : g'.pv = (D, .lst acc) :: g0.pv) (hn : ∀ q ∈ g0.pv, q.1 ≠ D)
    (h1 : ∀ a o, g0.F a = some o → g'.F a = some o) (h2 : ∀ (n : Nat) (a : Addr), g0.m[n]? = some a → g'.m[n]? = some a) (ok : Ok B g' H' S) (r : Rps B.K g' res acc) (post : Post B g0 (fun g => Rp B.K g) Q Wx (.ok (.lst res) S)) : Q (.ref D) H' := by
  obtain ⟨p1, p2, p3⟩ := ok.pvt (D, .lst acc) (by rw [pv]; exact List.mem_cons_self)
  have p1 : H' D = some (.lst acc) := p1
  have p2 : g'.F D = none := p2
  have ok' := ok.unpriv (o' := .lst acc) pv hn (by intro z h; cases h)
  have eH : upd H' D (.lst acc) = H' := by
    funext b
    by_cases hb : b = D
    · subst hb; rw [upd_same, p1]
    · rw [upd_ne hb]
  rw [eH] at ok'
  have sb : g'.sub ⟨upd g'.F D (.lst acc), g'.m, g0.pv⟩ := ⟨fun a o e => by show upd g'.F D _ a = some o; rw [upd_ne (fun z => by rw [z, p2] at e; cases e)]; exact e, fun _ _ e => e⟩
  exact post ⟨upd g'.F D (.lst acc), g'.m, g0.pv⟩ (.ref D) H' ⟨fun a o e => sb.1 a o (h1 a o e), h2, rfl⟩ ok' (.lst upd_same (r.sub sb))
/-- made a cell at the end -/
theorem comp_cell {B : Bs} {g0 g' : Gh} {D : Addr} {acc : List V} {H' : Hp} {S : Sto} {res : List Dv} {Q : VK} {Wx : XK} (pv : g'.pv = (D, .lst acc) :: g0.pv) (hn : ∀ q ∈ g0.pv, q.1 ≠ D)
    (h1 : ∀ a o, g0.F a = some o → g'.F a = some o) (h2 : ∀ (n : Nat) (a : Addr), g0.m[n]? = some a → g'.m[n]? = some a) (ok : Ok B g' H' S) (r : Rps B.K g' res acc) (post : Post B g0 (fun g => Rp B.K g) Q Wx (.ok (.ref S.length) (S ++ [.lst res]))) : Q (.ref D) H' := by
  obtain ⟨p1, p2, p3⟩ := ok.pvt (D, .lst acc) (by rw [pv]; exact List.mem_cons_self)
  have p1 : H' D = some (.lst acc) := p1
  have p2 : g'.F D = none := p2
  have p3 : ∀ n : Nat, g'.m[n]? ≠ some D := p3
  have hlen := ok.len
  have sb : g'.sub ⟨g'.F, g'.m ++ [D], g0.pv⟩ := ⟨fun _ _ e => e, fun n a e => by
    show (g'.m ++ [D])[n]? = some a
    rw [List.getElem?_append_left (List.getElem?_eq_some_iff.mp e).1]
    exact e⟩
  have pos : ∀ (i : Nat) a, (g'.m ++ [D])[i]? = some a → (i < g'.m.length ∧ g'.m[i]? = some a) ∨ (i = g'.m.length ∧ a = D) := fun i a e' => by
    by_cases hi : i < g'.m.length
    · rw [List.getElem?_append_left hi] at e'
      exact .inl ⟨hi, e'⟩
    · rw [List.getElem?_append_right (by omega)] at e'
      cases hk : i - g'.m.length with
      | zero => rw [hk] at e'; simp at e'; exact .inr ⟨by omega, e'.symm⟩
      | succ k => rw [hk] at e'; simp at e'
  have ok' : Ok B ⟨g'.F, g'.m ++ [D], g0.pv⟩ H' (S ++ [.lst res]) := by
    refine ⟨ok.fz, by simp [hlen], fun n c a hs hm => ?_, fun n c a hs hm => ?_, fun i j a e1 e2 => ?_, fun q hq => ?_⟩
    · rcases pos n a hm with ⟨hl, e⟩ | ⟨rfl, rfl⟩
      · rw [List.getElem?_append_left (by omega)] at hs
        have q := ok.cel n c a hs e
        cases c with
        | lst l => obtain ⟨ws, e, r⟩ := q; exact ⟨ws, e, r.sub sb⟩
        | dct l => obtain ⟨ws, e, r⟩ := q; exact ⟨ws, e, r.sub sb⟩
        | ins c fs => obtain ⟨C, dx, ws, hmg, e, ed, ef, r⟩ := q; exact ⟨C, dx, ws, hmg, e, ed, ef, r.sub sb⟩
        | dead => exact q
      · rw [hlen, List.getElem?_append_right (Nat.le_refl _), Nat.sub_self] at hs
        cases hs
        exact ⟨acc, p1, r.sub sb⟩
    · rcases pos n a hm with ⟨hl, e⟩ | ⟨rfl, rfl⟩
      · rw [List.getElem?_append_left (by omega)] at hs
        exact ok.nf n c a hs e
      · exact .inl p2
    · rcases pos i a e1 with ⟨l1, q1⟩ | ⟨q1, rfl⟩
      · rcases pos j a e2 with ⟨_, q2⟩ | ⟨q2, rfl⟩
        · exact ok.inj i j a q1 q2
        · exact (p3 i q1).elim
      · rcases pos j a e2 with ⟨_, q2⟩ | ⟨q2, _⟩
        · exact (p3 j q2).elim
        · rw [q1, q2]
    · obtain ⟨e1, e2, e3⟩ := ok.pvt q (by rw [pv]; exact List.mem_cons_of_mem _ hq)
      refine ⟨e1, e2, fun n e => ?_⟩
      rcases pos n _ e with ⟨_, q1⟩ | ⟨_, q1⟩
      · exact e3 n q1
      · exact hn q hq q1
  refine post ⟨g'.F, g'.m ++ [D], g0.pv⟩ (.ref D) H' ⟨h1, fun n a e => sb.2 n a (h2 n a e), rfl⟩ ok' (.ref ?_)
  show (g'.m ++ [D])[S.length]? = some D
  rw [← hlen]
  simp
def frzR : Rs (List Dv) → Rs Dv
  | .ok l S => .ok (.lst l) S
  | .er x S => .er x S
def celR : Rs (List Dv) → Rs Dv
  | .ok l S => .ok (.ref S.length) (S ++ [.lst l])
  | .er x S => .er x S
noncomputable def lcF (fi : Env' → M Sr) (vs : List Nat) (gf : Dv → Env' → M Env') (ft : Env' → M Bool) (fe : Env' → M Dv) (env : Env') : M Dv := do
  let src ← fi env
  fun S => (compM src (elM vs gf ft fe env) S).map frzR
noncomputable def lcC (fi : Env' → M Sr) (vs : List Nat) (gf : Dv → Env' → M Env') (ft : Env' → M Bool) (fe : Env' → M Dv) (env : Env') : M Dv := do
  let src ← fi env
  fun S => (compM src (elM vs gf ft fe env) S).map celR
theorem compL_ok {src : Sr} {l0 : List Dv} {el : Dv → M (Option Dv)} : ∀ {l acc : List Dv} {S : Sto} {r : Rs (List Dv)}, compL src l0 el l acc S = some r → ∃ res S', r = .ok res S'
  | [], acc, S, r, h => by
    unfold compL at h
    split at h
    · exact ⟨_, _, (Option.some.inj h).symm⟩
    · cases h
  | d :: l, acc, S, r, h => by
    unfold compL at h
    split at h
    · split at h
      · split at h
        · exact compL_ok h
        · cases h
      · exact compL_ok h
      · cases h
    · cases h
theorem compM_ok {src : Sr} {el : Dv → M (Option Dv)} {S : Sto} {r : Rs (List Dv)} (h : compM src el S = some r) : ∃ res S', r = .ok res S' := by
  unfold compM at h
  split at h
  · exact compL_ok h
  · cases h
theorem sn_lc {tg iter : Expr} {gf : Dv → Env' → M Env'} {ft : Env' → M Bool} {fe : Env' → M Dv} {fi : Env' → M Sr} {vs : List Nat} {g : TG} {tt : TT} {te : TE} {wi : TI}
    (hi : Sn X.bs W (Rj X) wi fi)
    (hg : ∀ (g1 : Gh) (σ : L2.St) (H : Hp) (env : Env') (S : Sto) (d : Dv) (v : V) (env' : Env') (S' : Sto) (Q : L2.St → Hp → Prop), Ok X.bs g1 H S → En X.bs g1 σ env → Rp X.K g1 d v → gf d env S = some (.ok env' S') →
      (∀ g' σ' H', g1.le g' → Ok X.bs g' H' S' → En X.bs g' σ' env' → σ'.length = σ.length → (∀ j : Nat, j ∉ vs → σ'[j]? = σ[j]?) → Q σ' H') → g v σ H Q)
    (ht : Sn X.bs W0 Re tt ft) (he : Sn X.bs W0 (Rv X) te fe) : Sn X.bs W (Rv X) (tLc wi g tt te vs) (lcF fi vs gf ft fe) := by
  intro g0 σ H env S r Q ok en e post
  unfold lcF at e
  rcases bind_some (x := fi env) e with ⟨src, S1, e1, e2⟩ | ⟨ex, S1, e1, rfl⟩
  · refine hi g0 σ H env S _ _ ok en e1 fun g1 J H1 l1 ok1 hj => ?_
    obtain ⟨rr, e3, rfl⟩ := Option.map_eq_some_iff.mp e2
    obtain ⟨res, S', rfl⟩ := compM_ok e3
    exact comp_read (vs := vs) (env := env) (tg := .Name "x" ⟨0, 0, 0, 0⟩) (ifs := []) (elt := .Name "x" ⟨0, 0, 0, 0⟩) (scope := { kind := .function, names := [], isGenerator := false, isCoroutine := false, more := [] }) hg ht he ok1 (en.mono l1) hj e3 fun g' D acc H' hf pv hn h1 h2 ok' r' hz => comp_frz hf pv hn h1 h2 ok' r' (post.mono l1)
  · exact hi g0 σ H env S _ _ ok en e1 post
theorem sn_lcC {tg iter : Expr} {gf : Dv → Env' → M Env'} {ft : Env' → M Bool} {fe : Env' → M Dv} {fi : Env' → M Sr} {vs : List Nat} {g : TG} {tt : TT} {te : TE} {wi : TI}
    (hi : Sn X.bs W (Rj X) wi fi)
    (hg : ∀ (g1 : Gh) (σ : L2.St) (H : Hp) (env : Env') (S : Sto) (d : Dv) (v : V) (env' : Env') (S' : Sto) (Q : L2.St → Hp → Prop), Ok X.bs g1 H S → En X.bs g1 σ env → Rp X.K g1 d v → gf d env S = some (.ok env' S') →
      (∀ g' σ' H', g1.le g' → Ok X.bs g' H' S' → En X.bs g' σ' env' → σ'.length = σ.length → (∀ j : Nat, j ∉ vs → σ'[j]? = σ[j]?) → Q σ' H') → g v σ H Q)
    (ht : Sn X.bs W0 Re tt ft) (he : Sn X.bs W0 (Rv X) te fe) : Sn X.bs W (Rv X) (tLc wi g tt te vs) (lcC fi vs gf ft fe) := by
  intro g0 σ H env S r Q ok en e post
  unfold lcC at e
  rcases bind_some (x := fi env) e with ⟨src, S1, e1, e2⟩ | ⟨ex, S1, e1, rfl⟩
  · refine hi g0 σ H env S _ _ ok en e1 fun g1 J H1 l1 ok1 hj => ?_
    obtain ⟨rr, e3, rfl⟩ := Option.map_eq_some_iff.mp e2
    obtain ⟨res, S', rfl⟩ := compM_ok e3
    exact comp_read (vs := vs) (env := env) (tg := .Name "x" ⟨0, 0, 0, 0⟩) (ifs := []) (elt := .Name "x" ⟨0, 0, 0, 0⟩) (scope := { kind := .function, names := [], isGenerator := false, isCoroutine := false, more := [] }) hg ht he ok1 (en.mono l1) hj e3 fun g' D acc H' hf pv hn h1 h2 ok' r' hz => comp_cell pv hn h1 h2 ok' r' (post.mono l1)
  · exact hi g0 σ H env S _ _ ok en e1 post
/-- the block by its parts -/
theorem blk {tg : Expr} {ifs : List Expr} {elt : Expr} {scope : Scope} {vs : List Nat} {gf : Dv → Env' → M Env'} {ft : Env' → M Bool} {fe : Env' → M Dv}
    (h : ∃ (g : TG) (tt : TT) (te : TE), (∀ (s : Shared) (H : Hp) (C : Addr) (cl : List (Str × Addr)) (fp : List Addr), PG (X.blk s H scope (compEnvC scope cl C X.env) fp) tg g ∧ PTs (X.blk s H scope (compEnvC scope cl C X.env) fp) ifs tt ∧ PE (X.blk s H scope (compEnvC scope cl C X.env) fp) elt te) ∧
    (∀ (g1 : Gh) (σ : L2.St) (H : Hp) (env : Env') (S : Sto) (d : Dv) (v : V) (env' : Env') (S' : Sto) (Q : L2.St → Hp → Prop), Ok X.bs g1 H S → En X.bs g1 σ env → Rp X.K g1 d v → gf d env S = some (.ok env' S') →
      (∀ g' σ' H', g1.le g' → Ok X.bs g' H' S' → En X.bs g' σ' env' → σ'.length = σ.length → (∀ j : Nat, j ∉ vs → σ'[j]? = σ[j]?) → Q σ' H') → g v σ H Q) ∧
    Sn X.bs W0 Re tt ft ∧ Sn X.bs W0 (Rv X) te fe) : Blk X tg ifs elt scope vs gf ft fe := ⟨h⟩
theorem de_lc {elt tg iter : Expr} {ifs : List Expr} {scope : Scope} {own : List (Str × Nat)} {pos : Pos} {gf : Dv → Env' → M Env'} {ft : Env' → M Bool} {fe : Env' → M Dv} {fi : Env' → M Sr} (c : Ct X W) (hi : DI X W tg iter fi) (hb : Blk X tg ifs elt scope (own.map (·.2)) gf ft fe)
    (hk : blkC X.N X.env.scope scope own = true) (hs : ∀ x, foldedSetIterable iter X.env x = pure x := by intro _; rfl) : DE X W (.ListComp elt [⟨tg, iter, ifs, 0⟩] scope pos) (lcF fi (own.map (·.2)) gf ft fe) := by
  obtain ⟨wi, pi, si⟩ := hi
  obtain ⟨g, tt, te, hp, hg, ht, he⟩ := hb.ex
  exact ⟨_, pe_lc c.calm c.nd pi (blkOk_by hk) (fun s H C cl fp => (hp s H C cl fp).1) (fun s H C cl fp => (hp s H C cl fp).2.1) (fun s H C cl fp => (hp s H C cl fp).2.2) hs, sn_lc (tg := tg) (iter := iter) si hg ht he⟩
theorem de_lcC {elt tg iter : Expr} {ifs : List Expr} {scope : Scope} {own : List (Str × Nat)} {pos : Pos} {gf : Dv → Env' → M Env'} {ft : Env' → M Bool} {fe : Env' → M Dv} {fi : Env' → M Sr} (c : Ct X W) (hi : DI X W tg iter fi) (hb : Blk X tg ifs elt scope (own.map (·.2)) gf ft fe)
    (hk : blkC X.N X.env.scope scope own = true) (hs : ∀ x, foldedSetIterable iter X.env x = pure x := by intro _; rfl) : DE X W (.ListComp elt [⟨tg, iter, ifs, 0⟩] scope pos) (lcC fi (own.map (·.2)) gf ft fe) := by
  obtain ⟨wi, pi, si⟩ := hi
  obtain ⟨g, tt, te, hp, hg, ht, he⟩ := hb.ex
  exact ⟨_, pe_lc c.calm c.nd pi (blkOk_by hk) (fun s H C cl fp => (hp s H C cl fp).1) (fun s H C cl fp => (hp s H C cl fp).2.1) (fun s H C cl fp => (hp s H C cl fp).2.2) hs, sn_lcC (tg := tg) (iter := iter) si hg ht he⟩
end
end ML

/-! ML 6: blocks of comprehensions, statements, defs. -/
namespace ML
open PySem PySem.Spec PyProof.Rows L2
/-- the reading that the mirror gives -/
def tSn {α β : Type} (B : Bs) (W : WX) (R : Gh → α → β → Prop) (f : Env' → M α) : TX β := fun σ H Q =>
  ∃ (g : Gh) (env : Env') (S : Sto) (r : Rs α), Ok B g H S ∧ En B g σ env ∧ f env S = some r ∧ Post B g R Q (fun c dd H => W c dd σ H) r
theorem sn_self {α β : Type} {B : Bs} {W : WX} {R : Gh → α → β → Prop} {f : Env' → M α} : Sn B W R (tSn B W R f) f := fun g σ H env S r Q ok en e post => ⟨g, env, S, r, ok, en, e, post⟩
theorem sn_tSn {α β : Type} {B : Bs} {W : WX} {R : Gh → α → β → Prop} {t : TX β} {f : Env' → M α} (h : Sn B W R t f) {σ : L2.St} {H : Hp} {Q : β → Hp → Prop} (q : tSn B W R f σ H Q) : t σ H Q := by
  obtain ⟨g, env, S, r, ok, en, e, post⟩ := q
  exact h g σ H env S r Q ok en e post
section
variable {X : Cx} {W : WX}
theorem DE.pe {e : Expr} {f : Env' → M Dv} (h : DE X W e f) : PE X e (tSn X.bs W (Rv X) f) := by
  obtain ⟨t, p, s⟩ := h
  exact ⟨fun pins s' σ H Q I q => p.run pins s' σ H Q I (sn_tSn s q)⟩
theorem DTs.pts {ifs : List Expr} {f : Env' → M Bool} (h : DTs X W ifs f) : PTs X ifs (tSn X.bs W Re f) := by
  obtain ⟨t, p, s⟩ := h
  exact ⟨fun pins s' σ H Q I q => p.run pins s' σ H Q I (sn_tSn s q)⟩
def tG (B : Bs) (is : List Nat) (gf : Dv → Env' → M Env') : TG := fun v σ H Q => ∃ (g : Gh) (env : Env') (S : Sto) (d : Dv) (env' : Env') (S' : Sto), Ok B g H S ∧ En B g σ env ∧ Rp B.K g d v ∧ gf d env S = some (.ok env' S') ∧
    ∀ g' σ' H', g.le g' → Ok B g' H' S' → En B g' σ' env' → σ'.length = σ.length → (∀ j : Nat, j ∉ is → σ'[j]? = σ[j]?) → Q σ' H'
theorem DG.pg {tg : Expr} {is : List Nat} {gf : Dv → Env' → M Env'} (h : DG X tg is gf) : PG X tg (tG X.bs is gf) := by
  obtain ⟨t, p, s⟩ := h
  refine ⟨fun pins s' σ H v u Q I r q => p.run pins s' σ H v u Q I r ?_⟩
  obtain ⟨g, env, S, d, env', S', ok, en, rr, e, post⟩ := q
  exact s g σ H env S d v env' S' Q ok en rr e post
theorem blk_of {tg : Expr} {ifs : List Expr} {elt : Expr} {scope : Scope} {vs is : List Nat} {gf : Dv → Env' → M Env'} {ft : Env' → M Bool} {fe : Env' → M Dv}
    (hg : ∀ (s : Shared) (H : Hp) (C : Addr) (cl : List (Str × Addr)) (fp : List Addr), DG (X.blk s H scope (compEnvC scope cl C X.env) fp) tg is gf)
    (ht : ∀ (s : Shared) (H : Hp) (C : Addr) (cl : List (Str × Addr)) (fp : List Addr), DTs (X.blk s H scope (compEnvC scope cl C X.env) fp) W0 ifs ft)
    (he : ∀ (s : Shared) (H : Hp) (C : Addr) (cl : List (Str × Addr)) (fp : List Addr), DE (X.blk s H scope (compEnvC scope cl C X.env) fp) W0 elt fe) (hsub : ∀ j ∈ is, j ∈ vs := by decide) : Blk X tg ifs elt scope vs gf ft fe := by
  refine ⟨tG X.bs is gf, tSn X.bs W0 Re ft, tSn X.bs W0 (Rv X) fe, fun s H C cl fp => ⟨(hg s H C cl fp).pg, (ht s H C cl fp).pts, (he s H C cl fp).pe⟩, fun g1 σ H env S d v env' S' Q ok en r e post => ?_, sn_self, sn_self⟩
  exact ⟨g1, env, S, d, env', S', ok, en, r, e, fun g' σ' H' l ok' en' hl k => post g' σ' H' l ok' en' hl fun j hj => k j fun hm => hj (hsub j hm)⟩
theorem Ct.blk (c : Ct X W) (s : Shared) (H : Hp) (scope : Scope) (cenv : Env) (fp : List Addr) : Ct (X.blk s H scope cenv fp) W0 := ⟨c.calm, c.nd, c.un, takes0⟩

/-! ### statements -/
inductive So where
  | nx (env : Env') (S : Sto) | rt (d : Dv) (S : Sto) | bk (env : Env') (S : Sto) | ct (env : Env') (S : Sto) | er (x : Exn) (env : Env') (S : Sto)
abbrev SF := Env' → Sto → Option So
def SPost (B : Bs) (g : Gh) (W : WX) (D : Ends) : So → Prop
  | .nx env S => ∀ g' σ H, g.le g' → Ok B g' H S → En B g' σ env → D.nx σ H
  | .rt d S => ∀ g' v H, g.le g' → Ok B g' H S → Rp B.K g' d v → D.rt v H
  | .bk env S => ∀ g' σ H, g.le g' → Ok B g' H S → En B g' σ env → D.bk σ H
  | .ct env S => ∀ g' σ H, g.le g' → Ok B g' H S → En B g' σ env → D.ct σ H
  | .er x env S => ∀ g' c dd σ H, g.le g' → Ok B g' H S → En B g' σ env → Xr B g' H x c dd → W c dd σ H
theorem SPost.mono {B : Bs} {g g1 : Gh} {W : WX} {D : Ends} {r : So} (h : SPost B g W D r) (l : g.le g1) : SPost B g1 W D r := by
  cases r with
  | nx env S => exact fun g' σ H l' => h g' σ H (Gh.le_trans l l')
  | rt d S => exact fun g' σ H l' => h g' σ H (Gh.le_trans l l')
  | bk env S => exact fun g' σ H l' => h g' σ H (Gh.le_trans l l')
  | ct env S => exact fun g' σ H l' => h g' σ H (Gh.le_trans l l')
  | er x env S => exact fun g' c dd σ H l' => h g' c dd σ H (Gh.le_trans l l')
def SSn (B : Bs) (W : WX) (t : TS) (f : SF) : Prop := ∀ (g : Gh) (σ : L2.St) (H : Hp) (env : Env') (S : Sto) (r : So) (D : Ends), Ok B g H S → En B g σ env → f env S = some r → SPost B g W D r → t D σ H
def DS (X : Cx) (W : WX) (st : Stmt) (f : SF) : Prop := ∃ t : TS, PS X st t ∧ SSn X.bs W t f
def DSs (X : Cx) (W : WX) (st : List Stmt) (f : SF) : Prop := ∃ t : TS, PSs X st t ∧ SSn X.bs W t f
def sNil : SF := fun env S => some (.nx env S)
def sSeq (f h : SF) : SF := fun env S => match f env S with
  | some (.nx env' S') => h env' S'
  | r => r
theorem dss_nil : DSs X W [] sNil := ⟨_, pss_nil, fun g σ H env S r D ok en e post => by cases e; exact post g σ H (Gh.le_refl g) ok en⟩
theorem dss_one {st : Stmt} {f : SF} (h : DS X W st f) : DSs X W [st] f := by
  obtain ⟨t, p, s⟩ := h
  exact ⟨t, pss_one p, s⟩
theorem dss_cons {st : Stmt} {sts : List Stmt} {f h : SF} (h1 : DS X W st f) (h2 : DSs X W sts h) : DSs X W (st :: sts) (sSeq f h) := by
  obtain ⟨t, p, s⟩ := h1
  obtain ⟨t2, p2, s2⟩ := h2
  refine ⟨_, pss_cons p p2, fun g σ H env S r D ok en e post => ?_⟩
  unfold sSeq at e
  show t _ σ H
  cases e1 : f env S with
  | none => rw [e1] at e; cases e
  | some o =>
    rw [e1] at e
    refine s g σ H env S o _ ok en e1 ?_
    cases o with
    | nx env' S' => exact fun g' σ' H' l ok' en' => s2 g' σ' H' env' S' r D ok' en' e (post.mono l)
    | rt d S' => cases e; exact post
    | bk env' S' => cases e; exact post
    | ct env' S' => cases e; exact post
    | er x env' S' => cases e; exact post
/-- an exception of an expression -/
def exS {α : Type} (env : Env') (r : Option (Rs α)) (k : α → Sto → Option So) : Option So := match r with
  | none => none
  | some (.ok a S) => k a S
  | some (.er x S) => some (.er x env S)
theorem exS_cases {α : Type} {env : Env'} {r : Option (Rs α)} {k : α → Sto → Option So} {o : So} (h : exS env r k = some o) : (∃ a S, r = some (.ok a S) ∧ k a S = some o) ∨ ∃ x S, r = some (.er x S) ∧ o = .er x env S := by
  unfold exS at h
  split at h
  · cases h
  · exact .inl ⟨_, _, rfl, h⟩
  · exact .inr ⟨_, _, rfl, (Option.some.inj h).symm⟩
def sSet (i : Nat) (f : Env' → M Dv) : SF := fun env S => exS env (f env S) fun d S' => some (.nx (env.set i (some d)) S')
theorem ds_set {i : Nat} {x : Str} {e : Expr} {f : Env' → M Dv} {pos pos' : Pos} (c : Ct X W) (hi : X.N[i]? = some x) (hx : Loc X.env.scope x) (he : DE X W e f) (hs : swapsWith e (some (.Name x pos')) pos.line X.env = pure false := by rfl)
    (hf : X.fn x = true ∨ X.env.scope.names.lookup x = some .local := by first | exact .inl rfl | exact .inr rfl | assumption) : DS X W (.Assign [.Name x pos'] e pos) (sSet i f) := by
  obtain ⟨t, p, s⟩ := he
  refine ⟨_, ps_set c.nd hi hx p hs hf, fun g σ H env S r D ok en e post => ?_⟩
  rcases exS_cases e with ⟨d, S', e1, e2⟩ | ⟨x', S', e1, rfl⟩
  · cases e2
    exact s g σ H env S _ _ ok en e1 fun g' v H' l ok' rv => post g' _ H' l ok' ((en.mono l).set i rv)
  · exact s g σ H env S _ _ ok en e1 fun g' c' dd H' l ok' xr => post g' c' dd σ H' l ok' (en.mono l) xr
/-- x = [..]: one line, x a plain local -/
theorem ds_setLc {i : Nat} {y : Str} {py spos : Pos} {elt tg iter : Expr} {ifs : List Expr} {scope : Scope} {own : List (Str × Nat)} {pos : Pos} {gf : Dv → Env' → M Env'} {ft : Env' → M Bool} {fe : Env' → M Dv} {fi : Env' → M Sr} (c : Ct X W) (hy : X.N[i]? = some y) (hyl : X.env.scope.names.lookup y = some .local)
    (hsw : swapsWith (.ListComp elt [⟨tg, iter, ifs, 0⟩] scope pos) (some (.Name y py)) spos.line X.env = pure true) (hi : DI X W tg iter fi) (hb : Blk X tg ifs elt scope (own.map (·.2)) gf ft fe)
    (hk : blkC X.N X.env.scope scope own = true) (hs : ∀ x, foldedSetIterable iter X.env x = pure x := by intro _; rfl) : DS X W (.Assign [.Name y py] (.ListComp elt [⟨tg, iter, ifs, 0⟩] scope pos) spos) (sSet i (lcF fi (own.map (·.2)) gf ft fe)) := by
  obtain ⟨wi, pi, si⟩ := hi
  obtain ⟨g, tt, te, hp, hg, ht, he⟩ := hb.ex
  have s := sn_lc (tg := tg) (iter := iter) si hg ht he
  refine ⟨_, ps_setLc c.calm c.nd hy hyl hsw pi (blkOk_by hk) (fun s H C cl fp => (hp s H C cl fp).1) (fun s H C cl fp => (hp s H C cl fp).2.1) (fun s H C cl fp => (hp s H C cl fp).2.2) hs, fun g σ H env S r D ok en e post => ?_⟩
  rcases exS_cases e with ⟨d, S', e1, e2⟩ | ⟨x', S', e1, rfl⟩
  · cases e2
    exact s g σ H env S _ _ ok en e1 fun g' v H' l ok' rv => post g' _ H' l ok' ((en.mono l).set i rv)
  · exact s g σ H env S _ _ ok en e1 fun g' c' dd H' l ok' xr => post g' c' dd σ H' l ok' (en.mono l) xr
theorem ds_setLcC {i : Nat} {y : Str} {py spos : Pos} {elt tg iter : Expr} {ifs : List Expr} {scope : Scope} {own : List (Str × Nat)} {pos : Pos} {gf : Dv → Env' → M Env'} {ft : Env' → M Bool} {fe : Env' → M Dv} {fi : Env' → M Sr} (c : Ct X W) (hy : X.N[i]? = some y) (hyl : X.env.scope.names.lookup y = some .local)
    (hsw : swapsWith (.ListComp elt [⟨tg, iter, ifs, 0⟩] scope pos) (some (.Name y py)) spos.line X.env = pure true) (hi : DI X W tg iter fi) (hb : Blk X tg ifs elt scope (own.map (·.2)) gf ft fe)
    (hk : blkC X.N X.env.scope scope own = true) (hs : ∀ x, foldedSetIterable iter X.env x = pure x := by intro _; rfl) : DS X W (.Assign [.Name y py] (.ListComp elt [⟨tg, iter, ifs, 0⟩] scope pos) spos) (sSet i (lcC fi (own.map (·.2)) gf ft fe)) := by
  obtain ⟨wi, pi, si⟩ := hi
  obtain ⟨g, tt, te, hp, hg, ht, he⟩ := hb.ex
  have s := sn_lcC (tg := tg) (iter := iter) si hg ht he
  refine ⟨_, ps_setLc c.calm c.nd hy hyl hsw pi (blkOk_by hk) (fun s H C cl fp => (hp s H C cl fp).1) (fun s H C cl fp => (hp s H C cl fp).2.1) (fun s H C cl fp => (hp s H C cl fp).2.2) hs, fun g σ H env S r D ok en e post => ?_⟩
  rcases exS_cases e with ⟨d, S', e1, e2⟩ | ⟨x', S', e1, rfl⟩
  · cases e2
    exact s g σ H env S _ _ ok en e1 fun g' v H' l ok' rv => post g' _ H' l ok' ((en.mono l).set i rv)
  · exact s g σ H env S _ _ ok en e1 fun g' c' dd H' l ok' xr => post g' c' dd σ H' l ok' (en.mono l) xr
/-- target = e -/
def sAsg (gf : Dv → Env' → M Env') (f : Env' → M Dv) : SF := fun env S => exS env (f env S) fun d S' => match gf d env S' with
  | some (.ok env' S'') => some (.nx env' S'')
  | _ => none
theorem ds_asg {tg e : Expr} {is : List Nat} {gf : Dv → Env' → M Env'} {f : Env' → M Dv} {pos : Pos} (he : DE X W e f) (hg : DG X tg is gf) (hs : swapsWithSole [tg] e pos.line X.env = pure false := by rfl) (hw : swappedStores [tg] e X.env = pure none := by rfl)
    (h1 : (assignEach [tg] X.env).map (·.2) = [assign tg X.env] := by rfl) : DS X W (.Assign [tg] e pos) (sAsg gf f) := by
  obtain ⟨t, p, s⟩ := he
  obtain ⟨t2, p2, s2⟩ := hg
  refine ⟨_, ps_asg p p2 hs hw h1, fun g σ H env S r D ok en e post => ?_⟩
  rcases exS_cases e with ⟨d, S', e1, e2⟩ | ⟨x', S', e1, rfl⟩
  · refine s g σ H env S _ _ ok en e1 fun g' v H' l ok' rv => ?_
    split at e2
    · rename_i env' S'' eg
      cases e2
      exact s2 g' σ H' env S' d v env' S'' _ ok' (en.mono l) rv eg fun g2 σ2 H2 l2 ok2 en2 _ _ => post g2 σ2 H2 (Gh.le_trans l l2) ok2 en2
    · cases e2
  · exact s g σ H env S _ _ ok en e1 fun g' c' dd H' l ok' xr => post g' c' dd σ H' l ok' (en.mono l) xr
def sExp (f : Env' → M Dv) : SF := fun env S => exS env (f env S) fun _ S' => some (.nx env S')
theorem ds_expr {e : Expr} {f : Env' → M Dv} {pos : Pos} (he : DE X W e f) (hs : swapsWith e none pos.line X.env = pure false := by rfl) : DS X W (.Expr e pos) (sExp f) := by
  obtain ⟨t, p, s⟩ := he
  refine ⟨_, ps_expr p hs, fun g σ H env S r D ok en e post => ?_⟩
  rcases exS_cases e with ⟨d, S', e1, e2⟩ | ⟨x', S', e1, rfl⟩
  · cases e2
    exact s g σ H env S _ _ ok en e1 fun g' v H' l ok' rv => post g' σ H' l ok' (en.mono l)
  · exact s g σ H env S _ _ ok en e1 fun g' c' dd H' l ok' xr => post g' c' dd σ H' l ok' (en.mono l) xr
def sRet (f : Env' → M Dv) : SF := fun env S => exS env (f env S) fun d S' => some (.rt d S')
theorem ds_ret {e : Expr} {f : Env' → M Dv} {pos : Pos} (he : DE X W e f) : DS X W (.Return (some e) pos) (sRet f) := by
  obtain ⟨t, p, s⟩ := he
  refine ⟨_, ps_ret p, fun g σ H env S r D ok en e post => ?_⟩
  rcases exS_cases e with ⟨d, S', e1, e2⟩ | ⟨x', S', e1, rfl⟩
  · cases e2
    exact s g σ H env S _ _ ok en e1 fun g' v H' l ok' rv => post g' v H' l ok' rv
  · exact s g σ H env S _ _ ok en e1 fun g' c' dd H' l ok' xr => post g' c' dd σ H' l ok' (en.mono l) xr
def sRetN : SF := fun _ S => some (.rt .non S)
theorem ds_retN {pos : Pos} : DS X W (.Return none pos) sRetN := ⟨_, ps_retN, fun g σ H env S r D ok en e post => by cases e; exact post g _ H (Gh.le_refl g) ok .non⟩
theorem ds_pass {pos : Pos} : DS X W (.Pass pos) sNil := ⟨_, ps_pass, fun g σ H env S r D ok en e post => by cases e; exact post g _ H (Gh.le_refl g) ok en⟩
def sBrk : SF := fun env S => some (.bk env S)
def sCnt : SF := fun env S => some (.ct env S)
theorem ds_break {pos : Pos} : DS X W (.Break pos) sBrk := ⟨_, ps_break, fun g σ H env S r D ok en e post => by cases e; exact post g _ H (Gh.le_refl g) ok en⟩
theorem ds_continue {pos : Pos} : DS X W (.Continue pos) sCnt := ⟨_, ps_continue, fun g σ H env S r D ok en e post => by cases e; exact post g _ H (Gh.le_refl g) ok en⟩
def sIf (f : Env' → M Bool) (a b : SF) : SF := fun env S => exS env (f env S) fun k S' => if k = true then a env S' else b env S'
theorem ds_if {c : Expr} {f : Env' → M Bool} {a b : List Stmt} {fa fb : SF} {pos : Pos} (hc : DT X W c f) (ha : DSs X W a fa) (hb : DSs X W b fb) : DS X W (.If c a b pos) (sIf f fa fb) := by
  obtain ⟨t, p, s⟩ := hc
  obtain ⟨ta, pa, sa⟩ := ha
  obtain ⟨tb, pb, sb⟩ := hb
  refine ⟨_, ps_if p pa pb, fun g σ H env S r D ok en e post => ?_⟩
  rcases exS_cases e with ⟨k, S', e1, e2⟩ | ⟨x', S', e1, rfl⟩
  · refine s g σ H env S _ _ ok en e1 fun g' k' H' l ok' rk => ?_
    cases rk
    cases k with
    | true => rw [if_pos rfl] at e2 ⊢; exact sa g' σ H' env S' r D ok' (en.mono l) e2 (post.mono l)
    | false => rw [if_neg Bool.false_ne_true] at e2 ⊢; exact sb g' σ H' env S' r D ok' (en.mono l) e2 (post.mono l)
  · exact s g σ H env S _ _ ok en e1 fun g' c' dd H' l ok' xr => post g' c' dd σ H' l ok' (en.mono l) xr
/-! ### for, while -/
open Classical in
noncomputable def forL (src : Sr) (l0 : List Dv) (gf : Dv → Env' → M Env') (body : SF) : List Dv → SF
  | [] => fun env S => if src S = some l0 then some (.nx env S) else none
  | d :: r => fun env S => if src S = some l0 then (match gf d env S with
    | some (.ok env1 S1) => (match body env1 S1 with
      | some (.nx env2 S2) => forL src l0 gf body r env2 S2
      | some (.ct env2 S2) => forL src l0 gf body r env2 S2
      | some (.bk env2 S2) => some (.nx env2 S2)
      | o => o)
    | _ => none) else none
noncomputable def sFor (fi : Env' → M Sr) (gf : Dv → Env' → M Env') (body : SF) : SF := fun env S => exS env (fi env S) fun src S' => match src S' with
  | some l => forL src l gf body l env S'
  | none => none
theorem ds_for {tg iter : Expr} {body : List Stmt} {is : List Nat} {fi : Env' → M Sr} {gf : Dv → Env' → M Env'} {fb : SF} {pos : Pos} (c : Ct X W) (hp : PassesOwn (model X.prog X.w) X.A X.env X.xe) (hi : DI X W tg iter fi) (hg : DG X tg is gf) (hb : DSs X W body fb)
    (hs : ∀ x, foldedSetIterable iter X.env x = pure x := by intro _; rfl) : DS X W (.For tg iter body [] pos) (sFor fi gf fb) := by
  obtain ⟨wi, pi, si⟩ := hi
  obtain ⟨tb, pb, sb⟩ := hb
  refine ⟨_, ps_for hp c.calm pi hg.pg pb hs, fun g σ H env S r D ok en e post => ?_⟩
  rcases exS_cases e with ⟨src, S1, e1, e2⟩ | ⟨x', S', e1, rfl⟩
  · refine si g σ H env S _ _ ok en e1 fun g1 J H1 l1 ok1 hj => ?_
    split at e2
    · rename_i l0 hl0
      let Wv : Nat → Nat → L2.St → Hp → Prop := fun i m σ H => ∃ (gg : Gh) (env : Env') (SS : Sto), m = l0.length - i ∧ i ≤ l0.length ∧ g1.le gg ∧ Ok X.bs gg H SS ∧ En X.bs gg σ env ∧ forL src l0 gf fb (l0.drop i) env SS = some r
      refine ⟨Wv, ⟨l0.length, g1, env, S1, by simp, Nat.zero_le _, Gh.le_refl g1, ok1, en.mono l1, by rw [List.drop_zero]; exact e2⟩, ?_⟩
      rintro i m σ2 H2 ⟨gg, env2, SS, rfl, hi, lgg, okk, enn, ef⟩
      by_cases hlt : i < l0.length
      · have hdrop : l0.drop i = l0[i] :: l0.drop (i + 1) := List.drop_eq_getElem_cons hlt
        rw [hdrop] at ef
        unfold forL at ef
        split at ef
        · rename_i hsrc
          obtain ⟨_, hj2⟩ := hj gg H2 SS l0 lgg.sub okk hsrc i
          obtain ⟨hgo, hyld⟩ := hj2 l0[i] (List.getElem?_eq_getElem hlt)
          refine .inr ⟨hgo, fun σ' H' => Wv (i + 1) (l0.length - (i + 1)) σ' H', fun σ' H' w => ⟨_, by omega, w⟩, fun x H' hy => ?_⟩
          obtain ⟨g2, hl2, ok2, r2⟩ := hyld x H' hy
          split at ef
          · rename_i env3 S3 eg
            refine ⟨g2, env2, SS, l0[i], env3, S3, ok2, enn.mono hl2, r2, eg, fun g4 σ4 H4 l4 ok4 en4 _ _ => ?_⟩
            have lall : g1.le g4 := Gh.le_trans lgg (Gh.le_trans hl2 l4)
            have postA : SPost X.bs g4 W D r := post.mono (Gh.le_trans l1 lall)
            cases eb : fb env3 S3 with
            | none => rw [eb] at ef; cases ef
            | some o =>
              rw [eb] at ef
              refine sb g4 σ4 H4 env3 S3 o _ ok4 en4 eb ?_
              cases o with
              | nx env5 S5 => exact fun g5 σ5 H5 l5 ok5 en5 => ⟨g5, env5, S5, rfl, hlt, Gh.le_trans lall l5, ok5, en5, ef⟩
              | ct env5 S5 => exact fun g5 σ5 H5 l5 ok5 en5 => ⟨g5, env5, S5, rfl, hlt, Gh.le_trans lall l5, ok5, en5, ef⟩
              | bk env5 S5 => cases ef; exact postA
              | rt d S5 => cases ef; exact postA
              | er x5 env5 S5 => cases ef; exact postA
          · cases ef
        · cases ef
      · have hdrop : l0.drop i = [] := List.drop_eq_nil_of_le (by omega)
        rw [hdrop] at ef
        unfold forL at ef
        split at ef
        · rename_i hsrc
          obtain ⟨hj1, _⟩ := hj gg H2 SS l0 lgg.sub okk hsrc i
          cases ef
          exact .inl ⟨hj1 (by omega), post gg σ2 H2 (Gh.le_trans l1 lgg) okk enn⟩
        · cases ef
    · cases e2
  · exact si g σ H env S _ _ ok en e1 fun g' c' dd H' l ok' xr => post g' c' dd σ H' l ok' (en.mono l) xr
def whileL (fc : Env' → M Bool) (body : SF) : Nat → SF
  | 0 => fun _ _ => none
  | n + 1 => fun env S => exS env (fc env S) fun k S1 => if k = true then (match body env S1 with
      | some (.nx env2 S2) => whileL fc body n env2 S2
      | some (.ct env2 S2) => whileL fc body n env2 S2
      | some (.bk env2 S2) => some (.nx env2 S2)
      | o => o) else some (.nx env S1)
theorem ds_while {c : Expr} {body : List Stmt} {fc : Env' → M Bool} {fb : SF} {pos : Pos} (fuel : Nat) (hp : PassesOwn (model X.prog X.w) X.A X.env X.xe) (hc : DT X W c fc) (hb : DSs X W body fb) : DS X W (.While c body [] pos) (whileL fc fb fuel) := by
  obtain ⟨tc, pc, sc⟩ := hc
  obtain ⟨tb, pb, sb⟩ := hb
  refine ⟨_, ps_while hp pc pb, fun g σ H env S r D ok en e post => ?_⟩
  let Wv : Nat → L2.St → Hp → Prop := fun m σ H => ∃ (gg : Gh) (env : Env') (SS : Sto), g.le gg ∧ Ok X.bs gg H SS ∧ En X.bs gg σ env ∧ whileL fc fb m env SS = some r
  refine ⟨Wv, ⟨fuel, g, env, S, Gh.le_refl g, ok, en, e⟩, ?_⟩
  rintro m σ2 H2 ⟨gg, env2, SS, lgg, okk, enn, ew⟩
  cases m with
  | zero => cases ew
  | succ n =>
    unfold whileL at ew
    rcases exS_cases ew with ⟨k, S1, e1, e2⟩ | ⟨x', S', e1, rfl⟩
    · refine sc gg σ2 H2 env2 SS _ _ okk enn e1 fun g3 k' H3 l3 ok3 rk => ?_
      cases rk
      have lall : g.le g3 := Gh.le_trans lgg l3
      cases k with
      | true =>
        rw [if_pos rfl] at e2 ⊢
        refine ⟨fun σ' H' => Wv n σ' H', fun σ' H' w => ⟨n, Nat.lt_succ_self n, w⟩, ?_⟩
        have postA : SPost X.bs g3 W D r := post.mono lall
        cases eb : fb env2 S1 with
        | none => rw [eb] at e2; cases e2
        | some o =>
          rw [eb] at e2
          refine sb g3 σ2 H3 env2 S1 o _ ok3 (enn.mono l3) eb ?_
          cases o with
          | nx env5 S5 => exact fun g5 σ5 H5 l5 ok5 en5 => ⟨g5, env5, S5, Gh.le_trans lall l5, ok5, en5, e2⟩
          | ct env5 S5 => exact fun g5 σ5 H5 l5 ok5 en5 => ⟨g5, env5, S5, Gh.le_trans lall l5, ok5, en5, e2⟩
          | bk env5 S5 => cases e2; exact postA
          | rt d S5 => cases e2; exact postA
          | er x5 env5 S5 => cases e2; exact postA
      | false =>
        rw [if_neg Bool.false_ne_true] at e2 ⊢
        cases e2
        exact post g3 σ2 H3 lall ok3 (enn.mono l3)
    · exact sc gg σ2 H2 env2 SS _ _ okk enn e1 fun g' c' dd H' l ok' xr => post g' c' dd σ2 H' (Gh.le_trans lgg l) ok' (enn.mono l) xr
/-! ### o[i] = e: a list's cell -/
def setIM (a b d : Dv) : M Unit := fun S => match b, cellL S a with
  | .int k, some (n, l) => match ixN l.length k with
    | some j => some (.ok () (S.set n (.lst (l.set j d))))
    | none => none
  | _, _ => none
def gSub (fo fi : Env' → M Dv) (d : Dv) (env : Env') : M Env' := do
  let a ← fo env
  let b ← fi env
  setIM a b d
  pure env
theorem dg_sub {o i : Expr} {fo fi : Env' → M Dv} {pos : Pos} (ho : DE X W0 o fo) (hi : DE X W0 i fi)
    (ha : ∀ v, assign (.Subscript o i pos) X.env v = (do
      let ov ← holding [v] (eval o X.env)
      let iv ← holding [v, ov] (eval i X.env)
      standAt pos
      holding [v, ov, iv] (setItem ov iv v)
      release [v, ov, iv] []) := by intro _; rfl) : DG X (.Subscript o i pos) [] (gSub fo fi) := by
  obtain ⟨t, p, s⟩ := ho
  obtain ⟨t2, p2, s2⟩ := hi
  refine ⟨_, pg_sub p p2 set_list ha, fun g σ H env S d v env' S' Q ok en r e post => ?_⟩
  unfold gSub at e
  rcases bind_some (x := fo env) e with ⟨a, S1, e1, e2⟩ | ⟨_, _, _, q⟩
  · refine s g σ H env S _ _ ok en e1 fun g1 v1 H1 l1 ok1 r1 => ?_
    rcases bind_some (x := fi env) e2 with ⟨b, S2, e3, e4⟩ | ⟨_, _, _, q⟩
    · refine s2 g1 σ H1 env S1 _ _ ok1 (en.mono l1) e3 fun g2 v2 H2 l2 ok2 r2 => ?_
      rcases bind_some (x := setIM a b d) e4 with ⟨_, S3, e5, e6⟩ | ⟨_, _, _, q⟩
      · have q := pure_some e6
        cases q
        unfold setIM at e5
        split at e5
        · rename_i k n l hl
          split at e5
          · rename_i j hj
            cases e5
            obtain ⟨pa, ws, rfl, h1, h2, h3, h4⟩ := cellL_at ok2 (r1.mono l2) hl
            cases r2
            have l12 := Gh.le_trans l1 l2
            refine ⟨pa, ws, k, j, rfl, rfl, h3, by rw [← h4.length]; exact hj, ?_⟩
            exact post g2 σ _ l12 (ok2.setL h1 h2 (h4.set (r.mono l12) j)) (en.mono l12) rfl fun _ _ => rfl
          · cases e5
        · cases e5
      · cases q
    · cases q
  · cases q
end

/-! ### defs -/
/-- a def's mirror: the slots at the entry -/
def start' (n : Nat) (ds : List Dv) : Env' := ds.map some ++ List.replicate (n - ds.length) none
theorem en_start {B : Bs} {g : Gh} {N : List Str} {ds : List Dv} {vs : List V} (r : Rps B.K g ds vs) : En B g (L2.start N vs) (start' N.length ds) := by
  refine ⟨by unfold L2.start start'; rw [List.length_append, List.length_append, List.length_map, List.length_map, List.length_replicate, List.length_replicate, r.length], fun i d e => ?_⟩
  unfold start' at e
  unfold L2.start
  by_cases hi : i < ds.length
  · rw [List.getElem?_append_left (by simpa using hi), List.getElem?_map] at e
    have hv : i < vs.length := by rw [← r.length]; exact hi
    rw [List.getElem?_append_left (by simpa using hv), List.getElem?_map]
    obtain ⟨d', h1, h2⟩ := Option.map_eq_some_iff.mp e
    cases h2
    obtain ⟨v, h3, h4⟩ := r.get h1
    exact ⟨v, by rw [h3]; rfl, h4⟩
  · rw [List.getElem?_append_right (by simpa using hi), List.getElem?_replicate] at e
    split at e <;> cases e
mutual
/-- the refs of a value lie below n -/
def below (n : Nat) : Dv → Bool
  | .tup l => belows n l
  | .lst l => belows n l
  | .scr l => belows n l
  | .ref k => decide (k < n)
  | _ => true
def belows (n : Nat) : List Dv → Bool
  | [] => true
  | d :: ds => below n d && belows n ds
end
def belowC (n : Nat) : Cell → Bool
  | .lst l => belows n l
  | .dct kvs => kvs.all fun p => below n p.2
  | .ins _ fs => fs.all fun p => below n p.2
  | .dead => true
/-- the value that a def hands back: a list's own cell made at or above n is frozen -/
def frzD (n : Nat) (d : Dv) (S : Sto) : Dv × Sto := match d with
  | .ref k => if n ≤ k then (match S[k]? with
    | some (.lst l) => (.lst l, S.set k .dead)
    | _ => (d, S)) else (d, S)
  | d => (d, S)
/-- the cells made at or above n that nothing refers to are forgotten -/
def gcS (n : Nat) (d : Dv) (S : Sto) : Sto := if below n d = true ∧ (S.take n).all (belowC n) = true then S.take n else S
def leaveD (frz : Bool) (n : Nat) (d : Dv) (S : Sto) : Rs Dv :=
  let p := if frz = true then frzD n d S else (d, S)
  .ok p.1 (gcS n p.1 p.2)
def defM (frz : Bool) (n : Nat) (body : SF) (ds : List Dv) : M Dv := fun S => match body (start' n ds) S with
  | some (.nx _ S') => some (.ok .non (gcS S.length .non S'))
  | some (.rt d S') => some (leaveD frz S.length d S')
  | some (.er x _ S') => some (.er x S')
  | _ => none
mutual
theorem below_rp {K : PySem.W.Frag} {g : Gh} {n : Nat} : ∀ {d : Dv} {v : V}, Rp K g d v → below n d = true → Rp K ⟨g.F, g.m.take n, g.pv⟩ d v
  | _, _, .non, _ => .non
  | _, _, .bl b, _ => .bl b
  | _, _, .int b, _ => .int b
  | _, _, .str b, _ => .str b
  | _, _, .ty b, _ => .ty b
  | _, _, .tup s r, h => .tup s (belows_rp r h)
  | _, _, .lst s r, h => .lst s (belows_rp r h)
  | _, _, .scr s r, h => .scr s (belows_rp r h)
  | _, _, .ref (n := k) e, h => .ref (by
    have hk : k < n := of_decide_eq_true h
    show (g.m.take n)[k]? = _
    rw [List.getElem?_take_of_lt hk]
    exact e)
theorem belows_rp {K : PySem.W.Frag} {g : Gh} {n : Nat} : ∀ {d : List Dv} {v : List V}, Rps K g d v → belows n d = true → Rps K ⟨g.F, g.m.take n, g.pv⟩ d v
  | _, _, .nil, _ => .nil
  | _, _, .cons r t, h => by
    simp only [belows, Bool.and_eq_true] at h
    exact .cons (below_rp r h.1) (belows_rp t h.2)
end
theorem below_kv {κ : Type} {K : PySem.W.Frag} {g : Gh} {n : Nat} : ∀ {d : List (κ × Dv)} {v : List (κ × V)}, Rkv K g d v → (d.all fun p => below n p.2) = true → Rkv K ⟨g.F, g.m.take n, g.pv⟩ d v
  | [], [], _, _ => trivial
  | _ :: _, _ :: _, ⟨a, b, c⟩, h => by
    rw [List.all_cons, Bool.and_eq_true] at h
    exact ⟨a, below_rp b h.1, below_kv c h.2⟩
  | [], _ :: _, x, _ => x.elim
  | _ :: _, [], x, _ => x.elim
theorem gc_ok {B : Bs} {g0 g : Gh} {H : Hp} {S : Sto} {d : Dv} {v : V} (l : g0.le g) (ok : Ok B g H S) (r : Rp B.K g d v) : ∃ g', g0.le g' ∧ Ok B g' H (gcS g0.m.length d S) ∧ Rp B.K g' d v := by
  unfold gcS
  split
  · rename_i hc
    obtain ⟨h1, h2⟩ := hc
    refine ⟨⟨g.F, g.m.take g0.m.length, g.pv⟩, ⟨l.1, fun n a e => ?_, l.2.2⟩, ⟨ok.fz, ?_, fun n c a hs hm => ?_, fun n c a hs hm => ?_, fun i j a e1 e2 => ?_, fun q hq => ?_⟩, below_rp r h1⟩
    · have hn : n < g0.m.length := (List.getElem?_eq_some_iff.mp e).1
      show (g.m.take g0.m.length)[n]? = some a
      rw [List.getElem?_take_of_lt hn]
      exact l.2.1 n a e
    · show (g.m.take g0.m.length).length = _
      rw [List.length_take, List.length_take, ok.len]
    · have hm' : (g.m.take g0.m.length)[n]? = some a := hm
      have hn : n < g0.m.length := by
        have := (List.getElem?_eq_some_iff.mp hm').1
        rw [List.length_take] at this
        omega
      rw [List.getElem?_take_of_lt hn] at hm' hs
      have hb : belowC g0.m.length c = true := List.all_eq_true.mp h2 c (List.mem_of_getElem? (by rw [List.getElem?_take_of_lt hn]; exact hs))
      have q := ok.cel n c a hs hm'
      cases c with
      | lst ll => obtain ⟨ws, e, r⟩ := q; exact ⟨ws, e, belows_rp r hb⟩
      | dct ll => obtain ⟨ws, e, r⟩ := q; exact ⟨ws, e, below_kv r hb⟩
      | ins cc fs => obtain ⟨C, dx, ws, hmg, e, ed, ef, r⟩ := q; exact ⟨C, dx, ws, hmg, e, ed, ef, below_kv r hb⟩
      | dead => exact q
    · have hm' : (g.m.take g0.m.length)[n]? = some a := hm
      have hn : n < g0.m.length := by
        have := (List.getElem?_eq_some_iff.mp hm').1
        rw [List.length_take] at this
        omega
      rw [List.getElem?_take_of_lt hn] at hm' hs
      exact ok.nf n c a hs hm'
    · have low : ∀ (k : Nat) b, (g.m.take g0.m.length)[k]? = some b → g.m[k]? = some b := fun k b e => by
        have hn : k < g0.m.length := by
          have := (List.getElem?_eq_some_iff.mp e).1
          rw [List.length_take] at this
          omega
        rw [List.getElem?_take_of_lt hn] at e
        exact e
      exact ok.inj i j a (low i a e1) (low j a e2)
    · obtain ⟨e1, e2, e3⟩ := ok.pvt q hq
      refine ⟨e1, e2, fun n e => ?_⟩
      have e' : (g.m.take g0.m.length)[n]? = some q.1 := e
      have hn : n < g0.m.length := by
        have := (List.getElem?_eq_some_iff.mp e').1
        rw [List.length_take] at this
        omega
      rw [List.getElem?_take_of_lt hn] at e'
      exact e3 n e'
  · exact ⟨g, l, ok, r⟩
theorem frz_ok {B : Bs} {g0 g : Gh} {H : Hp} {S : Sto} {d : Dv} {v : V} {n : Nat} (l : g0.le g) (ok : Ok B g H S) (r : Rp B.K g d v) : ∃ g', g0.le g' ∧ Ok B g' H (frzD n d S).2 ∧ Rp B.K g' (frzD n d S).1 v := by
  cases d with
  | ref k =>
    unfold frzD
    dsimp only
    split
    · split
      · rename_i ll hl
        cases r with
        | ref hm =>
          obtain ⟨vs, h1, h2⟩ := ok.cel _ _ _ hl hm
          obtain ⟨hle, ok'⟩ := ok.freeze hl hm h1
          exact ⟨_, Gh.le_trans l hle, ok', .lst upd_same (h2.mono hle)⟩
      · exact ⟨g, l, ok, r⟩
    · exact ⟨g, l, ok, r⟩
  | _ => exact ⟨g, l, ok, r⟩
/-- what a def with the mirror c promises -/
def spOf (B : Bs) (n : Nat) (c : List Dv → M Dv) : Sp := fun vs H Q E => vs.length = n ∧ ∃ (g : Gh) (ds : List Dv) (S : Sto) (r : Rs Dv), Ok B g H S ∧ Rps B.K g ds vs ∧ c ds S = some r ∧ Post B g (fun g => Rp B.K g) Q E r
section
variable {P : Program} {w : World} {K : PySem.W.Frag} {mg : Str → Option Value} {base : Heap}
/-- a def of the text keeps the promise of its mirror -/
theorem fn_ok {x qual : Str} {st : Stmt} {f : Addr} {fd : FuncData} {N ps : List Str} {k : Nat} {frz : Bool} {body : SF} (F : Fun K x qual st f fd) (Sc : FnScope N ps (defScope st))
    (hb : ∀ (cdv : Value) (A : Around) (outer : List Env) (s : Shared) (H : Hp) (E : XK), Room k (A.deeper (envOfC qual (defScope st) s.heap.objs.size f cdv)) →
      Ct (cxOf (L2.CX P w) P w K mg base N qual (defScope st) f cdv A outer s H E) (fun c dd _ H => E c dd H) → PassesOwn (model P w) (A.deeper (envOfC qual (defScope st) s.heap.objs.size f cdv)) (envOfC qual (defScope st) s.heap.objs.size f cdv) (cxOf (L2.CX P w) P w K mg base N qual (defScope st) f cdv A outer s H E).xe →
      DSs (cxOf (L2.CX P w) P w K mg base N qual (defScope st) f cdv A outer s H E) (fun c dd _ H => E c dd H) (defBody st) body) :
    FnOk P w K mg base (L2.CX P w) (k + 1) f fd ps (spOf ⟨K, mg⟩ ps.length (defM frz N.length body)) := by
  refine F.okX Sc (fun vs H Q E h => h.1) fun cdv A outer s H vs Q E hr hsp => ?_
  obtain ⟨hl, g, ds, S, r, ok, rr, e, post⟩ := hsp
  have tk : Takes (cxOf (L2.CX P w) P w K mg base N qual (defScope st) f cdv A outer s H E) (fun c dd _ H => E c dd H) := takes_of rfl rfl rfl rfl
  have hu := hr.un
  obtain ⟨t, p, sn⟩ := hb cdv A outer s H E hr ⟨rfl, Sc.nd, by show (A.deeper _).units + 65 < cLine; omega, tk⟩ (passes_of rfl)
  refine ⟨t, p, ?_⟩
  have gl : g.m.length = S.length := ok.len
  unfold defM at e
  split at e
  · rename_i env' S' eb
    cases e
    refine sn g _ H _ S _ _ ok (en_start rr) eb fun g' σ' H' l ok' en' => ?_
    obtain ⟨g2, l2, ok2, r2⟩ := gc_ok (d := .non) (v := .non) l ok' .non
    rw [gl] at ok2
    exact post g2 _ H' l2 ok2 r2
  · rename_i d S' eb
    cases e
    refine sn g _ H _ S _ _ ok (en_start rr) eb fun g' v H' l ok' rv => ?_
    unfold leaveD at post
    cases frz with
    | true =>
      obtain ⟨g1, l1, ok1, r1⟩ := frz_ok (n := S.length) l ok' rv
      obtain ⟨g2, l2, ok2, r2⟩ := gc_ok l1 ok1 r1
      rw [gl] at ok2
      exact post g2 _ H' l2 ok2 r2
    | false =>
      obtain ⟨g2, l2, ok2, r2⟩ := gc_ok l ok' rv
      rw [gl] at ok2
      exact post g2 _ H' l2 ok2 r2
  · rename_i x' env' S' eb
    cases e
    exact sn g _ H _ S _ _ ok (en_start rr) eb fun g' c' dd σ' H' l ok' en' xr => post g' c' dd H' l ok' xr
  · cases e
/-- a def of the module, as its callers see it -/
structure FnE (P : Program) (w : World) (K : PySem.W.Frag) (mg : Str → Option Value) (base : Heap) (k : Nat) (x : Str) (n : Nat) (c : List Dv → M Dv) : Prop where
  ex : ∃ (f : Addr) (fd : FuncData) (ps : List Str), mg x = some (.ref f) ∧ PySem.W.keepIn K (.ref f) = true ∧ ps.length = n ∧ Binds K fd ps [] ∧ FnOk P w K mg base (L2.CX P w) k f fd ps (spOf ⟨K, mg⟩ n c)
end
section
variable {X : Cx} {W : WX}
/-- f(e, ..) -/
theorem de_call {k n : Nat} {x : Str} {c : List Dv → M Dv} {p pos : Pos} {e : Expr} {es : List Expr} {fs : Env' → M (List Dv)} (ct : Ct X W) (F : FnE X.prog X.w X.K X.mg X.base k x n c) (hr : Room k X.A) (ha : DA X W (e :: es) fs) (hn : (e :: es).length = n := by rfl) (hg : Gl X x := by rfl)
    (hdb : (x == ("__debug__" : Str)) = false := by decide) (he : starEach (e :: es) X.env = (false, eval e X.env) :: starEach es X.env := by rfl) (hpl : (backTo pos (starEach es X.env)).any (·.1) = false := by rfl) :
    DE X W (.Call (.Name x p) (e :: es) [] pos) (eArg fs c) := by
  obtain ⟨f, fd, ps, hm, hk, hps, hb, FO⟩ := F.ex
  obtain ⟨t, pa, s, hlen⟩ := ha
  refine ⟨_, pe_callS FO hr hg hm hk hb (fun σ => passAt ct.tk σ) pa hdb he hpl, fun g σ H env S r Q ok en e post => ?_⟩
  rcases bind_some (x := fs env) e with ⟨ds, S1, e1, e2⟩ | ⟨x', S', e1, rfl⟩
  · refine s g σ H env S _ _ ok en e1 fun g' vs H' l ok' rr => ?_
    exact ⟨by rw [← rr.length, hlen _ _ _ _ e1]; exact hn, g', ds, S1, r, ok', rr, e2, post.mono l⟩
  · exact s g σ H env S _ _ ok en e1 post
end
end ML

/-! ML 7: short words for printed derivations; written dicts; the module's names. -/
namespace ML
open PySem PySem.Spec PyProof.Rows L2
section
variable {X : Cx} {W : WX}
theorem dv (i : Nat) {x : Str} {pos : Pos} (hN : X.N[i]? = some x := by rfl) (hv : Vis X.env.scope x := by first | exact Or.inl rfl | exact Or.inr (Or.inl rfl) | exact Or.inr (Or.inr rfl)) (hd : (x == ("__debug__" : Str)) = false := by decide)
    (hcd : (x == ("__classdict__" : Str)) = false := by decide) : DE X W (.Name x pos) (getv i) := de_var hN hv hd hcd
/-- a constant of the module -/
def KC (K : PySem.W.Frag) (mg : Str → Option Value) (x : Str) (d : Dv) : Prop := ∃ v u, mg x = some u ∧ RelV v u ∧ ∀ g, Rp K g d v
theorem de_kc {x : Str} {d : Dv} {pos : Pos} (h : KC X.K X.mg x d) (hg : Gl X x := by rfl) (hd : (x == ("__debug__" : Str)) = false := by decide) : DE X W (.Name x pos) (eC d) := by
  obtain ⟨v, u, hm, r, hr⟩ := h
  exact de_const (pe_glob hg hm r hd) hr
theorem kc_int {K : PySem.W.Frag} {mg : Str → Option Value} {x : Str} {i : Int} {t : Tok} (h : mg x = some (.int i t)) : KC K mg x (.int i) := ⟨.int i, _, h, ⟨t, rfl⟩, fun _ => .int i⟩
theorem kc_str {K : PySem.W.Frag} {mg : Str → Option Value} {x z : Str} {t : Tok} (h : mg x = some (.str z t)) : KC K mg x (.str z) := ⟨.str z, _, h, ⟨t, rfl⟩, fun _ => .str z⟩
/-- a written tuple of flat things -/
def flatK : Value → Option (Dv × V)
  | .int i _ => some (.int i, .int i)
  | .str z _ => some (.str z, .str z)
  | .bool b => some (.bl b, .bl b)
  | .none => some (.non, .non)
  | _ => none
def flatsK : List Value → Option (List Dv × List V)
  | [] => some ([], [])
  | u :: us => match flatK u, flatsK us with
    | some p, some ps => some (p.1 :: ps.1, p.2 :: ps.2)
    | _, _ => none
theorem flatK_ok {K : PySem.W.Frag} {g : Gh} {u : Value} {d : Dv} {v : V} (h : flatK u = some (d, v)) : Rp K g d v ∧ RelV v u := by
  unfold flatK at h
  split at h <;> first | (cases h; exact ⟨.int _, ⟨_, rfl⟩⟩) | (cases h; exact ⟨.str _, ⟨_, rfl⟩⟩) | (cases h; exact ⟨.bl _, rfl⟩) | (cases h; exact ⟨.non, rfl⟩) | cases h
theorem flatsK_ok {K : PySem.W.Frag} {g : Gh} : ∀ {us : List Value} {ds : List Dv} {vs : List V}, flatsK us = some (ds, vs) → Rps K g ds vs ∧ Vals vs us
  | [], _, _, h => by cases h; exact ⟨.nil, .nil⟩
  | u :: us, ds, vs, h => by
    simp only [flatsK] at h
    cases e1 : flatK u with
    | none => rw [e1] at h; cases h
    | some p =>
      cases e2 : flatsK us with
      | none => rw [e1, e2] at h; cases h
      | some ps =>
        rw [e1, e2] at h
        cases h
        obtain ⟨a, b⟩ := flatK_ok (K := K) (g := g) (d := p.1) (v := p.2) e1
        obtain ⟨c, d⟩ := flatsK_ok (K := K) (g := g) (ds := ps.1) (vs := ps.2) e2
        exact ⟨.cons a c, .cons b d⟩
theorem kc_tup {K : PySem.W.Frag} {mg : Str → Option Value} {x : Str} {a : Addr} {od : Option Addr} {its : Array Value} {n : Nat} {sl : Array (Option Value)} {ds : List Dv} {vs : List V} (h : mg x = some (.ref a)) (l : K.lookup a = some ⟨.type "tuple", od, .seq its n, sl⟩)
    (hf : flatsK its.toList = some (ds, vs)) (hz : its.size ≤ sizeLine) : KC K mg x (.tup ds) :=
  ⟨.ref a, .ref a, h, rfl, fun g => .tup (.inr ⟨_, its, n, l, rfl, rfl, hz, (flatsK_ok (K := K) (g := g) hf).2⟩) (flatsK_ok hf).1⟩
/-- a built-in class as a value -/
theorem de_ty {x : Str} {T : String} {pos : Pos} (hm : X.mg x = none) (hv : bootBuiltins x = some (.type T)) (hg : Gl X x := by rfl) (hn : x ≠ "__name__" := by decide) (hd : (x == ("__debug__" : Str)) = false := by decide) : DE X W (.Name x pos) (eC (.ty T)) :=
  de_const (v := .ty T) (pe_bltn (v := .ty T) hg hm hv rfl hn hd) fun _ => .ty T
/-! ### times: ints, a text times an int -/
def mulOkB (x : Str) (n : Int) : Bool := decide (-(2 ^ 63) ≤ n) && decide (n < 10000) && decide (x.length ≤ 1000)
theorem mulOk_of {x : Str} {n : Int} (h : mulOkB x n = true) : PySem.MulOk x n := by
  unfold mulOkB at h
  simp only [Bool.and_eq_true, decide_eq_true_eq] at h
  obtain ⟨⟨h1, h2⟩, h3⟩ := h
  refine ⟨?_, fun hn _ => ?_, fun hn _ => ?_⟩
  · rw [decide_eq_false (by omega), decide_eq_false (by omega)]
    rfl
  · have h4 : (1000 : Int) ≤ (2 ^ 63 - 1) / n := by
      apply Int.le_ediv_of_mul_le (by omega)
      omega
    omega
  · unfold Builtin.Str.tooLong
    apply decide_eq_false
    have h5 : x.length * n.toNat ≤ 1000 * 10000 := Nat.mul_le_mul h3 (by omega)
    have h6 := sizeLine_eq
    omega
def mulS : Sto → Dv → Dv → Option Dv := fun _ a b => match a, b with
  | .str z, .int n => if mulOkB z n = true then some (.str (Txt.mul z n)) else none
  | _, _ => none
theorem od_mulS : OpD X (binaryOp .Mult) mulS := by
  refine ⟨fun x y H Q => ∃ z n, x = .str z ∧ y = .int n ∧ mulOkB z n = true ∧ Q (.str (Txt.mul z n)) H, ?_, fun g H S a b x y d Q ok ra rb e q => ?_⟩
  · intro pins s σ H x y v u Q I rx ry h
    obtain ⟨z, n, rfl, rfl, hc, q⟩ := h
    obtain ⟨t, rfl⟩ := rx
    obtain ⟨t', rfl⟩ := ry
    exact PySem.SB.mul (mulOk_of hc) fun t2 k => ⟨.str _, H, I.tok k, ⟨t2, rfl⟩, q⟩
  · unfold mulS at e
    split at e
    · split at e
      · rename_i hc
        cases e
        cases ra
        cases rb
        exact ⟨_, _, rfl, rfl, hc, q g _ H (Gh.le_refl g) ok (.str _)⟩
      · cases e
    · cases e
def mulD : Sto → Dv → Dv → Option Dv := fun S a b => match mulI S a b with
  | some d => some d
  | none => mulS S a b
theorem od_mul : OpD X (binaryOp .Mult) mulD := OpD.or od_mulI od_mulS
/-! ### chains -/
theorem de_chain2 {op op' : CmpOp} {a b c : Expr} {fa fb fc : Env' → M Dv} {o o' : Sto → Dv → Dv → Option Dv} {pos : Pos} (ho : OpD X (compareOp op) o) (ho' : OpD X (compareOp op') o')
    (ha : DE X W a fa) (hb : DE X W b fb) (hc : DE X W c fc) (hm : lastMarks [op, op'] [b, c] = false := by with_unfolding_all rfl) : DE X W (.Compare a [op, op'] [b, c] pos) (chainF o o' fa fb fc) :=
  de_chain ho ho' ha hb hc fun h1 h2 h3 h4 h5 => L2.pe_chain h1 h2 h3 h4 h5 hm
theorem dt_chain2 {op op' : CmpOp} {a b c : Expr} {fa fb fc : Env' → M Dv} {o o' : Sto → Dv → Dv → Option Dv} {pos : Pos} (ho : OpD X (compareOp op) o) (ho' : OpD X (compareOp op') o')
    (ha : DE X W a fa) (hb : DE X W b fb) (hc : DE X W c fc) (hm : lastMarks [op, op'] [b, c] = false := by with_unfolding_all rfl) : DT X W (.Compare a [op, op'] [b, c] pos) (tB (chainF o o' fa fb fc)) := by
  have key : ∃ t : TE, PT X (.Compare a [op, op'] [b, c] pos) (tTest t) ∧ Sn X.bs W (Rv X) t (chainF o o' fa fb fc) := by
    obtain ⟨r, h1, h2⟩ := ho
    obtain ⟨r', h1', h2'⟩ := ho'
    obtain ⟨ta, pa, sa⟩ := ha
    obtain ⟨tb, pb, sb⟩ := hb
    obtain ⟨tc, pc, sc⟩ := hc
    refine ⟨tChain r r' ta tb tc, L2.pt_chain h1 h1' pa pb pc hm, ?_⟩
    exact chain_sn (op := op) (op' := op') h2 h2' sa sb sc
  obtain ⟨t, p, s⟩ := key
  exact ⟨_, p, sn_test s⟩
/-! ### a written dict of the module with text keys -/
def KVals : List DictEntry → List (Str × Dv) → Prop
  | [], [] => True
  | e :: r, p :: ps => (∃ t, e.key = .str p.1 t) ∧ (∃ v, flatK e.val = some (p.2, v)) ∧ KVals r ps
  | _, _ => False
def KTab (K : PySem.W.Frag) (mg : Str → Option Value) (w : World) (x : Str) (kvs : List (Str × Dv)) : Prop :=
  ∃ (d : Addr) (es : Array DictEntry) (n : Nat), mg x = some (.ref d) ∧ KDict K w d es n ∧ KVals es.toList kvs
theorem kvals_find {z : Str} : ∀ {es : List DictEntry} {kvs : List (Str × Dv)}, KVals es kvs → (match es.find? (·.key.isStr z) with
      | some e => ∃ d v, kvs.lookup z = some d ∧ flatK e.val = some (d, v)
      | none => kvs.lookup z = none) ∧ es.any (·.refKey) = false
  | [], [], _ => ⟨rfl, rfl⟩
  | e :: r, p :: ps, h => by
    obtain ⟨⟨t, hk⟩, ⟨v, hv⟩, h3⟩ := h
    obtain ⟨ih1, ih2⟩ := kvals_find (z := z) h3
    have ek : e.key.isStr z = (p.1 == z) := by
      rw [hk]
      show (p.1 == z) = _
      rfl
    constructor
    · rw [List.find?_cons, ek]
      by_cases hz : p.1 = z
      · subst hz
        rw [beq_self_eq_true]
        exact ⟨p.2, v, by simp [List.lookup], hv⟩
      · have e2 : (p.1 == z) = false := beq_eq_false_iff_ne.mpr hz
        have e3 : (z == p.1) = false := beq_eq_false_iff_ne.mpr (Ne.symm hz)
        rw [e2]
        have e4 : (p :: ps).lookup z = ps.lookup z := by
          obtain ⟨p1, p2⟩ := p
          simp only [List.lookup]
          simp only at e3
          rw [e3]
        rw [e4]
        exact ih1
    · rw [List.any_cons, ih2]
      have : e.refKey = false := by
        unfold DictEntry.refKey
        rw [hk]
      rw [this]
      rfl
  | [], _ :: _, h => h.elim
  | _ :: _, [], h => h.elim
theorem ktab_in {K : PySem.W.Frag} {w : World} {d : Addr} {es : Array DictEntry} {n : Nat} {kvs : List (Str × Dv)} (D : KDict K w d es n) (h : KVals es.toList kvs) (z : Str) :
    ∃ r, PySem.W.nsIn K d z = some r ∧ r.isSome = (kvs.lookup z).isSome ∧ ∀ dv, kvs.lookup z = some dv → ∃ u v, r = some u ∧ flatK u = some (dv, v) := by
  obtain ⟨h1, h2⟩ := kvals_find (z := z) h
  unfold PySem.W.nsIn
  rw [D.at_]
  dsimp only
  cases hf : es.toList.find? (·.key.isStr z) with
  | some e =>
    rw [hf] at h1
    obtain ⟨dd, v, e1, e2⟩ := h1
    exact ⟨some e.val, rfl, by rw [e1]; rfl, fun dv he => ⟨e.val, v, rfl, by rw [e1] at he; cases he; exact e2⟩⟩
  | none =>
    rw [hf] at h1
    dsimp only at h1 ⊢
    rw [h2]
    exact ⟨none, rfl, by rw [h1]; rfl, fun dv he => by rw [h1] at he; cases he⟩
def inKM (kvs : List (Str × Dv)) (neg : Bool) : Dv → M Dv
  | .str z => pure (.bl (if neg then !(kvs.lookup z).isSome else (kvs.lookup z).isSome))
  | _ => stuck
theorem sn_unop {α β : Type} {R : Gh → α → β → Prop} {t : TE} {f : Env' → M Dv} {o : Dv → M α} {k : V → Hp → (β → Hp → Prop) → Prop} (h : Sn X.bs W (Rv X) t f)
    (h2 : ∀ (g : Gh) (σ : L2.St) (H : Hp) (S : Sto) (a : Dv) (v : V) (r : Rs α) (Q : β → Hp → Prop), Ok X.bs g H S → Rp X.K g a v → o a S = some r → Post X.bs g R Q (fun c dd H => W c dd σ H) r → k v H Q) :
    Sn X.bs W R (fun σ H Q => t σ H fun v H1 => k v H1 Q) (fun env => do let x ← f env; o x) :=
  Sn.bind (t2 := fun v _ H1 Q => k v H1 Q) (f2 := fun x _ => o x) h fun g σ H env S a b r Q ok en rr e post => h2 g σ H S a b r Q ok rr e post
theorem de_inK {x : Str} {a : Expr} {fa : Env' → M Dv} {kvs : List (Str × Dv)} {p pos : Pos} (h : KTab X.K X.mg X.w x kvs) (ha : DE X W a fa) (hg : Gl X x := by rfl) (hd : (x == ("__debug__" : Str)) = false := by decide) (hm : behindInMarks .In (.Name x p) = false := by rfl) :
    DE X W (.Compare a [.In] [.Name x p] pos) (eBnd fa (inKM kvs false)) := by
  obtain ⟨d, es, n, hmg, D, hv⟩ := h
  obtain ⟨t, pa, s⟩ := ha
  refine ⟨_, pe_cmpR (op_in_kd D) pa (pe_glob (v := .ref d) hg hmg rfl hd) hm, sn_unop (k := fun x H1 Q => ∃ (z : Str) (r : Option Value), x = .str z ∧ V.ref d = .ref d ∧ PySem.W.nsIn X.K d z = some r ∧ Q (V.bl r.isSome) H1) s fun g σ H S a v r Q ok ra e post => ?_⟩
  cases a with
  | str z =>
    cases ra
    have er := pure_some e
    subst er
    obtain ⟨rr, e1, e2, _⟩ := ktab_in D hv z
    refine ⟨z, rr, rfl, rfl, e1, ?_⟩
    rw [e2]
    exact post g _ H (Gh.le_refl g) ok (.bl _)
  | _ => cases e
theorem dt_inK {x : Str} {a : Expr} {fa : Env' → M Dv} {kvs : List (Str × Dv)} {p pos : Pos} (h : KTab X.K X.mg X.w x kvs) (ha : DE X W a fa) (hg : Gl X x := by rfl) (hd : (x == ("__debug__" : Str)) = false := by decide) (hm : behindInMarks .In (.Name x p) = false := by rfl) :
    DT X W (.Compare a [.In] [.Name x p] pos) (tB (eBnd fa (inKM kvs false))) := by
  obtain ⟨d, es, n, hmg, D, hv⟩ := h
  obtain ⟨t, pa, s⟩ := ha
  refine ⟨_, pt_cmpR (op_in_kd D) pa (pe_glob (v := .ref d) hg hmg rfl hd) hm, sn_test (sn_unop (k := fun x H1 Q => ∃ (z : Str) (r : Option Value), x = .str z ∧ V.ref d = .ref d ∧ PySem.W.nsIn X.K d z = some r ∧ Q (V.bl r.isSome) H1) s fun g σ H S a v r Q ok ra e post => ?_)⟩
  cases a with
  | str z =>
    cases ra
    have er := pure_some e
    subst er
    obtain ⟨rr, e1, e2, _⟩ := ktab_in D hv z
    refine ⟨z, rr, rfl, rfl, e1, ?_⟩
    rw [e2]
    exact post g _ H (Gh.le_refl g) ok (.bl _)
  | _ => cases e
def getKM (kvs : List (Str × Dv)) : Dv → M Dv
  | .str z => match kvs.lookup z with
    | some d => pure d
    | none => stuck
  | _ => stuck
theorem de_ixK {x : Str} {b : Expr} {fb : Env' → M Dv} {kvs : List (Str × Dv)} {p pos : Pos} (h : KTab X.K X.mg X.w x kvs) (hb : DE X W b fb) (hg : Gl X x := by rfl) (hd : (x == ("__debug__" : Str)) = false := by decide) (hs : PlainIx b := by exact fun _ _ => rfl) :
    DE X W (.Subscript (.Name x p) b pos) (eBnd fb (getKM kvs)) := by
  obtain ⟨d, es, n, hmg, D, hv⟩ := h
  obtain ⟨t, pb, s⟩ := hb
  refine ⟨_, pe_ix ix_kdict (pe_glob (v := .ref d) hg hmg rfl hd) pb hs, sn_unop (k := fun y H1 Q => rIxD X.K X.w (V.ref d) y H1 Q) s fun g σ H S a v r Q ok ra e post => ?_⟩
  cases a with
  | str z =>
    cases ra
    simp only [getKM] at e
    obtain ⟨rr, e1, e2, e3⟩ := ktab_in D hv z
    cases hl : kvs.lookup z with
    | none => rw [hl] at e; cases e
    | some dd =>
      rw [hl] at e
      have er := pure_some e
      subst er
      obtain ⟨u, vv, rfl, hf⟩ := e3 dd hl
      obtain ⟨k1, k2⟩ := flatK_ok (K := X.K) (g := g) hf
      exact ⟨d, z, vv, rfl, rfl, ⟨es, n, u, D.at_, D.lit, e1, k2⟩, post g vv H (Gh.le_refl g) ok k1⟩
  | _ => cases e
end
section
variable {P : Program} {w : World} {K : PySem.W.Frag} {mg : Str → Option Value} {base : Heap}
/-- a def whose mirror is stuck: nothing is promised -/
theorem fn_stuck {f : Addr} {fd : FuncData} {ps : List Str} {k : Nat} : FnOk P w K mg base (L2.CX P w) k f fd ps (spOf ⟨K, mg⟩ ps.length fun _ => stuck) :=
  ⟨fun vs H Q E h => h.1, fun A outer s H args us vs Q E hr he hb hv hs => by
    obtain ⟨_, g, ds, S, r, _, _, e, _⟩ := hs
    cases e⟩
end
/-- what walk_of promises for the law's def, as a mirror's promise -/
theorem law_sp {B : Bs} {c : List Dv → M Dv} (hlaw : ∀ (ns : List Int), ns.length ≤ 63 → ∃ S', c [.scr (ns.map Dv.int)] [] = some (.ok (.bl true) S')) (vs : List V) (H : Hp) (Q : VK) (E : XK)
    (h : vs.length = 1 ∧ ∃ (a : Addr) (ns : List Int), vs = [.ref a] ∧ ns.length ≤ 63 ∧ SqL B.K H a (ns.map V.int) ∧ (∀ H', Q (.bl true) H')) : spOf B 1 c vs H Q E := by
  obtain ⟨h1, a, ns, rfl, hl, hq, hQ⟩ := h
  obtain ⟨S', e⟩ := hlaw ns hl
  have ok : Ok B ⟨H, [], []⟩ H [] := {
    fz := fun _ _ e => e
    len := rfl
    cel := fun n c a e => by simp at e
    nf := fun n c a e => by simp at e
    inj := fun i j a e => by simp at e
    pvt := fun p hp => by simp at hp }
  refine ⟨h1, ⟨H, [], []⟩, [.scr (ns.map Dv.int)], [], _, ok, .cons (.scr hq (Rps.ints ns)) .nil, e, fun g' v H' _ _ rv => ?_⟩
  cases rv
  exact hQ H'
end ML

namespace ML
open PySem PySem.Spec PyProof.Rows L2

/-! ### reading the mirrors -/
def Wm {α : Type} (m : M α) (S : Sto) (P : Rs α → Prop) : Prop := ∃ r, m S = some r ∧ P r
def wopt {α : Type} (o : Option α) (P : α → Prop) : Prop := ∃ a, o = some a ∧ P a
def bk {α β : Type} (f : α → M β) (P : Rs β → Prop) : Rs α → Prop
  | .ok a S => Wm (f a) S P
  | .er x S => P (.er x S)
def xk {α : Type} (env : Env') (P : So → Prop) (k : α → Sto → Prop) : Rs α → Prop
  | .ok a S => k a S
  | .er x S => P (.er x env S)
def Ws (f : SF) (env : Env') (S : Sto) (P : So → Prop) : Prop := ∃ o, f env S = some o ∧ P o
def sk (h : SF) (P : So → Prop) : So → Prop
  | .nx env S => Ws h env S P
  | o => P o
@[simp] theorem bk_ok {α β : Type} {f : α → M β} {P : Rs β → Prop} {a : α} {S : Sto} : bk f P (.ok a S) = Wm (f a) S P := rfl
@[simp] theorem bk_er {α β : Type} {f : α → M β} {P : Rs β → Prop} {a : Exn} {S : Sto} : bk f P (.er a S) = P (.er a S) := rfl
@[simp] theorem xk_ok {α : Type} {env : Env'} {P : So → Prop} {k : α → Sto → Prop} {a : α} {S : Sto} : xk env P k (.ok a S) = k a S := rfl
@[simp] theorem xk_er {α : Type} {env : Env'} {P : So → Prop} {k : α → Sto → Prop} {a : Exn} {S : Sto} : xk env P k (.er a S) = P (.er a env S) := rfl
@[simp] theorem sk_nx {h : SF} {P : So → Prop} {env : Env'} {S : Sto} : sk h P (.nx env S) = Ws h env S P := rfl
@[simp] theorem sk_rt {h : SF} {P : So → Prop} {d : Dv} {S : Sto} : sk h P (.rt d S) = P (.rt d S) := rfl
@[simp] theorem sk_bk {h : SF} {P : So → Prop} {env : Env'} {S : Sto} : sk h P (.bk env S) = P (.bk env S) := rfl
@[simp] theorem sk_ct {h : SF} {P : So → Prop} {env : Env'} {S : Sto} : sk h P (.ct env S) = P (.ct env S) := rfl
@[simp] theorem sk_er {h : SF} {P : So → Prop} {env : Env'} {S : Sto} {x : Exn} : sk h P (.er x env S) = P (.er x env S) := rfl
@[simp] theorem wopt_some {α : Type} {a : α} {P : α → Prop} : wopt (some a) P ↔ P a := ⟨fun ⟨_, e, h⟩ => by cases e; exact h, fun h => ⟨a, rfl, h⟩⟩
@[simp] theorem wopt_none {α : Type} {P : α → Prop} : wopt (none : Option α) P ↔ False := ⟨fun ⟨_, e, _⟩ => (by cases e), False.elim⟩
@[simp] theorem wopt_ite {α : Type} {c : Prop} {_ : Decidable c} {o : Option α} {P : α → Prop} : wopt (if c then o else none) P ↔ c ∧ wopt o P := by
  by_cases h : c
  · simp [h]
  · simp [h]
/-- o, if c holds -/
noncomputable def gd {α : Type} (c : Prop) (o : Option α) : Option α := @ite _ c (Classical.propDecidable c) o none
theorem gd_if {α : Type} {c : Prop} [Decidable c] {o o' : Option α} (h : o' = if c then o else none) : o' = gd c o := by
  rw [h]
  unfold gd
  by_cases hc : c <;> simp [hc]
@[simp] theorem wopt_gd {α : Type} {c : Prop} {o : Option α} {P : α → Prop} : wopt (gd c o) P ↔ c ∧ wopt o P := by
  unfold gd
  by_cases h : c <;> simp [h]
@[simp] theorem wopt_map {α β : Type} {o : Option α} {f : α → β} {P : β → Prop} : wopt (o.map f) P ↔ wopt o fun a => P (f a) := by
  cases o <;> simp
@[simp] theorem wopt_bind {α β : Type} {o : Option α} {f : α → Option β} {P : β → Prop} : wopt (o.bind f) P ↔ wopt o fun a => wopt (f a) P := by
  cases o <;> simp
@[simp] theorem wm_pure {α : Type} {a : α} {S : Sto} {P : Rs α → Prop} : Wm (pure a) S P ↔ P (.ok a S) := ⟨fun ⟨_, e, h⟩ => by cases e; exact h, fun h => ⟨_, rfl, h⟩⟩
@[simp] theorem wm_mpure {α : Type} {a : α} {S : Sto} {P : Rs α → Prop} : Wm (M.pure a) S P ↔ P (.ok a S) := wm_pure
@[simp] theorem wm_bind {α β : Type} {x : M α} {f : α → M β} {S : Sto} {P : Rs β → Prop} : Wm (x >>= f) S P ↔ Wm x S (bk f P) := by
  unfold Wm
  have hb : (x >>= f) S = M.bind x f S := rfl
  rw [hb]
  unfold M.bind
  cases x S with
  | none => simp
  | some r => cases r with
    | ok a S' => simp [Wm]
    | er e S' => simp
@[simp] theorem wm_stuck {α : Type} {S : Sto} {P : Rs α → Prop} : Wm (stuck : M α) S P ↔ False := ⟨fun ⟨_, e, _⟩ => (by cases e), False.elim⟩
@[simp] theorem wm_lift0 {α : Type} {o : Sto → Option α} {S : Sto} {P : Rs α → Prop} : Wm (lift0 o) S P ↔ wopt (o S) fun a => P (.ok a S) := by
  unfold Wm lift0
  cases o S <;> simp
@[simp] theorem wm_op2 {o : Sto → Dv → Dv → Option Dv} {a b : Dv} {S : Sto} {P : Rs Dv → Prop} : Wm (op2 o a b) S P ↔ wopt (o S a b) fun a => P (.ok a S) := wm_lift0
@[simp] theorem wm_opA {o : Sto → List Dv → Option Dv} {ds : List Dv} {S : Sto} {P : Rs Dv → Prop} : Wm (opA o ds) S P ↔ wopt (o S ds) fun a => P (.ok a S) := wm_lift0
@[simp] theorem wm_opM {o : Sto → Dv → List Dv → Option Dv} {a : Dv} {ds : List Dv} {S : Sto} {P : Rs Dv → Prop} : Wm (opM o a ds) S P ↔ wopt (o S a ds) fun a => P (.ok a S) := wm_lift0
@[simp] theorem wm_truM {a : Dv} {S : Sto} {P : Rs Bool → Prop} : Wm (truM a) S P ↔ wopt (truD S a) fun a => P (.ok a S) := wm_lift0
@[simp] theorem wm_ite {α : Type} {c : Prop} {_ : Decidable c} {a b : M α} {S : Sto} {P : Rs α → Prop} : Wm (if c then a else b) S P ↔ if c then Wm a S P else Wm b S P := by
  by_cases h : c <;> simp [h]
@[simp] theorem wm_getv {i : Nat} {env : Env'} {S : Sto} {P : Rs Dv → Prop} : Wm (getv i env) S P ↔ wopt env[i]? fun o => wopt o fun d => P (.ok d S) := by
  unfold getv
  cases env[i]? with
  | none => simp
  | some o => cases o <;> simp
@[simp] theorem wm_eC {d : Dv} {env : Env'} {S : Sto} {P : Rs Dv → Prop} : Wm (eC d env) S P ↔ P (.ok d S) := wm_pure
theorem wm_eq {α : Type} {m : M α} {S : Sto} {r : Rs α} {P : Rs α → Prop} (h : m S = some r) : Wm m S P ↔ P r := by
  unfold Wm
  rw [h]
  simp
theorem wm_run {α : Type} {m : M α} {S : Sto} {r : Rs α} (h : Wm m S fun q => q = r) : m S = some r := by
  obtain ⟨q, e, rfl⟩ := h
  exact e
theorem Wm.imp {α : Type} {m : M α} {S : Sto} {P Q : Rs α → Prop} (h : Wm m S P) (k : ∀ r, P r → Q r) : Wm m S Q := let ⟨r, e, p⟩ := h; ⟨r, e, k r p⟩
theorem Ws.imp {f : SF} {env : Env'} {S : Sto} {P Q : So → Prop} (h : Ws f env S P) (k : ∀ r, P r → Q r) : Ws f env S Q := let ⟨r, e, p⟩ := h; ⟨r, e, k r p⟩
@[simp] theorem wm_chkT {T : String} {d : Dv} {S : Sto} {P : Rs Unit → Prop} : Wm (chkT T d) S P ↔ tyD S d T = true ∧ P (.ok () S) := by
  unfold Wm chkT
  by_cases h : tyD S d T = true <;> simp [h]
@[simp] theorem wm_mkT {ds : List Dv} {S : Sto} {P : Rs Dv → Prop} : Wm (mkT ds) S P ↔ ds.length ≤ sizeLine ∧ P (.ok (.tup ds) S) := by
  unfold Wm mkT
  by_cases h : ds.length ≤ sizeLine <;> simp [h]
@[simp] theorem wm_mkL {ds : List Dv} {S : Sto} {P : Rs Dv → Prop} : Wm (mkL ds) S P ↔ ds.length ≤ sizeLine ∧ P (.ok (.lst ds) S) := by
  unfold Wm mkL
  by_cases h : ds.length ≤ sizeLine <;> simp [h]
@[simp] theorem wm_mkC {ds : List Dv} {S : Sto} {P : Rs Dv → Prop} : Wm (mkC ds) S P ↔ ds.length ≤ sizeLine ∧ P (.ok (.ref S.length) (S ++ [.lst ds])) := by
  unfold Wm mkC
  by_cases h : ds.length ≤ sizeLine <;> simp [h]
@[simp] theorem wm_append {a d : Dv} {S : Sto} {P : Rs Dv → Prop} : Wm (appendM a [d]) S P ↔ wopt (cellL S a) fun p => p.2.length < sizeLine ∧ P (.ok .non (S.set p.1 (.lst (p.2 ++ [d])))) := by
  unfold Wm appendM
  cases cellL S a with
  | none => simp
  | some p => by_cases h : p.2.length < sizeLine <;> simp [h]
@[simp] theorem wm_rng1 {j : Int} {S : Sto} {P : Rs Sr → Prop} : Wm (rng1M [.int j]) S P ↔ (-(2 ^ 62) ≤ j ∧ j < 2 ^ 62) ∧ P (.ok (fun _ => some ((List.range j.toNat).map fun i : Nat => .int (0 + i))) S) := by
  unfold rng1M
  by_cases h : -(2 ^ 62) ≤ j ∧ j < 2 ^ 62 <;> simp [h]
@[simp] theorem wm_rng2 {i j : Int} {S : Sto} {P : Rs Sr → Prop} : Wm (rng2M [.int i, .int j]) S P ↔ (-(2 ^ 62) ≤ i ∧ i < 2 ^ 62 ∧ -(2 ^ 62) ≤ j ∧ j < 2 ^ 62) ∧ P (.ok (fun _ => some ((List.range (j - i).toNat).map fun k : Nat => .int (i + k))) S) := by
  unfold rng2M
  by_cases h : -(2 ^ 62) ≤ i ∧ i < 2 ^ 62 ∧ -(2 ^ 62) ≤ j ∧ j < 2 ^ 62 <;> simp [h]
@[simp] theorem wm_asB {b : Bool} {S : Sto} {P : Rs Bool → Prop} : Wm (asB (.bl b)) S P ↔ P (.ok b S) := by
  unfold asB; exact wm_pure
@[simp] theorem wm_asI {b : Int} {S : Sto} {P : Rs Int → Prop} : Wm (asI (.int b)) S P ↔ P (.ok b S) := by
  unfold asI; exact wm_pure
@[simp] theorem wm_slL {l : List Dv} {lo hi : Option Int} {S : Sto} {P : Rs Dv → Prop} : Wm (slD (.lst l) lo hi) S P ↔ P (.ok (.lst (cutG l lo hi)) S) := by
  unfold slD Wm; simp [listOf, ownOf]
@[simp] theorem wm_slScr {l : List Dv} {lo hi : Option Int} {S : Sto} {P : Rs Dv → Prop} : Wm (slD (.scr l) lo hi) S P ↔ P (.ok (.lst (cutG l lo hi)) S) := by
  unfold slD Wm; simp [listOf, ownOf]
@[simp] theorem wm_slRef {n : Nat} {lo hi : Option Int} {S : Sto} {P : Rs Dv → Prop} : Wm (slD (.ref n) lo hi) S P ↔ wopt (listOf S (.ref n)) fun l => P (.ok (.lst (cutG l lo hi)) S) := by
  unfold slD Wm; dsimp only; cases listOf S (.ref n) <;> simp
@[simp] theorem wm_slT {l : List Dv} {lo hi : Option Int} {S : Sto} {P : Rs Dv → Prop} : Wm (slD (.tup l) lo hi) S P ↔ P (.ok (.tup (cutG l lo hi)) S) := by
  unfold slD; simp
@[simp] theorem wm_slS {z : Str} {lo hi : Option Int} {S : Sto} {P : Rs Dv → Prop} : Wm (slD (.str z) lo hi) S P ↔ z.length ≤ sizeLine ∧ P (.ok (.str (cutS z lo hi)) S) := by
  unfold slD; by_cases h : z.length ≤ sizeLine <;> simp [h]
@[simp] theorem wm_slC {d : Dv} {lo hi : Option Int} {S : Sto} {P : Rs Dv → Prop} : Wm (slC d lo hi) S P ↔ wopt (listOf S d) fun l => P (.ok (.ref S.length) (S ++ [.lst (cutG l lo hi)])) := by
  unfold slC Wm; dsimp only; cases listOf S d <;> simp
@[simp] theorem wm_srcL {l : List Dv} {S : Sto} {P : Rs Sr → Prop} : Wm (srcOf (.lst l)) S P ↔ P (.ok (fun _ => some l) S) := by unfold srcOf; simp
@[simp] theorem wm_srcScr {l : List Dv} {S : Sto} {P : Rs Sr → Prop} : Wm (srcOf (.scr l)) S P ↔ P (.ok (fun _ => some l) S) := by unfold srcOf; simp
@[simp] theorem wm_srcT {l : List Dv} {S : Sto} {P : Rs Sr → Prop} : Wm (srcOf (.tup l)) S P ↔ P (.ok (fun _ => some l) S) := by unfold srcOf; simp
@[simp] theorem wm_srcS {z : Str} {S : Sto} {P : Rs Sr → Prop} : Wm (srcOf (.str z)) S P ↔ P (.ok (fun _ => some (z.cps.toList.map fun c => .str ⟨#[c]⟩)) S) := by unfold srcOf; simp
theorem wm_srcRef {n : Nat} {l : List Dv} {S : Sto} {P : Rs Sr → Prop} (h : S[n]? = some (.lst l)) : Wm (srcOf (.ref n)) S P ↔ P (.ok (fun S => listOf S (.ref n)) S) := by
  unfold srcOf Wm
  simp [h]

/-! statements -/
@[simp] theorem ws_nil {env : Env'} {S : Sto} {P : So → Prop} : Ws sNil env S P ↔ P (.nx env S) := by unfold Ws sNil; simp
@[simp] theorem ws_seq {f h : SF} {env : Env'} {S : Sto} {P : So → Prop} : Ws (sSeq f h) env S P ↔ Ws f env S (sk h P) := by
  unfold Ws sSeq
  cases f env S with
  | none => simp
  | some o => cases o <;> simp [sk, Ws]
theorem exS_iff {α : Type} {env : Env'} {S : Sto} {m : M α} {k : α → Sto → Option So} {P : So → Prop} : (∃ o, exS env (m S) k = some o ∧ P o) ↔ Wm m S (xk env P fun a S' => ∃ o, k a S' = some o ∧ P o) := by
  unfold Wm exS
  cases m S with
  | none => simp
  | some r => cases r <;> simp
@[simp] theorem ws_set {i : Nat} {f : Env' → M Dv} {env : Env'} {S : Sto} {P : So → Prop} : Ws (sSet i f) env S P ↔ Wm (f env) S (xk env P fun d S' => P (.nx (env.set i (some d)) S')) := by
  refine (exS_iff (m := f env)).trans ?_
  simp
@[simp] theorem ws_exp {f : Env' → M Dv} {env : Env'} {S : Sto} {P : So → Prop} : Ws (sExp f) env S P ↔ Wm (f env) S (xk env P fun _ S' => P (.nx env S')) := by
  refine (exS_iff (m := f env)).trans ?_
  simp
@[simp] theorem ws_ret {f : Env' → M Dv} {env : Env'} {S : Sto} {P : So → Prop} : Ws (sRet f) env S P ↔ Wm (f env) S (xk env P fun d S' => P (.rt d S')) := by
  refine (exS_iff (m := f env)).trans ?_
  simp
@[simp] theorem ws_retN {env : Env'} {S : Sto} {P : So → Prop} : Ws sRetN env S P ↔ P (.rt .non S) := by unfold Ws sRetN; simp
@[simp] theorem ws_brk {env : Env'} {S : Sto} {P : So → Prop} : Ws sBrk env S P ↔ P (.bk env S) := by unfold Ws sBrk; simp
@[simp] theorem ws_cnt {env : Env'} {S : Sto} {P : So → Prop} : Ws sCnt env S P ↔ P (.ct env S) := by unfold Ws sCnt; simp
@[simp] theorem ws_if {f : Env' → M Bool} {a b : SF} {env : Env'} {S : Sto} {P : So → Prop} : Ws (sIf f a b) env S P ↔ Wm (f env) S (xk env P fun k S' => if k = true then Ws a env S' P else Ws b env S' P) := by
  refine (exS_iff (m := f env)).trans ?_
  have e : (fun (k : Bool) S' => ∃ o, (if k = true then a env S' else b env S') = some o ∧ P o) = fun k S' => if k = true then Ws a env S' P else Ws b env S' P := by
    funext k S'
    cases k <;> simp [Ws]
  rw [e]
theorem xk_congr {α : Type} {m : M α} {S : Sto} {env : Env'} {P : So → Prop} {k k' : α → Sto → Prop} (h : ∀ a S', k a S' ↔ k' a S') : Wm m S (xk env P k) ↔ Wm m S (xk env P k') := by
  have e : k = k' := by
    funext a S'
    exact propext (h a S')
  rw [e]
def okK {α : Type} (Q : α → Sto → Prop) : Rs α → Prop
  | .ok e s => Q e s
  | .er _ _ => False
@[simp] theorem okK_ok {α : Type} {Q : α → Sto → Prop} {e : α} {s : Sto} : okK Q (.ok e s) = Q e s := rfl
@[simp] theorem ws_asg {gf : Dv → Env' → M Env'} {f : Env' → M Dv} {env : Env'} {S : Sto} {P : So → Prop} : Ws (sAsg gf f) env S P ↔ Wm (f env) S (xk env P fun d S' => Wm (gf d env) S' (okK fun e S2 => P (.nx e S2))) := by
  refine (exS_iff (m := f env)).trans (xk_congr fun d S' => ?_)
  unfold Wm
  cases gf d env S' with
  | none => simp
  | some r => cases r with
    | ok e s => simp
    | er x s => simp [okK]
theorem ws_for {fi : Env' → M Sr} {gf : Dv → Env' → M Env'} {body : SF} {env : Env'} {S : Sto} {P : So → Prop} : Ws (sFor fi gf body) env S P ↔ Wm (fi env) S (xk env P fun src S' => wopt (src S') fun l => Ws (forL src l gf body l) env S' P) := by
  refine (exS_iff (m := fi env)).trans (xk_congr fun src S' => ?_)
  cases src S' with
  | none => simp
  | some l => simp [Ws]
/-- one turn of a loop ends so -/
def turn (I : Env' → Sto → Prop) (R : So → Prop) : So → Prop
  | .nx e s => I e s
  | .ct e s => I e s
  | .bk e s => R (.nx e s)
  | o => R o
@[simp] theorem turn_nx {I : Env' → Sto → Prop} {R : So → Prop} {e : Env'} {s : Sto} : turn I R (.nx e s) = I e s := rfl
@[simp] theorem turn_ct {I : Env' → Sto → Prop} {R : So → Prop} {e : Env'} {s : Sto} : turn I R (.ct e s) = I e s := rfl
@[simp] theorem turn_bk {I : Env' → Sto → Prop} {R : So → Prop} {e : Env'} {s : Sto} : turn I R (.bk e s) = R (.nx e s) := rfl
@[simp] theorem turn_rt {I : Env' → Sto → Prop} {R : So → Prop} {e : Dv} {s : Sto} : turn I R (.rt e s) = R (.rt e s) := rfl
@[simp] theorem turn_er {I : Env' → Sto → Prop} {R : So → Prop} {e : Env'} {s : Sto} {x : Exn} : turn I R (.er x e s) = R (.er x e s) := rfl
theorem forL_inv {src : Sr} {l0 : List Dv} {gf : Dv → Env' → M Env'} {body : SF} {R : So → Prop} (I : Nat → Env' → Sto → Prop) : ∀ (l : List Dv) (k : Nat) (env : Env') (S : Sto), l0.drop k = l →
    (hs : ∀ k env S, I k env S → src S = some l0) → (step : ∀ k d env S, l0[k]? = some d → I k env S → Wm (gf d env) S fun r => match r with
      | .ok e s => Ws body e s (turn (I (k + 1)) R)
      | _ => False) → (fin : ∀ env S, I l0.length env S → R (.nx env S)) → k ≤ l0.length → I k env S → Ws (forL src l0 gf body l) env S R
  | [], k, env, S, hd, hs, step, fin, hk, h => by
    refine ⟨.nx env S, ?_, ?_⟩
    · unfold forL
      rw [if_pos (hs k env S h)]
    · have : k = l0.length := by
        have := List.drop_eq_nil_iff.mp hd
        omega
      subst this
      exact fin env S h
  | d :: r, k, env, S, hd, hs, step, fin, hk, h => by
    have hk' : k < l0.length := by
      rcases Nat.lt_or_ge k l0.length with h | h
      · exact h
      · rw [List.drop_eq_nil_of_le h] at hd
        cases hd
    have hget : l0[k]? = some d := by
      have := List.drop_eq_getElem_cons hk'
      rw [hd] at this
      rw [List.getElem?_eq_getElem hk', (List.cons.inj this).1]
    have hdr : l0.drop (k + 1) = r := by
      have := List.drop_eq_getElem_cons hk'
      rw [hd] at this
      exact (List.cons.inj this).2.symm
    obtain ⟨q, e1, p⟩ := step k d env S hget h
    cases q with
    | er x s => exact p.elim
    | ok env1 S1 =>
      obtain ⟨o, e2, t⟩ := p
      have ih := fun env S => forL_inv I r (k + 1) env S hdr hs step fin hk'
      unfold Ws at ih ⊢
      unfold forL
      rw [if_pos (hs k env S h), e1]
      dsimp only
      rw [e2]
      cases o with
      | nx e s => exact ih e s t
      | ct e s => exact ih e s t
      | bk e s => exact ⟨_, rfl, t⟩
      | rt d s => exact ⟨_, rfl, t⟩
      | er x e s => exact ⟨_, rfl, t⟩
/-- a for over a source that stands still -/
theorem for_inv {l : List Dv} {gf : Dv → Env' → M Env'} {body : SF} {R : So → Prop} {env : Env'} {S : Sto} (I : Nat → Env' → Sto → Prop) (h0 : I 0 env S)
    (step : ∀ k d env S, l[k]? = some d → I k env S → Wm (gf d env) S fun r => match r with
      | .ok e s => Ws body e s (turn (I (k + 1)) R)
      | _ => False) (fin : ∀ env S, I l.length env S → R (.nx env S)) : Ws (forL (fun _ => some l) l gf body l) env S R :=
  forL_inv I l 0 env S rfl (fun _ _ _ _ => rfl) step fin (Nat.zero_le _) h0
def wk (T F : Sto → Prop) (E : Exn → Sto → Prop) : Rs Bool → Prop
  | .ok b s => if b = true then T s else F s
  | .er x s => E x s
@[simp] theorem wk_ok {T F : Sto → Prop} {E : Exn → Sto → Prop} {b : Bool} {s : Sto} : wk T F E (.ok b s) = if b = true then T s else F s := rfl
theorem while_inv {fc : Env' → M Bool} {body : SF} {R : So → Prop} (I : Nat → Env' → Sto → Prop)
    (step : ∀ k env S, I k env S → Wm (fc env) S (wk (fun s => ∃ j, k = j + 1 ∧ Ws body env s (turn (I j) R)) (fun s => R (.nx env s)) fun x s => R (.er x env s))) : ∀ (k fuel : Nat) (env : Env') (S : Sto), k < fuel → I k env S → Ws (whileL fc body fuel) env S R
  | k, 0, _, _, h, _ => by omega
  | k, n + 1, env, S, h, i => by
    obtain ⟨r, e, p⟩ := step k env S i
    unfold Ws whileL
    rw [e]
    cases r with
    | er x s => exact ⟨_, rfl, p⟩
    | ok b s =>
      cases b with
      | false => exact ⟨.nx env s, by simp [exS], p⟩
      | true =>
        obtain ⟨j, rfl, o, e2, t⟩ := p
        have ih := fun env S => while_inv I step j n env S (by omega)
        unfold Ws at ih
        simp only [exS, if_true, e2]
        cases o with
        | nx e s => exact ih e s t
        | ct e s => exact ih e s t
        | bk e s => exact ⟨_, rfl, t⟩
        | rt d s => exact ⟨_, rfl, t⟩
        | er x e s => exact ⟨_, rfl, t⟩
/-- the list of a comprehension whose entries leave the store as it is -/
theorem compL_eq {src : Sr} {l0 : List Dv} {el : Dv → M (Option Dv)} {S : Sto} {f : Dv → Option Dv} (hs : src S = some l0) : ∀ (l acc : List Dv), (∀ d ∈ l, el d S = some (.ok (f d) S)) → acc.length + l.length ≤ sizeLine →
    compL src l0 el l acc S = some (.ok (acc ++ l.filterMap f) S)
  | [], acc, _, _ => by
    unfold compL
    rw [if_pos hs, List.filterMap_nil, List.append_nil]
  | d :: r, acc, he, hl => by
    unfold compL
    rw [if_pos hs, he d List.mem_cons_self]
    rw [List.length_cons] at hl
    cases hf : f d with
    | none =>
      dsimp only
      rw [compL_eq hs r acc (fun d hd => he d (List.mem_cons_of_mem _ hd)) (by omega), List.filterMap_cons_none hf]
    | some y =>
      dsimp only
      rw [if_pos (by omega), compL_eq hs r (acc ++ [y]) (fun d hd => he d (List.mem_cons_of_mem _ hd)) (by rw [List.length_append, List.length_singleton]; omega), List.filterMap_cons_some hf, List.append_assoc]
      rfl
theorem lcF_at {fi : Env' → M Sr} {vs : List Nat} {gf : Dv → Env' → M Env'} {ft : Env' → M Bool} {fe : Env' → M Dv} {env : Env'} {S : Sto} {P : Rs Dv → Prop} {src : Sr} {l : List Dv} (f : Dv → Option Dv)
    (hi : fi env S = some (.ok src S)) (hs : src S = some l) (hl : l.length ≤ sizeLine) (he : ∀ d ∈ l, elM vs gf ft fe env d S = some (.ok (f d) S)) : Wm (lcF fi vs gf ft fe env) S P ↔ P (.ok (.lst (l.filterMap f)) S) := by
  refine wm_eq ?_
  unfold lcF
  show M.bind _ _ S = _
  unfold M.bind
  rw [hi]
  dsimp only
  unfold compM
  rw [hs]
  dsimp only
  rw [compL_eq hs l [] he (by simpa using hl), List.nil_append]
  rfl
theorem lcC_at {fi : Env' → M Sr} {vs : List Nat} {gf : Dv → Env' → M Env'} {ft : Env' → M Bool} {fe : Env' → M Dv} {env : Env'} {S : Sto} {P : Rs Dv → Prop} {src : Sr} {l : List Dv} (f : Dv → Option Dv)
    (hi : fi env S = some (.ok src S)) (hs : src S = some l) (hl : l.length ≤ sizeLine) (he : ∀ d ∈ l, elM vs gf ft fe env d S = some (.ok (f d) S)) : Wm (lcC fi vs gf ft fe env) S P ↔ P (.ok (.ref S.length) (S ++ [.lst (l.filterMap f)])) := by
  refine wm_eq ?_
  unfold lcC
  show M.bind _ _ S = _
  unfold M.bind
  rw [hi]
  dsimp only
  unfold compM
  rw [hs]
  dsimp only
  rw [compL_eq hs l [] he (by simpa using hl), List.nil_append]
  rfl
/-! defs -/
def dk (frz : Bool) (S : Sto) (P : Rs Dv → Prop) : So → Prop
  | .nx _ S' => P (.ok .non (gcS S.length .non S'))
  | .rt d S' => P (leaveD frz S.length d S')
  | .er x _ S' => P (.er x S')
  | _ => False
@[simp] theorem dk_nx {frz : Bool} {S S' : Sto} {P : Rs Dv → Prop} {env : Env'} : dk frz S P (.nx env S') = P (.ok .non (gcS S.length .non S')) := rfl
@[simp] theorem dk_rt {frz : Bool} {S S' : Sto} {P : Rs Dv → Prop} {d : Dv} : dk frz S P (.rt d S') = P (leaveD frz S.length d S') := rfl
@[simp] theorem dk_er {frz : Bool} {S S' : Sto} {P : Rs Dv → Prop} {env : Env'} {x : Exn} : dk frz S P (.er x env S') = P (.er x S') := rfl
@[simp] theorem dk_bk {frz : Bool} {S S' : Sto} {P : Rs Dv → Prop} {env : Env'} : dk frz S P (.bk env S') = False := rfl
@[simp] theorem dk_ct {frz : Bool} {S S' : Sto} {P : Rs Dv → Prop} {env : Env'} : dk frz S P (.ct env S') = False := rfl
theorem wm_def {frz : Bool} {n : Nat} {body : SF} {ds : List Dv} {S : Sto} {P : Rs Dv → Prop} : Wm (defM frz n body ds) S P ↔ Ws body (start' n ds) S (dk frz S P) := by
  unfold Wm Ws defM
  cases body (start' n ds) S with
  | none => simp
  | some o => cases o <;> simp
theorem gcS_self {d : Dv} {S : Sto} : gcS S.length d S = S := by
  unfold gcS
  split
  · rw [List.take_length]
  · rfl
theorem leaveD_self {frz : Bool} {S : Sto} {d : Dv} (h : ∀ n, d ≠ .ref n) : leaveD frz S.length d S = .ok d S := by
  unfold leaveD frzD
  cases d with
  | ref n => exact absurd rfl (h n)
  | _ => cases frz <;> simp [gcS_self]
@[simp] theorem leaveD_bl {frz : Bool} {S : Sto} {b : Bool} : leaveD frz S.length (.bl b) S = .ok (.bl b) S := leaveD_self (by intro n; nofun)
@[simp] theorem leaveD_int {frz : Bool} {S : Sto} {b : Int} : leaveD frz S.length (.int b) S = .ok (.int b) S := leaveD_self (by intro n; nofun)
@[simp] theorem leaveD_str {frz : Bool} {S : Sto} {b : Str} : leaveD frz S.length (.str b) S = .ok (.str b) S := leaveD_self (by intro n; nofun)
@[simp] theorem leaveD_lst {frz : Bool} {S : Sto} {b : List Dv} : leaveD frz S.length (.lst b) S = .ok (.lst b) S := leaveD_self (by intro n; nofun)
@[simp] theorem leaveD_tup {frz : Bool} {S : Sto} {b : List Dv} : leaveD frz S.length (.tup b) S = .ok (.tup b) S := leaveD_self (by intro n; nofun)
@[simp] theorem leaveD_non {frz : Bool} {S : Sto} : leaveD frz S.length .non S = .ok .non S := leaveD_self (by intro n; nofun)
/-- a list's own cell handed back -/
theorem leaveD_new {S T : Sto} {l : List Dv} (hb : belows S.length l = true) (hS : S.all (belowC S.length) = true) : leaveD true S.length (.ref S.length) (S ++ .lst l :: T) = .ok (.lst l) S := by
  unfold leaveD frzD
  simp only [if_true, Nat.le_refl]
  rw [List.getElem?_append_right (Nat.le_refl _), Nat.sub_self]
  simp only [List.getElem?_cons_zero]
  unfold gcS
  have : (List.take S.length ((S ++ Cell.lst l :: T).set S.length .dead)) = S := by
    rw [List.take_set]
    rw [List.take_left, List.set_eq_of_length_le (Nat.le_refl _)]
  rw [this, if_pos]
  exact ⟨by simpa [below] using hb, hS⟩
/-- cells made inside are forgotten -/
theorem leaveD_old {S T : Sto} {frz : Bool} {d : Dv} (hn : ∀ n, d ≠ .ref n) (hb : below S.length d = true) (hS : S.all (belowC S.length) = true) : leaveD frz S.length d (S ++ T) = .ok d S := by
  have e : (if frz = true then frzD S.length d (S ++ T) else (d, S ++ T)) = (d, S ++ T) := by
    cases frz with
    | false => rfl
    | true => cases d with
      | ref n => exact absurd rfl (hn n)
      | _ => rfl
  unfold leaveD
  rw [e]
  dsimp only
  unfold gcS
  rw [List.take_left, if_pos ⟨hb, hS⟩]
theorem belows_all {n : Nat} : ∀ {l : List Dv}, (∀ d ∈ l, below n d = true) → belows n l = true
  | [], _ => rfl
  | d :: r, h => by
    unfold belows
    rw [h d List.mem_cons_self, belows_all fun e he => h e (List.mem_cons_of_mem _ he)]
    rfl
theorem belows_ints {n : Nat} {l : List Int} : belows n (l.map .int) = true := belows_all fun d hd => by
  obtain ⟨i, _, rfl⟩ := List.mem_map.mp hd
  rfl
theorem belows_strs {n : Nat} {l : List Str} : belows n (l.map .str) = true := belows_all fun d hd => by
  obtain ⟨i, _, rfl⟩ := List.mem_map.mp hd
  rfl
/-! data -/
@[simp] theorem op_addI {S : Sto} {a b : Int} : addD S (.int a) (.int b) = some (.int (a + b)) := rfl
theorem op_addS {S : Sto} {a b : Str} : addD S (.str a) (.str b) = if a.length + b.length ≤ sizeLine then some (.str (a ++ b)) else none := rfl
@[simp] theorem op_subI {S : Sto} {a b : Int} : subD S (.int a) (.int b) = some (.int (a - b)) := rfl
@[simp] theorem op_fdivI {S : Sto} {a b : Int} : fdivD S (.int a) (.int b) = gd (CDivN a b) (some (.int (a.fdiv b))) := gd_if rfl
@[simp] theorem op_modI {S : Sto} {a b : Int} : modD S (.int a) (.int b) = gd (b ≠ 0) (some (.int (a.fmod b))) := gd_if rfl
@[simp] theorem op_powI {S : Sto} {a b : Int} : powD S (.int a) (.int b) = gd (CPow a b) (some (.int (a ^ b.toNat))) := gd_if rfl
@[simp] theorem op_ltI {S : Sto} {a b : Int} : ltD S (.int a) (.int b) = some (.bl (decide (a < b))) := rfl
@[simp] theorem op_leI {S : Sto} {a b : Int} : leD S (.int a) (.int b) = some (.bl (decide (a ≤ b))) := rfl
@[simp] theorem op_gtI {S : Sto} {a b : Int} : gtD S (.int a) (.int b) = some (.bl (decide (b < a))) := rfl
@[simp] theorem op_geI {S : Sto} {a b : Int} : geD S (.int a) (.int b) = some (.bl (decide (b ≤ a))) := rfl
@[simp] theorem op_mulI {S : Sto} {a b : Int} : mulD S (.int a) (.int b) = gd (CMul a b) (some (.int (a * b))) := gd_if <| by
  unfold mulD mulI onI
  by_cases h : CMul a b
  · simp [h]
  · simp [h, mulS]
theorem shaped_int {i : Int} : SeqAt.shaped (.int i) = true := by
  simp [SeqAt.shaped, PyData.canLay0, PyData.depth]
theorem shaped_bool {i : Bool} : SeqAt.shaped (.bool i) = true := by
  simp [SeqAt.shaped, PyData.canLay0, PyData.depth]
@[simp] theorem op_eqI {S : Sto} {a b : Int} : eqD S (.int a) (.int b) = some (.bl (a == b)) := by
  simp [eqD, eqPy, pyTop, pyOf, shaped_int, PyData.eqv]
@[simp] theorem op_neI {S : Sto} {a b : Int} : neD S (.int a) (.int b) = some (.bl (!(a == b))) := by
  simp [neD, eqPy, pyTop, pyOf, shaped_int, PyData.eqv]
@[simp] theorem op_eqB {S : Sto} {a b : Bool} : eqD S (.bl a) (.bl b) = some (.bl (a == b)) := by
  simp [eqD, eqPy, pyTop, pyOf, shaped_bool, PyData.eqv]
@[simp] theorem op_neB {S : Sto} {a b : Bool} : neD S (.bl a) (.bl b) = some (.bl (!(a == b))) := by
  simp [neD, eqPy, pyTop, pyOf, shaped_bool, PyData.eqv]
theorem shaped_str {x : Str} (h : PyData.strOk x = true) : SeqAt.shaped (.str x) = true := by
  simp [SeqAt.shaped, PyData.canLay0, PyData.depth, h]
theorem op_eqS {S : Sto} {a b : Str} (h : PyData.strOk a = true) (k : PyData.strOk b = true) : eqD S (.str a) (.str b) = some (.bl (a == b)) := by
  simp [eqD, eqPy, pyTop, pyOf, shaped_str, PyData.eqv, h, k]
theorem op_neS {S : Sto} {a b : Str} (h : PyData.strOk a = true) (k : PyData.strOk b = true) : neD S (.str a) (.str b) = some (.bl (!(a == b))) := by
  simp [neD, eqPy, pyTop, pyOf, shaped_str, PyData.eqv, h, k]
theorem pysOf_strs {S : Sto} : ∀ {l : List Str}, pysOf S (l.map .str) = some (l.map .str)
  | [] => rfl
  | a :: r => by simp [pysOf, pyOf, pysOf_strs (l := r)]
theorem pysOf_ints {S : Sto} : ∀ {l : List Int}, pysOf S (l.map .int) = some (l.map .int)
  | [] => rfl
  | a :: r => by simp [pysOf, pyOf, pysOf_ints (l := r)]
theorem canLayAll_strs : ∀ {l : List Str}, (∀ x ∈ l, PyData.strOk x = true) → PyData.canLayAll0 (l.map .str) = true
  | [], _ => rfl
  | a :: r, h => by simp [PyData.canLayAll0, PyData.canLay0, h a, canLayAll_strs (l := r) fun x hx => h x (List.mem_cons_of_mem _ hx)]
theorem depthAll_strs : ∀ {l : List Str}, PyData.depthAll (l.map .str) ≤ 1
  | [] => by simp [PyData.depthAll]
  | a :: r => by
    have := depthAll_strs (l := r)
    simp [PyData.depthAll, PyData.depth]
    omega
theorem shaped_strs {l : List Str} (h : ∀ x ∈ l, PyData.strOk x = true) : SeqAt.shaped (.list (l.map .str)) = true := by
  have := depthAll_strs (l := l)
  simp [SeqAt.shaped, PyData.canLay0, PyData.depth, canLayAll_strs h]
  omega
theorem eqvAll_strs : ∀ {l r : List Str}, PyData.eqvAll (l.map .str) (r.map .str) = decide (l = r)
  | [], [] => by simp [PyData.eqvAll]
  | a :: l, [] => by simp [PyData.eqvAll]
  | [], a :: l => by simp [PyData.eqvAll]
  | a :: l, b :: r => by
    simp only [List.map_cons, PyData.eqvAll, PyData.eqv, eqvAll_strs (l := l) (r := r), List.cons.injEq, Bool.decide_and]
    rfl
theorem pyTop_list {S : Sto} {d : Dv} {l : List Dv} (h : listOf S d = some l) : pyTop S d = (pysOf S l).map .list := by
  cases d with
  | lst l' => cases h; rfl
  | scr l' => cases h; rfl
  | ref n =>
    unfold pyTop
    unfold listOf ownOf at h
    cases q : S[n]? with
    | none => simp [q] at h
    | some c => cases c <;> simp [q] at h ⊢; simp [h]
  | _ => cases h
theorem op_eqLS {S : Sto} {a b : Dv} {l r : List Str} (ha : listOf S a = some (l.map .str)) (hb : listOf S b = some (r.map .str)) (h : ∀ x ∈ l, PyData.strOk x = true) (k : ∀ x ∈ r, PyData.strOk x = true) : eqD S a b = some (.bl (decide (l = r))) := by
  simp [eqD, eqPy, pyTop_list ha, pyTop_list hb, pysOf_strs, shaped_strs h, shaped_strs k, PyData.eqv, eqvAll_strs]
theorem op_neLS {S : Sto} {a b : Dv} {l r : List Str} (ha : listOf S a = some (l.map .str)) (hb : listOf S b = some (r.map .str)) (h : ∀ x ∈ l, PyData.strOk x = true) (k : ∀ x ∈ r, PyData.strOk x = true) : neD S a b = some (.bl (!decide (l = r))) := by
  simp [neD, eqPy, pyTop_list ha, pyTop_list hb, pysOf_strs, shaped_strs h, shaped_strs k, PyData.eqv, eqvAll_strs]
@[simp] theorem cmul_iff {i j : Int} : CMul i j ↔ (-(2 ^ 64) < i ∧ i < 2 ^ 64) ∨ (-(2 ^ 64) < j ∧ j < 2 ^ 64) := Iff.rfl
@[simp] theorem cdiv_iff {i j : Int} : CDivN i j ↔ j ≠ 0 ∧ j.natAbs < 1073741824 := Iff.rfl
@[simp] theorem cpow_iff {i j : Int} : CPow i j ↔ 0 ≤ j ∧ j ≤ 1000000 ∧ i.natAbs < 2 ^ 64 := Iff.rfl
theorem range_at {m i : Nat} {d : Dv} {f : Nat → Dv} (hd : ((List.range m).map f)[i]? = some d) : i < m ∧ d = f i := by
  have hlt : i < m := by
    rcases Nat.lt_or_ge i m with h | h
    · exact h
    · rw [List.getElem?_eq_none (by simpa using h)] at hd
      cases hd
  rw [List.getElem?_map, List.getElem?_range hlt] at hd
  cases hd
  exact ⟨hlt, rfl⟩
theorem map_at {α : Type} {l : List α} {i : Nat} {d : Dv} {f : α → Dv} (hd : (l.map f)[i]? = some d) : ∃ x, l[i]? = some x ∧ x ∈ l ∧ d = f x := by
  rw [List.getElem?_map] at hd
  obtain ⟨x, h1, h2⟩ := Option.map_eq_some_iff.mp hd
  exact ⟨x, h1, List.mem_of_getElem? h1, h2.symm⟩
theorem szl : sizeLine = 16777216 := by decide
/-! the words, spelt out -/
@[simp] theorem at_eOp (o : Sto → Dv → Dv → Option Dv) (fa fb : Env' → M Dv) (env : Env') : eOp o fa fb env = (do let x ← fa env; let y ← fb env; op2 o x y) := rfl
@[simp] theorem at_tB (f : Env' → M Dv) (env : Env') : tB f env = (do let x ← f env; asB x) := rfl
@[simp] theorem at_tTru (f : Env' → M Dv) (env : Env') : tTru f env = (do let d ← f env; truM d) := rfl
@[simp] theorem at_tAnd2 (fa fb : Env' → M Bool) (env : Env') : tAnd2 fa fb env = (do let k ← fa env; if k = true then fb env else pure false) := rfl
@[simp] theorem at_tOr2 (fa fb : Env' → M Bool) (env : Env') : tOr2 fa fb env = (do let k ← fa env; if k = true then pure true else fb env) := rfl
@[simp] theorem at_tNot1 (fa : Env' → M Bool) (env : Env') : tNot1 fa env = (do let k ← fa env; pure (!k)) := rfl
@[simp] theorem at_eAnd (fa fb : Env' → M Dv) (env : Env') : eAnd fa fb env = (do let x ← fa env; let k ← asB x; if k = true then fb env else pure (.bl false)) := rfl
@[simp] theorem at_eOr (fa fb : Env' → M Dv) (env : Env') : eOr fa fb env = (do let x ← fa env; let k ← asB x; if k = true then pure (.bl true) else fb env) := rfl
@[simp] theorem at_eNot (fa : Env' → M Dv) (env : Env') : eNot fa env = (do let x ← fa env; let k ← asB x; pure (.bl (!k))) := rfl
@[simp] theorem at_eIfE (fc : Env' → M Bool) (fa fb : Env' → M Dv) (env : Env') : eIfE fc fa fb env = (do let k ← fc env; if k = true then fa env else fb env) := rfl
@[simp] theorem at_eBnd (f : Env' → M Dv) (o : Dv → M Dv) (env : Env') : eBnd f o env = (do let x ← f env; o x) := rfl
@[simp] theorem at_aNil  (env : Env') : aNil env = pure [] := rfl
@[simp] theorem at_aCons (f : Env' → M Dv) (fs : Env' → M (List Dv)) (env : Env') : aCons f fs env = (do let d ← f env; let ds ← fs env; pure (d :: ds)) := rfl
@[simp] theorem at_eArg (fs : Env' → M (List Dv)) (o : List Dv → M Dv) (env : Env') : eArg fs o env = (do let ds ← fs env; o ds) := rfl
@[simp] theorem at_oNone  (env : Env') : oNone env = pure none := rfl
@[simp] theorem at_oSome (f : Env' → M Dv) (env : Env') : oSome f env = (do let d ← f env; let i ← asI d; pure (some i)) := rfl
@[simp] theorem at_eSl (o : Dv → Option Int → Option Int → M Dv) (f : Env' → M Dv) (fl fh : Env' → M (Option Int)) (env : Env') : eSl o f fl fh env = (do let d ← f env; let l ← fl env; let u ← fh env; o d l u) := rfl
@[simp] theorem at_eMt0 (T : String) (fo : Env' → M Dv) (op : Dv → List Dv → M Dv) (env : Env') : eMt0 T fo op env = (do let a ← fo env; chkT T a; op a []) := rfl
@[simp] theorem at_eMt (T : String) (fo : Env' → M Dv) (fs : Env' → M (List Dv)) (op : Dv → List Dv → M Dv) (env : Env') : eMt T fo fs op env = (do let a ← fo env; chkT T a; let ds ← fs env; op a ds) := rfl
@[simp] theorem at_iVal (f : Env' → M Dv) (env : Env') : iVal f env = (do let d ← f env; srcOf d) := rfl
@[simp] theorem at_iArg (fs : Env' → M (List Dv)) (o : List Dv → M Sr) (env : Env') : iArg fs o env = (do let ds ← fs env; o ds) := rfl
@[simp] theorem at_tYes  (env : Env') : tYes' env = pure true := rfl
@[simp] theorem at_gSet (i : Nat) (d : Dv) (env : Env') : gSet i d env = pure (env.set i (some d)) := rfl
@[simp] theorem at_start (n : Nat) (ds : List Dv) : start' n ds = ds.map some ++ List.replicate (n - ds.length) none := rfl
@[simp] theorem op_lenS {S : Sto} {z : Str} : lenD S [.str z] = gd (z.length ≤ sizeLine) (some (.int z.length)) := gd_if <| by
  unfold lenD lenO
  by_cases h : z.length ≤ sizeLine <;> simp [h]
@[simp] theorem op_lenL {S : Sto} {l : List Dv} : lenD S [.lst l] = some (.int l.length) := by simp [lenD, lenO, listOf, ownOf]
@[simp] theorem op_lenT {S : Sto} {l : List Dv} : lenD S [.tup l] = some (.int l.length) := by simp [lenD, lenO, listOf, ownOf]
@[simp] theorem op_lenScr {S : Sto} {l : List Dv} : lenD S [.scr l] = some (.int l.length) := by simp [lenD, lenO, listOf, ownOf]
@[simp] theorem op_lenRef {S : Sto} {n : Nat} : lenD S [.ref n] = (listOf S (.ref n)).map fun l => .int l.length := by
  unfold lenD lenO
  simp
  rfl
@[simp] theorem op_absI {S : Sto} {i : Int} : absD S [.int i] = some (.int (if i < 0 then -i else i)) := rfl
@[simp] theorem op_intI {S : Sto} {i : Int} : intD S [.int i] = some (.int i) := rfl
@[simp] theorem op_max2I {S : Sto} {i j : Int} : max2D S [.int i, .int j] = some (.int (if i < j then j else i)) := rfl
@[simp] theorem ty_str {S : Sto} {z : Str} : tyD S (.str z) "str" = true := rfl
@[simp] theorem list_lst {S : Sto} {l : List Dv} : listOf S (.lst l) = some l := rfl
@[simp] theorem list_scr {S : Sto} {l : List Dv} : listOf S (.scr l) = some l := rfl
def cellLst : Option Cell → Option (List Dv)
  | some (.lst l) => some l
  | _ => none
@[simp] theorem cellLst_lst {l : List Dv} : cellLst (some (.lst l)) = some l := rfl
@[simp] theorem list_ref {S : Sto} {n : Nat} : listOf S (.ref n) = cellLst S[n]? := by
  simp only [listOf, ownOf]
  cases S[n]? with
  | none => rfl
  | some c => cases c <;> rfl
@[simp] theorem cell_ref {S : Sto} {n : Nat} : cellL S (.ref n) = (cellLst S[n]?).map fun l => (n, l) := by
  simp only [cellL]
  cases S[n]? with
  | none => rfl
  | some c => cases c <;> rfl
@[simp] theorem ty_ref {S : Sto} {n : Nat} : tyD S (.ref n) "list" = (cellLst S[n]?).isSome := by
  simp only [tyD]
  cases S[n]? with
  | none => rfl
  | some c => cases c <;> rfl
@[simp] theorem set_new {S : Sto} {c d : Cell} : (S ++ [c]).set S.length d = S ++ [d] := by simp
theorem cutG_head {α : Type} {l : List α} {n : Nat} : cutG l none (some (n : Int)) = l.take n := by
  unfold cutG
  rw [HT.sIx_nat, HT.sIx_none, List.drop_zero, Nat.sub_zero]
  rcases Nat.le_total n l.length with h | h
  · rw [Nat.min_eq_left h]
  · rw [Nat.min_eq_right h, List.take_length, List.take_of_length_le h]
theorem cutG_tail {α : Type} {l : List α} {n : Nat} : cutG l (some (n : Int)) none = l.drop n := by
  unfold cutG
  rw [HT.sIx_nat, HT.sIx_none]
  rcases Nat.le_total n l.length with h | h
  · rw [Nat.min_eq_left h, List.take_of_length_le (by rw [List.length_drop]; omega)]
  · rw [Nat.min_eq_right h, List.drop_eq_nil_of_le h, List.drop_eq_nil_of_le (Nat.le_refl _), List.take_nil]
end ML

namespace ML
open PySem PySem.Spec PyProof.Rows L2

@[simp] theorem wm_chain {o o' : Sto → Dv → Dv → Option Dv} {fa fb fc : Env' → M Dv} {env : Env'} {S : Sto} {P : Rs Dv → Prop} : Wm (chainF o o' fa fb fc env) S P ↔
    Wm (fa env) S (bk (fun a => fb env >>= fun b => op2 o a b >>= fun d => asB d >>= fun k => if k = true then fc env >>= fun c => op2 o' b c else pure (.bl false)) P) := by
  have e : chainF o o' fa fb fc env = (fa env >>= fun a => fb env >>= fun b => op2 o a b >>= fun d => asB d >>= fun k => if k = true then fc env >>= fun c => op2 o' b c else pure (.bl false)) := rfl
  rw [e, wm_bind]
theorem atI_nat {α : Type} {l : List α} {n : Nat} : L2.atI l (n : Int) = l[n]? := by
  unfold L2.atI ixN
  by_cases h : n < l.length
  · simp [h]
  · simp [h]
@[simp] theorem atI_nn {α : Type} {l : List α} {i : Int} (h : 0 ≤ i) : L2.atI l i = l[i.toNat]? := by
  obtain ⟨n, rfl⟩ := Int.eq_ofNat_of_zero_le h
  rw [atI_nat]
  rfl
@[simp] theorem op_ixS {S : Sto} {z : Str} {i : Int} : ixD S (.str z) (.int i) = gd (z.length ≤ sizeLine) ((L2.atI z.cps.toList i).map fun c => .str ⟨#[c]⟩) := gd_if rfl
@[simp] theorem op_ixT {S : Sto} {z : List Dv} {i : Int} : ixD S (.tup z) (.int i) = L2.atI z i := rfl
@[simp] theorem op_ixL {S : Sto} {z : List Dv} {i : Int} : ixD S (.lst z) (.int i) = L2.atI z i := rfl
@[simp] theorem op_ixScr {S : Sto} {z : List Dv} {i : Int} : ixD S (.scr z) (.int i) = L2.atI z i := rfl
@[simp] theorem op_ixRef {S : Sto} {n : Nat} {i : Int} : ixD S (.ref n) (.int i) = (cellLst S[n]?).bind fun l => L2.atI l i := by
  show (listOf S (.ref n)).bind _ = _
  rw [list_ref]
@[simp] theorem op_inSign {S : Sto} {c : Nat} {z : Str} : inD S (.str ⟨#[c]⟩) (.str z) = some (.bl (decide (c ∈ z.cps.toList))) := rfl
@[simp] theorem op_ninSign {S : Sto} {c : Nat} {z : Str} : ninD S (.str ⟨#[c]⟩) (.str z) = some (.bl (!decide (c ∈ z.cps.toList))) := rfl
theorem boolsOf_map {α : Type} {p : α → Bool} : ∀ {l : List α}, boolsOf (l.map fun x => .bl (p x)) = some (l.map p)
  | [] => rfl
  | a :: r => by simp only [List.map_cons, boolsOf, boolsOf_map (l := r)]; rfl
@[simp] theorem op_all {S : Sto} {α : Type} {p : α → Bool} {l : List α} : allD S [.lst (l.map fun x => .bl (p x))] = some (.bl (l.all p)) := by
  simp [allD, boolsOf_map]
@[simp] theorem op_any {S : Sto} {α : Type} {p : α → Bool} {l : List α} : anyD S [.lst (l.map fun x => .bl (p x))] = some (.bl (l.any p)) := by
  simp [anyD, boolsOf_map]
@[simp] theorem tru_bl {S : Sto} {b : Bool} : truD S (.bl b) = some b := rfl
@[simp] theorem op_eqS' {S : Sto} {a b : Str} : eqD S (.str a) (.str b) = gd (PyData.strOk a = true ∧ PyData.strOk b = true) (some (.bl (a == b))) := gd_if <| by
  have sh : ∀ x : Str, SeqAt.shaped (.str x) = PyData.strOk x := fun x => by simp [SeqAt.shaped, PyData.canLay0, PyData.depth]
  simp only [eqD, eqPy, pyTop, pyOf, sh]
  by_cases h : PyData.strOk a = true ∧ PyData.strOk b = true
  · simp [h, PyData.eqv]
  · simp [h]
@[simp] theorem op_neS' {S : Sto} {a b : Str} : neD S (.str a) (.str b) = gd (PyData.strOk a = true ∧ PyData.strOk b = true) (some (.bl (!(a == b)))) := gd_if <| by
  have sh : ∀ x : Str, SeqAt.shaped (.str x) = PyData.strOk x := fun x => by simp [SeqAt.shaped, PyData.canLay0, PyData.depth]
  simp only [neD, eqPy, pyTop, pyOf, sh]
  by_cases h : PyData.strOk a = true ∧ PyData.strOk b = true
  · simp [h, PyData.eqv]
  · simp [h]
@[simp] theorem op_strI {S : Sto} {i : Int} : strD S [.int i] = gd (i.natAbs.log2 < 1920) (some (.str (toString i))) := gd_if rfl
/-- comprehensions over mapped lists -/
theorem compL_map {α : Type} {src : Sr} {l0 : List Dv} {el : Dv → M (Option Dv)} {S : Sto} {g : α → Dv} {f : α → Option Dv} (hs : src S = some l0) : ∀ (l : List α) (acc : List Dv), (∀ d ∈ l, el (g d) S = some (.ok (f d) S)) → acc.length + l.length ≤ sizeLine →
    compL src l0 el (l.map g) acc S = some (.ok (acc ++ l.filterMap f) S)
  | [], acc, _, _ => by
    rw [List.map_nil]
    unfold compL
    rw [if_pos hs, List.filterMap_nil, List.append_nil]
  | d :: r, acc, he, hl => by
    rw [List.map_cons]
    unfold compL
    rw [if_pos hs, he d List.mem_cons_self]
    rw [List.length_cons] at hl
    cases hf : f d with
    | none =>
      dsimp only
      rw [compL_map hs r acc (fun d hd => he d (List.mem_cons_of_mem _ hd)) (by omega), List.filterMap_cons_none hf]
    | some y =>
      dsimp only
      rw [if_pos (by omega), compL_map hs r (acc ++ [y]) (fun d hd => he d (List.mem_cons_of_mem _ hd)) (by rw [List.length_append, List.length_singleton]; omega), List.filterMap_cons_some hf, List.append_assoc]
      rfl
theorem lcF_map {α : Type} {fi : Env' → M Sr} {vs : List Nat} {gf : Dv → Env' → M Env'} {ft : Env' → M Bool} {fe : Env' → M Dv} {env : Env'} {S : Sto} {P : Rs Dv → Prop} {src : Sr} (l : List α) (g : α → Dv) (f : α → Option Dv)
    (hi : Wm (fi env) S fun r => r = .ok src S) (hs : src S = some (l.map g)) (hl : l.length ≤ sizeLine) (he : ∀ x ∈ l, Wm (elM vs gf ft fe env (g x)) S fun r => r = .ok (f x) S) : Wm (lcF fi vs gf ft fe env) S P ↔ P (.ok (.lst (l.filterMap f)) S) := by
  refine wm_eq ?_
  unfold lcF
  show M.bind _ _ S = _
  unfold M.bind
  rw [wm_run hi]
  dsimp only
  unfold compM
  rw [hs]
  dsimp only
  rw [compL_map hs l [] (fun d hd => wm_run (he d hd)) (by simpa using hl), List.nil_append]
  rfl
@[simp] theorem at_elM (vs : List Nat) (gf : Dv → Env' → M Env') (ft : Env' → M Bool) (fe : Env' → M Dv) (env : Env') (d : Dv) : elM vs gf ft fe env d = (gf d (wipeE env vs) >>= fun env' => ft env' >>= fun b => if b = true then fe env' >>= fun y => pure (some y) else pure none) := rfl
@[simp] theorem at_wipe0 (env : Env') : wipeE env [] = env := rfl
@[simp] theorem at_wipe1 (env : Env') (i : Nat) : wipeE env [i] = env.set i none := rfl
@[simp] theorem strlen_mk (cs : List Nat) : (⟨⟨cs⟩⟩ : Str).length = cs.length := rfl
theorem pure_ok {α : Type} (a : α) (S : Sto) : (pure a : M α) S = some (.ok a S) := rfl
theorem flat_strs {α : Type} {g : α → Str} : ∀ {l : List α}, (l.map fun x => Dv.str (g x)).all flatD = true
  | [] => rfl
  | a :: r => by rw [List.map_cons, List.all_cons, flat_strs (l := r)]; rfl
theorem any_strs {α : Type} {g : α → Str} {w : Str} : ∀ {l : List α}, ((l.map fun x => Dv.str (g x)).any fun y => eqF y (.str w)) = l.any fun x => g x == w
  | [] => rfl
  | a :: r => by rw [List.map_cons, List.any_cons, List.any_cons, any_strs (l := r)]; rfl
@[simp] theorem op_inStrs {S : Sto} {α : Type} {g : α → Str} {w : Str} {l : List α} : inD S (.str w) (.lst (l.map fun x => .str (g x))) = some (.bl (l.any fun x => g x == w)) := by
  unfold inD
  have e : inS S (.str w) (.lst (l.map fun x => .str (g x))) = none := rfl
  rw [e]
  dsimp only
  unfold inQ
  have e2 : seqOf S (.lst (l.map fun x => Dv.str (g x))) = some (l.map fun x => Dv.str (g x)) := rfl
  rw [e2]
  dsimp only
  rw [if_pos ⟨rfl, flat_strs⟩, any_strs]
  rfl
theorem op_inTup {S : Sto} {w : Str} {l : List Dv} (h : l.all flatD = true) : inD S (.str w) (.tup l) = some (.bl (l.any fun y => eqF y (.str w))) := by
  unfold inD
  have e : inS S (.str w) (.tup l) = none := rfl
  rw [e]
  dsimp only
  unfold inQ
  have e2 : seqOf S (.tup l) = some l := rfl
  rw [e2]
  dsimp only
  rw [if_pos ⟨rfl, h⟩]
  rfl
@[simp] theorem eqF_str {a b : Str} : eqF (.str a) (.str b) = (a == b) := rfl
@[simp] theorem tru_str {S : Sto} {a : Str} : truD S (.str a) = if a.length ≤ sizeLine then some ((a.length : Int) != 0) else none := rfl
theorem op_intS {S : Sto} {a : Str} : intD S [.str a] = gd (a.length ≤ 640) ((PySem.intText? a).map .int) := gd_if rfl
@[simp] theorem wm_inK {kvs : List (Str × Dv)} {z : Str} {S : Sto} {P : Rs Dv → Prop} : Wm (inKM kvs false (.str z)) S P ↔ P (.ok (.bl (kvs.lookup z).isSome) S) := wm_pure
@[simp] theorem wm_getK {kvs : List (Str × Dv)} {z : Str} {S : Sto} {P : Rs Dv → Prop} : Wm (getKM kvs (.str z)) S P ↔ wopt (kvs.lookup z) fun d => P (.ok d S) := by
  unfold getKM
  dsimp only
  cases kvs.lookup z <;> simp
@[simp] theorem at_gSub (fo fi : Env' → M Dv) (d : Dv) (env : Env') : gSub fo fi d env = (fo env >>= fun a => fi env >>= fun b => setIM a b d >>= fun _ => pure env) := rfl
@[simp] theorem wm_setI {n : Nat} {k : Int} {d : Dv} {S : Sto} {P : Rs Unit → Prop} : Wm (setIM (.ref n) (.int k) d) S P ↔ wopt (cellLst S[n]?) fun l => wopt (ixN l.length k) fun j => P (.ok () (S.set n (.lst (l.set j d)))) := by
  unfold Wm setIM
  simp only [cell_ref]
  cases h : cellLst S[n]? with
  | none => simp
  | some l =>
    simp only [Option.map_some]
    cases hq : ixN l.length k <;> simp [hq]
theorem ixN_in {n : Nat} {k : Int} (h0 : 0 ≤ k) (h1 : k < n) : ixN n k = some k.toNat := by
  unfold ixN
  rw [if_pos h0, if_pos h1]
end ML

namespace ML
open PySem PySem.Spec PyProof.Rows L2

/-! ### texts by their codes -/
abbrev cd (z : Str) : List Nat := z.cps.toList
theorem str_eq {a b : Str} (h : cd a = cd b) : a = b := by
  obtain ⟨⟨a⟩⟩ := a
  obtain ⟨⟨b⟩⟩ := b
  simp at h
  rw [h]
theorem cd_append (a b : Str) : cd (a ++ b) = cd a ++ cd b := by
  show (a.cps ++ b.cps).toList = _
  simp
theorem cds_len (a : Str) : a.length = (cd a).length := by simp [Str.length]
theorem cd_cut (z : Str) (lo hi : Option Int) : cd (cutS z lo hi) = cutG (cd z) lo hi := by
  unfold cutS cutG cd
  simp [Str.length]
theorem foldl_arr (x : Array Nat) : ∀ (n : Nat) (acc : Array Nat), ((List.replicate n x).foldl (· ++ ·) acc).toList = acc.toList ++ (List.replicate n x.toList).flatten
  | 0, acc => by simp
  | n + 1, acc => by
    rw [List.replicate_succ, List.foldl_cons, foldl_arr x n]
    simp [List.replicate_succ]
theorem cd_mul (z : Str) (n : Int) : cd (Txt.mul z n) = (List.replicate n.toNat (cd z)).flatten := by
  unfold Txt.mul
  split
  · rename_i h
    rw [show n.toNat = 0 by omega]
    rfl
  · split
    · rename_i h1 h2
      rw [Bool.or_eq_true] at h2
      rcases h2 with h2 | h2
      · have : n = 1 := by simpa using h2
        subst this
        simp
      · have : cd z = [] := by
          have : z.length = 0 := by simpa using h2
          rw [cds_len] at this
          exact List.length_eq_zero_iff.mp this
        rw [this]
        simp
    · rw [cd, foldl_arr]
      simp
theorem cd_join : ∀ (ys : List Str), cd (Txt.join (⟨#[]⟩ : Str) ys) = ys.flatMap cd
  | ys => by
    have h : ∀ ys : List Str, cd (Str.join (⟨#[]⟩ : Str) ys) = ys.flatMap cd := by
      intro ys
      induction ys with
      | nil => rfl
      | cons x r ih =>
        cases r with
        | nil => simp [Str.join]
        | cons y t =>
          rw [Str.join]
          · rw [cd_append, cd_append, ih]
            simp
          · simp
    unfold Txt.join
    rw [StrLaws.glued_eq_join]
    exact h ys
/-! ### the words of a line -/
def tok : List Nat → List Nat → List (List Nat)
  | acc, [] => if acc = [] then [] else [acc]
  | acc, c :: r => if c = 32 then (if acc = [] then [] else [acc]) ++ tok [] r else tok (acc ++ [c]) r
theorem tok_free : ∀ (w acc r : List Nat), 32 ∉ w → tok acc (w ++ r) = tok (acc ++ w) r
  | [], acc, r, _ => by simp
  | c :: w, acc, r, h => by
    rw [List.mem_cons, not_or] at h
    rw [List.cons_append, tok, if_neg (fun e => h.1 e.symm), tok_free w _ r h.2]
    simp
theorem tok_space (acc r : List Nat) : tok acc (32 :: r) = (if acc = [] then [] else [acc]) ++ tok [] r := by
  rw [tok, if_pos rfl]
theorem tok_spaces : ∀ (n : Nat) (r : List Nat), tok [] (List.replicate n 32 ++ r) = tok [] r
  | 0, r => rfl
  | n + 1, r => by
    rw [List.replicate_succ, List.cons_append, tok_space, tok_spaces n]
    rfl
theorem tok_join : ∀ (ps : List Str), ps ≠ [] → (∀ p ∈ ps, 32 ∉ cd p) → tok [] (cd (Str.join (⟨#[32]⟩ : Str) ps)) = (ps.map cd).filter fun l => decide (l ≠ [])
  | [], h, _ => absurd rfl h
  | [x], _, h => by
    have := tok_free (cd x) [] [] (h x (by simp))
    rw [List.append_nil, List.nil_append] at this
    rw [Str.join, this, tok]
    by_cases e : cd x = [] <;> simp [e]
  | x :: y :: r, _, h => by
    have ih := tok_join (y :: r) (by simp) fun p hp => h p (List.mem_cons_of_mem _ hp)
    rw [Str.join, cd_append, cd_append, List.append_assoc, tok_free _ _ _ (h x (by simp)), List.nil_append]
    · show tok (cd x) (32 :: cd (Str.join _ (y :: r))) = _
      rw [tok_space, ih]
      by_cases e : cd x = [] <;> simp [e]
    · simp
theorem split_tok (z : Str) : ((Txt.split z (⟨#[32]⟩ : Str)).map cd).filter (fun l => decide (l ≠ [])) = tok [] (cd z) := by
  have h1 := StrLaws.join_split z ⟨#[32]⟩
  have h2 := StrLaws.split_free z 32
  have h3 : Txt.split z (⟨#[32]⟩ : Str) ≠ [] := by
    intro e
    have := split_pos z ⟨#[32]⟩
    rw [e] at this
    simp at this
  rw [← tok_join _ h3 h2, h1]
theorem join_mem (sep : Str) : ∀ (ps : List Str), ∀ p ∈ ps, ∀ c ∈ cd p, c ∈ cd (Str.join sep ps)
  | [x], p, hp, c, hc => by
    rw [List.mem_singleton] at hp
    subst hp
    exact hc
  | x :: y :: r, p, hp, c, hc => by
    rw [Str.join, cd_append, cd_append]
    · rcases List.mem_cons.mp hp with rfl | hp
      · exact List.mem_append_left _ (List.mem_append_left _ hc)
      · exact List.mem_append_right _ (join_mem sep (y :: r) p hp c hc)
    · simp
theorem strOk_iff (z : Str) : PyData.strOk z = true ↔ ∀ c ∈ cd z, c < 0x110000 := by
  unfold PyData.strOk cd
  rw [← Array.all_toList, List.all_eq_true]
  simp
theorem strOk_part {z p : Str} (h : PyData.strOk z = true) (hp : p ∈ Txt.split z (⟨#[32]⟩ : Str)) : PyData.strOk p = true := by
  rw [strOk_iff] at h ⊢
  intro c hc
  refine h c ?_
  have h1 := StrLaws.join_split z ⟨#[32]⟩
  rw [← h1]
  exact join_mem _ _ p hp c hc
/-- the words of a line, as texts -/
def toks (z : Str) : List Str := (tok [] (cd z)).map fun l => ⟨⟨l⟩⟩
theorem split_toks (z : Str) : (Txt.split z (⟨#[32]⟩ : Str)).filter (fun w => decide (w ≠ ⟨#[]⟩)) = toks z := by
  unfold toks
  rw [← split_tok]
  have : ∀ l : List Str, l.filter (fun w => decide (w ≠ (⟨#[]⟩ : Str))) = ((l.map cd).filter fun l => decide (l ≠ [])).map fun l => ⟨⟨l⟩⟩ := by
    intro l
    induction l with
    | nil => rfl
    | cons a r ih =>
      obtain ⟨⟨a⟩⟩ := a
      by_cases e : a = []
      · subst e
        simpa using ih
      · simp [e] at ih ⊢
        exact ih
  exact this _
@[simp] theorem op_addT {S : Sto} {l r : List Dv} : addD S (.tup l) (.tup r) = gd (l.length + r.length ≤ sizeLine) (some (.tup (l ++ r))) := gd_if rfl
@[simp] theorem op_addL {S : Sto} {l r : List Dv} : addD S (.lst l) (.lst r) = gd (l.length + r.length ≤ sizeLine) (some (.lst (l ++ r))) := gd_if rfl
@[simp] theorem op_addS' {S : Sto} {a b : Str} : addD S (.str a) (.str b) = gd (a.length + b.length ≤ sizeLine) (some (.str (a ++ b))) := gd_if rfl
theorem strsOf_map {α : Type} {g : α → Str} : ∀ {l : List α}, strsOf (l.map fun x => .str (g x)) = some (l.map g)
  | [] => rfl
  | a :: r => by simp only [List.map_cons, strsOf, strsOf_map (l := r)]; rfl
theorem join_chars {S : Sto} {n : Nat} {f : Nat → Nat} (hn : n ≤ 1000) : joinD S (.str "") [.lst ((List.range n).map fun k => .str ⟨#[f k]⟩)] = some (.str ⟨⟨(List.range n).map f⟩⟩) := by
  have e2 : Str.ofString "" = ⟨#[]⟩ := by decide +kernel
  unfold joinD
  have e3 : (seqOf S (.lst ((List.range n).map fun k => Dv.str ⟨#[f k]⟩))).bind strsOf = some ((List.range n).map fun k => ⟨#[f k]⟩) := by
    show strsOf _ = _
    exact strsOf_map
  dsimp only
  rw [e3]
  dsimp only
  have hsum : (List.map (fun x => x.length) ((List.range n).map fun k => (⟨#[f k]⟩ : Str))).sum = n := by
    rw [List.map_map]
    have : ((fun x : Str => x.length) ∘ fun k => (⟨#[f k]⟩ : Str)) = fun _ => 1 := by
      funext k
      rfl
    rw [this]
    clear this e3 hn
    induction n with
    | zero => rfl
    | succ n ih => rw [List.range_succ, List.map_append, List.sum_append, ih]; rfl
  rw [if_pos]
  · congr 2
    apply str_eq
    rw [e2, cd_join]
    simp [List.flatMap_map, List.flatMap_singleton']
    induction List.range n with
    | nil => rfl
    | cons a r ih =>
      rw [List.flatMap_cons, ih]
      rfl
  · rw [hsum, e2]
    simp
    omega
theorem cutG_map {α β : Type} {f : α → β} {l : List α} {lo hi : Option Int} : cutG (l.map f) lo hi = (cutG l lo hi).map f := by
  unfold cutG
  rw [List.length_map, ← List.map_drop, ← List.map_take]
theorem cutG_mem {α : Type} {l : List α} {lo hi : Option Int} {x : α} (h : x ∈ cutG l lo hi) : x ∈ l := List.mem_of_mem_drop (List.mem_of_mem_take h)
theorem cutG_len {α : Type} {l : List α} {lo hi : Option Int} : (cutG l lo hi).length ≤ HT.sIx l.length l.length hi - HT.sIx l.length 0 lo := by
  unfold cutG
  rw [List.length_take]
  exact Nat.min_le_left _ _
theorem sIx_nn {n d : Nat} {i : Int} (h : 0 ≤ i) : HT.sIx n d (some i) = min i.toNat n := by
  obtain ⟨k, rfl⟩ := Int.eq_ofNat_of_zero_le h
  rw [HT.sIx_nat]
  rfl
@[simp] theorem op_mulSI {S : Sto} {z : Str} {n : Int} : mulD S (.str z) (.int n) = gd (-(2 ^ 63) ≤ n ∧ n < 10000 ∧ z.length ≤ 1000) (some (.str (Txt.mul z n))) := gd_if <| by
  have e : mulOkB z n = decide (-(2 ^ 63) ≤ n ∧ n < 10000 ∧ z.length ≤ 1000) := by
    unfold mulOkB
    rw [Bool.eq_iff_iff]
    simp [and_assoc]
  show (if mulOkB z n = true then some (Dv.str (Txt.mul z n)) else none) = _
  rw [e]
  by_cases h : -(2 ^ 63) ≤ n ∧ n < 10000 ∧ z.length ≤ 1000
  · rw [decide_eq_true h, if_pos rfl, if_pos h]
  · rw [decide_eq_false h, if_neg (by decide), if_neg h]
@[simp] theorem op_isiL {S : Sto} {l : List Dv} : isiD S [.lst l, .ty "list"] = some (.bl true) := by
  simp [isiD, tyOfD, listOf, ownOf, isiB]
@[simp] theorem op_isiB {S : Sto} {b : Bool} : isiD S [.bl b, .ty "bool"] = some (.bl true) := by
  simp [isiD, tyOfD, isiB]
/-- a list of texts, frozen or in a cell -/
structure DWs (S : Sto) (d : Dv) (ws : List Str) : Prop where
  lst : listOf S d = some (ws.map .str)
  len : lenD S [d] = some (.int ws.length)
  ix : ∀ i, ixD S d (.int i) = L2.atI (ws.map .str) i
  sl : ∀ lo hi P, Wm (slD d lo hi) S P ↔ P (.ok (.lst (cutG (ws.map .str) lo hi)) S)
  src : ∃ src : Sr, src S = some (ws.map .str) ∧ ∀ P, Wm (srcOf d) S P ↔ P (.ok src S)
  ll : ws.length ≤ sizeLine → ∀ P, Wm (listL [d]) S P ↔ P (.ok (.lst (ws.map .str)) S)
theorem DWs.of_lst {S : Sto} {ws : List Str} : DWs S (.lst (ws.map .str)) ws where
  lst := rfl
  len := by simp
  ix := fun i => by simp
  sl := fun lo hi P => by simp
  src := ⟨_, rfl, fun P => wm_srcL⟩
  ll := fun h P => by
    have e : listL [.lst (ws.map .str)] S = mkL (ws.map .str) S := rfl
    unfold Wm
    rw [e]
    have := wm_mkL (ds := ws.map .str) (S := S) (P := P)
    unfold Wm at this
    rw [this]
    simp [h]
theorem DWs.of_ref {S : Sto} {n : Nat} {ws : List Str} (h : S[n]? = some (.lst (ws.map .str))) : DWs S (.ref n) ws where
  lst := by simp [h]
  len := by simp [h]
  ix := fun i => by simp [h]
  sl := fun lo hi P => by simp [h]
  src := ⟨fun S => listOf S (.ref n), by simp [h], fun P => wm_srcRef h⟩
  ll := fun hl P => by
    have e : listL [.ref n] S = mkL (ws.map .str) S := by
      unfold listL
      have : seqOf S (.ref n) = some (ws.map .str) := by
        show listOf S (.ref n) = _
        simp [h]
      dsimp only
      rw [this]
    unfold Wm
    rw [e]
    have := wm_mkL (ds := ws.map .str) (S := S) (P := P)
    unfold Wm at this
    rw [this]
    simp [hl]
end ML


namespace L89
open PySem PySem.Spec PyProof.Rows L2 ML
abbrev fn__law_row : Nat := 0
abbrev fn__law_numbers : Nat := 1
abbrev fn_split_words : Nat := 2
abbrev fn_is_name : Nat := 3
abbrev fn_are_names : Nat := 4
abbrev fn_is_byte_word : Nat := 5
abbrev fn_is_command : Nat := 6
abbrev fn__law_word : Nat := 7
abbrev fn__law_is_name : Nat := 8
abbrev fn__law_is_byte : Nat := 9
abbrev fn__law_formed : Nat := 10
abbrev fn__law_all_names : Nat := 11
abbrev fn__law_command : Nat := 12
abbrev fn_law : Nat := 13
def k_PLAIN : List (Str × Dv) := [("shape", (.int 1)), ("cut", (.int 2)), ("drop", (.int 1)), ("remove", (.int 1)), ("undo", (.int 0)), ("redo", (.int 0)), ("answer", (.int 1)), ("answers", (.int 0)), ("print", (.int 1))]
/-! ### mirrors -/
noncomputable def m__law_row (c : Nat → List Dv → M Dv) : SF :=
    sSeq (sSet 2 (eArg aNil mkC))
    (sSeq (sSet 3 (eArg (aCons (getv 0) aNil) (opA absD)))
    (sSeq (sSet 4 (eOp modD (eArg (aCons (eOp addD (eOp mulD (getv 3) (eC (.int 48271))) (eC (.int 69621))) aNil) (opA intD)) (eC (.int 2147483647))))
    (sSeq (sFor (iArg (aCons (getv 1) aNil) rng1M) (gSet 5) (sSeq (sSet 4 (eOp modD (eArg (aCons (eOp addD (eOp mulD (getv 4) (eC (.int 16807))) (eOp mulD (eC (.int 271)) (eOp addD (getv 5) (eC (.int 3))))) aNil) (opA intD)) (eC (.int 2147483629))))
    (sIf (tB (eOp geD (eArg (aCons (getv 0) aNil) (opA absD)) (eOp powD (eC (.int 10)) (eC (.int 18))))) (sSeq (sExp (eMt "list" (getv 2) (aCons (eOp modD (eArg (aCons (getv 3) aNil) (opA intD)) (eC (.int 1009))) aNil) (appendM)))
    (sSet 3 (eOp fdivD (getv 3) (eC (.int 1009))))) (sExp (eMt "list" (getv 2) (aCons (eOp modD (eArg (aCons (eOp fdivD (getv 4) (eC (.int 7))) aNil) (opA intD)) (eC (.int 1009))) aNil) (appendM))))))
    (sRet (getv 2)))))
noncomputable def m__law_numbers (c : Nat → List Dv → M Dv) : SF :=
    sSeq (sSet 2 (eSl slD (getv 0) oNone (oSome (eC (.int 63)))))
    (sSeq (sSet 3 (eOp addD (eC (.int 1)) (eOp fdivD (getv 1) (eArg (aCons (eC (.int 1)) (aCons (eArg (aCons (getv 2) aNil) (opA lenD)) aNil)) (opA max2D)))))
    (sSeq (sSet 4 (eArg aNil mkC))
    (sSeq (sFor (iVal (getv 2)) (gSet 5) (sFor (iVal (eArg (aCons (getv 5) (aCons (getv 3) aNil)) (c fn__law_row))) (gSet 6) (sExp (eMt "list" (getv 4) (aCons (getv 6) aNil) (appendM)))))
    (sSeq (whileL (tB (eOp ltD (eArg (aCons (getv 4) aNil) (opA lenD)) (getv 1))) (sExp (eMt "list" (getv 4) (aCons (eC (.int 0)) aNil) (appendM))) 1000000)
    (sRet (eSl slD (getv 4) oNone (oSome (getv 1))))))))
noncomputable def m_split_words (c : Nat → List Dv → M Dv) : SF :=
    sRet (lcF (iVal (eMt "str" (getv 0) (aCons (eC (.str " ")) aNil) (opM splitD))) [1] (gSet 1) (tB (eOp neD (getv 1) (eC (.str "")))) (getv 1))
noncomputable def m_is_name (c : Nat → List Dv → M Dv) : SF :=
    sSeq (sIf ((tOr2 (tNot1 (tB (chainF leD leD (eC (.int 1)) (eArg (aCons (getv 0) aNil) (opA lenD)) (eC (.int 12))))) (tB (eOp inD (eOp ixD (getv 0) (eC (.int 0))) (eC (.str "0123456789")))))) (sRet (eC (.bl false))) (sNil))
    (sRet (eArg (aCons (lcF (iVal (getv 0)) [1] (gSet 1) tYes' (eOp inD (getv 1) (eC (.str "abcdefghijklmnopqrstuvwxyz0123456789")))) aNil) (opA allD)))
noncomputable def m_are_names (c : Nat → List Dv → M Dv) : SF :=
    sRet (eArg (aCons (lcF (iVal (getv 0)) [1] (gSet 1) tYes' (eArg (aCons (getv 1) aNil) (c fn_is_name))) aNil) (opA allD))
noncomputable def m_is_byte_word (c : Nat → List Dv → M Dv) : SF :=
    sSeq (sIf ((tOr2 (tNot1 (tB (chainF leD leD (eC (.int 1)) (eArg (aCons (getv 0) aNil) (opA lenD)) (eC (.int 3))))) (tNot1 (tTru (eArg (aCons (lcF (iVal (getv 0)) [1] (gSet 1) tYes' (eOp inD (getv 1) (eC (.str "0123456789")))) aNil) (opA allD)))))) (sRet (eC (.bl false))) (sNil))
    (sRet ((eAnd ((eOr (eOp eqD (getv 0) (eC (.str "0"))) (eOp neD (eOp ixD (getv 0) (eC (.int 0))) (eC (.str "0"))))) (eOp leD (eArg (aCons (getv 0) aNil) (opA intD)) (eC (.int 255))))))
noncomputable def m_is_command (c : Nat → List Dv → M Dv) : SF :=
    sSeq (sIf (tB (eBnd (eOp ixD (getv 0) (eC (.int 0))) (inKM k_PLAIN false))) (sRet ((eAnd (eOp eqD (eArg (aCons (getv 0) aNil) (opA lenD)) (eOp addD (eC (.int 1)) (eBnd (eOp ixD (getv 0) (eC (.int 0))) (getKM k_PLAIN)))) (eArg (aCons (eSl slD (getv 0) (oSome (eC (.int 1))) oNone) aNil) (c fn_are_names))))) (sNil))
    (sSeq (sIf (tB (eOp eqD (eOp ixD (getv 0) (eC (.int 0))) (eC (.str "ask")))) (sRet ((eAnd (eOp gtD (eArg (aCons (getv 0) aNil) (opA lenD)) (eC (.int 3))) (eArg (aCons (eSl slD (getv 0) (oSome (eC (.int 1))) oNone) aNil) (c fn_are_names))))) (sNil))
    (sSeq (sIf (tB (eOp eqD (eOp ixD (getv 0) (eC (.int 0))) (eC (.str "read")))) (sRet ((eAnd (eOp gtD (eArg (aCons (getv 0) aNil) (opA lenD)) (eC (.int 1))) (eAnd (eArg (aCons (eOp ixD (getv 0) (eC (.int 1))) aNil) (c fn_is_name)) (eArg (aCons (lcF (iVal (eSl slD (getv 0) (oSome (eC (.int 2))) oNone)) [1] (gSet 1) tYes' (eArg (aCons (getv 1) aNil) (c fn_is_byte_word))) aNil) (opA allD)))))) (sNil))
    (sRet ((eAnd (eOp eqD (eOp ixD (getv 0) (eC (.int 0))) (eC (.str "show"))) (eAnd (eOp eqD (eArg (aCons (getv 0) aNil) (opA lenD)) (eC (.int 2))) (eOp inD (eOp ixD (getv 0) (eC (.int 1))) (eC (.tup [(.str "shapes"), (.str "questions")])))))))))
noncomputable def m__law_word (c : Nat → List Dv → M Dv) : SF :=
    sSeq (sSet 2 (eArg (aCons (eC (.str "shape")) (aCons (eC (.str "drop")) (aCons (eC (.str "remove")) (aCons (eC (.str "undo")) (aCons (eC (.str "redo")) (aCons (eC (.str "answer")) (aCons (eC (.str "answers")) (aCons (eC (.str "print")) (aCons (eC (.str "cut")) (aCons (eC (.str "ask")) (aCons (eC (.str "read")) (aCons (eC (.str "show")) aNil)))))))))))) mkT))
    (sSeq (sSet 2 (eOp addD (getv 2) (eArg (aCons (eC (.str "shapes")) (aCons (eC (.str "questions")) (aCons (eC (.str "done")) (aCons (eC (.str "ways")) (aCons (eC (.str "covers")) (aCons (eC (.str "0")) (aCons (eC (.str "255")) (aCons (eC (.str "256")) (aCons (eC (.str "00")) (aCons (eC (.str "+1")) (aCons (eC (.str "1_0")) aNil))))))))))) mkT)))
    (sSeq (sIf (tB (eOp eqD (eOp modD (eArg (aCons (getv 0) aNil) (opA intD)) (eC (.int 4))) (eC (.int 0)))) (sRet (eOp ixD (getv 2) (eOp modD (eOp fdivD (getv 0) (eC (.int 4))) (eC (.int 23))))) (sNil))
    (sSeq (sSet 3 (eC (.str "abcdefghijklmnopqrstuvwxyz0123456789")))
    (sSeq (sSet 4 (eOp addD (eC (.int 1)) (eOp modD (eOp fdivD (getv 0) (eC (.int 4))) (eC (.int 4)))))
    (sSeq (sIf (tB (eOp eqD (eOp modD (eArg (aCons (getv 0) aNil) (opA intD)) (eC (.int 4))) (eC (.int 1)))) (sRet (eMt "str" (eC (.str "")) (aCons (lcF (iArg (aCons (getv 4) aNil) rng1M) [5] (gSet 5) tYes' (eOp ixD (getv 3) (eOp addD (eC (.int 26)) (eOp modD (eArg (aCons (eOp addD (eOp addD (getv 1) (eOp mulD (getv 5) (getv 5))) (eOp fdivD (getv 0) (eC (.int 20)))) aNil) (opA intD)) (eC (.int 10)))))) aNil) (opM joinD))) (sNil))
    (sSeq (sSet 6 (eMt "str" (eC (.str "")) (aCons (lcF (iArg (aCons (eOp addD (getv 4) (eOp modD (eOp fdivD (getv 0) (eC (.int 20))) (eC (.int 11)))) aNil) rng1M) [5] (gSet 5) tYes' (eOp ixD (getv 3) (eOp modD (eArg (aCons (eOp addD (eOp addD (getv 1) (eOp mulD (eOp mulD (eC (.int 11)) (getv 5)) (getv 0))) (getv 5)) aNil) (opA intD)) (eC (.int 36))))) aNil) (opM joinD)))
    (sSeq (sIf (tB (eOp eqD (eOp modD (eArg (aCons (getv 1) aNil) (opA intD)) (eC (.int 7))) (eC (.int 0)))) (sRet (eOp addD (eOp addD (eSl slD (getv 6) oNone (oSome (eC (.int 2)))) (eC (.str "_"))) (eSl slD (getv 6) (oSome (eC (.int 2))) oNone))) (sNil))
    (sSeq (sIf (tB (eOp eqD (eOp modD (eArg (aCons (getv 1) aNil) (opA intD)) (eC (.int 7))) (eC (.int 1)))) (sRet (eOp addD (getv 6) (eC (.str "A")))) (sNil))
    (sRet (getv 6))))))))))
noncomputable def m__law_is_name (c : Nat → List Dv → M Dv) : SF :=
    sSeq (sIf ((tOr2 (tB (eOp ltD (eArg (aCons (getv 0) aNil) (opA lenD)) (eC (.int 1)))) (tOr2 (tB (eOp gtD (eArg (aCons (getv 0) aNil) (opA lenD)) (eC (.int 12)))) (tB (eOp ninD (eOp ixD (getv 0) (eC (.int 0))) (eC (.str "abcdefghijklmnopqrstuvwxyz"))))))) (sRet (eC (.bl false))) (sNil))
    (sSeq (sFor (iVal (getv 0)) (gSet 1) (sIf (tB (eOp ninD (getv 1) (eC (.str "abcdefghijklmnopqrstuvwxyz0123456789")))) (sRet (eC (.bl false))) (sNil)))
    (sRet (eC (.bl true))))
noncomputable def m__law_is_byte (c : Nat → List Dv → M Dv) : SF :=
    sRet (eOp inD (getv 0) (lcF (iArg (aCons (eC (.int 256)) aNil) rng1M) [1] (gSet 1) tYes' (eArg (aCons (getv 1) aNil) (opA strD))))
noncomputable def m__law_formed (c : Nat → List Dv → M Dv) : SF :=
    sSeq (sSet 3 (eOp addD (lcF (iVal (getv 0)) [4] (gSet 4) (tTru (eArg (aCons (getv 4) aNil) (c fn__law_is_name))) (getv 4)) (eArg (aCons (eC (.str "a")) (aCons (eC (.str "b")) (aCons (eC (.str "c")) (aCons (eC (.str "d")) (aCons (eC (.str "e")) aNil))))) mkL)))
    (sSeq (sSet 5 (eOp addD (lcF (iVal (getv 0)) [4] (gSet 4) (tTru (eArg (aCons (getv 4) aNil) (c fn__law_is_byte))) (getv 4)) (eArg (aCons (eC (.str "0")) (aCons (eC (.str "9")) (aCons (eC (.str "255")) aNil))) mkL)))
    (sSeq (sSet 6 (eArg (aCons (eArg (aCons (eC (.str "shape")) (aCons (eOp ixD (getv 3) (eC (.int 0))) aNil)) mkL) (aCons (eArg (aCons (eC (.str "drop")) (aCons (eOp ixD (getv 3) (eC (.int 0))) aNil)) mkL) (aCons (eArg (aCons (eC (.str "remove")) (aCons (eOp ixD (getv 3) (eC (.int 0))) aNil)) mkL) (aCons (eArg (aCons (eC (.str "undo")) aNil) mkL) (aCons (eArg (aCons (eC (.str "redo")) aNil) mkL) (aCons (eArg (aCons (eC (.str "answers")) aNil) mkL) aNil)))))) mkT))
    (sSeq (sSet 6 (eOp addD (getv 6) (eArg (aCons (eArg (aCons (eC (.str "answer")) (aCons (eOp ixD (getv 3) (eC (.int 0))) aNil)) mkL) (aCons (eArg (aCons (eC (.str "print")) (aCons (eOp ixD (getv 3) (eC (.int 0))) aNil)) mkL) (aCons (eArg (aCons (eC (.str "show")) (aCons (eOp ixD (eArg (aCons (eC (.str "shapes")) (aCons (eC (.str "questions")) aNil)) mkT) (eOp modD (eArg (aCons (getv 2) aNil) (opA intD)) (eC (.int 2)))) aNil)) mkL) aNil))) mkT)))
    (sSeq (sSet 6 (eOp addD (getv 6) (eArg (aCons (eArg (aCons (eC (.str "cut")) (aCons (eOp ixD (getv 3) (eC (.int 0))) (aCons (eOp ixD (getv 3) (eC (.int 1))) aNil))) mkL) (aCons (eOp addD (eArg (aCons (eC (.str "ask")) (aCons (eOp ixD (getv 3) (eC (.int 0))) (aCons (eOp ixD (getv 3) (eC (.int 1))) aNil))) mkL) (eSl slD (getv 3) (oSome (eC (.int 2))) (oSome (eOp addD (eC (.int 3)) (eOp modD (eArg (aCons (getv 2) aNil) (opA intD)) (eC (.int 3))))))) aNil)) mkT)))
    (sSeq (sSet 6 (eOp addD (getv 6) (eArg (aCons (eOp addD (eArg (aCons (eC (.str "read")) (aCons (eOp ixD (getv 3) (eC (.int 0))) aNil)) mkL) (eSl slD (getv 5) oNone (oSome (eOp modD (eArg (aCons (getv 2) aNil) (opA intD)) (eC (.int 4)))))) aNil) mkT)))
    (sRet (eArg (aCons (eOp ixD (getv 6) (eOp modD (eArg (aCons (getv 1) aNil) (opA intD)) (eC (.int 12)))) aNil) (listC))))))))
noncomputable def m__law_all_names (c : Nat → List Dv → M Dv) : SF :=
    sSeq (sFor (iVal (getv 0)) (gSet 1) (sIf (tNot1 (tTru (eArg (aCons (getv 1) aNil) (c fn__law_is_name)))) (sRet (eC (.bl false))) (sNil)))
    (sRet (eC (.bl true)))
noncomputable def m__law_command (c : Nat → List Dv → M Dv) : SF :=
    sSeq (sSet 1 (eOp ixD (getv 0) (eC (.int 0))))
    (sSeq (sSet 2 (eSl slD (getv 0) (oSome (eC (.int 1))) oNone))
    (sSeq (sIf ((tOr2 (tB (eOp eqD (getv 1) (eC (.str "undo")))) (tOr2 (tB (eOp eqD (getv 1) (eC (.str "redo")))) (tB (eOp eqD (getv 1) (eC (.str "answers"))))))) (sRet (eOp eqD (eArg (aCons (getv 2) aNil) (opA lenD)) (eC (.int 0)))) (sNil))
    (sSeq (sIf (tB (eOp inD (getv 1) (eArg (aCons (eC (.str "shape")) (aCons (eC (.str "drop")) (aCons (eC (.str "remove")) (aCons (eC (.str "answer")) (aCons (eC (.str "print")) aNil))))) mkT))) (sRet ((eAnd (eOp eqD (eArg (aCons (getv 2) aNil) (opA lenD)) (eC (.int 1))) (eArg (aCons (eOp ixD (getv 2) (eC (.int 0))) aNil) (c fn__law_is_name))))) (sNil))
    (sSeq (sIf (tB (eOp eqD (getv 1) (eC (.str "cut")))) (sRet ((eAnd (eOp eqD (eArg (aCons (getv 2) aNil) (opA lenD)) (eC (.int 2))) (eArg (aCons (getv 2) aNil) (c fn__law_all_names))))) (sNil))
    (sSeq (sIf (tB (eOp eqD (getv 1) (eC (.str "ask")))) (sRet ((eAnd (eOp gtD (eArg (aCons (getv 2) aNil) (opA lenD)) (eC (.int 2))) (eArg (aCons (getv 2) aNil) (c fn__law_all_names))))) (sNil))
    (sSeq (sIf (tB (eOp eqD (getv 1) (eC (.str "show")))) (sRet ((eAnd (eOp eqD (eArg (aCons (getv 2) aNil) (opA lenD)) (eC (.int 1))) ((eOr (eOp eqD (eOp ixD (getv 2) (eC (.int 0))) (eC (.str "shapes"))) (eOp eqD (eOp ixD (getv 2) (eC (.int 0))) (eC (.str "questions")))))))) (sNil))
    (sSeq (sIf ((tOr2 (tB (eOp neD (getv 1) (eC (.str "read")))) (tOr2 (tB (eOp eqD (eArg (aCons (getv 2) aNil) (opA lenD)) (eC (.int 0)))) (tNot1 (tTru (eArg (aCons (eOp ixD (getv 2) (eC (.int 0))) aNil) (c fn__law_is_name))))))) (sRet (eC (.bl false))) (sNil))
    (sSeq (sFor (iVal (eSl slD (getv 2) (oSome (eC (.int 1))) oNone)) (gSet 3) (sIf (tNot1 (tTru (eArg (aCons (getv 3) aNil) (c fn__law_is_byte)))) (sRet (eC (.bl false))) (sNil)))
    (sRet (eC (.bl true)))))))))))
noncomputable def m_law (c : Nat → List Dv → M Dv) : SF :=
    sSeq (sSet 1 (eArg (aCons (getv 0) (aCons (eC (.int 50)) aNil)) (c fn__law_numbers)))
    (sSeq (sSet 2 (lcF (iArg (aCons (eOp addD (eC (.int 1)) (eOp modD (eArg (aCons (eOp ixD (getv 1) (eC (.int 40))) aNil) (opA intD)) (eC (.int 8)))) aNil) rng1M) [3] (gSet 3) tYes' (eArg (aCons (eOp ixD (getv 1) (eOp mulD (eC (.int 2)) (getv 3))) (aCons (eOp ixD (getv 1) (eOp addD (eOp mulD (eC (.int 2)) (getv 3)) (eC (.int 1)))) aNil)) (c fn__law_word))))
    (sSeq (sIf (tB (eOp gtD (eOp modD (eArg (aCons (eOp ixD (getv 1) (eC (.int 41))) aNil) (opA intD)) (eC (.int 3))) (eC (.int 0)))) (sSeq (sSet 4 (eArg (aCons (getv 2) (aCons (eOp ixD (getv 1) (eC (.int 42))) (aCons (eOp ixD (getv 1) (eC (.int 43))) aNil))) (c fn__law_formed)))
    (sSeq (sSet 5 (eOp modD (eArg (aCons (eOp ixD (getv 1) (eC (.int 44))) aNil) (opA intD)) (eArg (aCons (getv 4) aNil) (opA lenD))))
    (sSeq (sIf (tB (eOp eqD (eOp modD (eArg (aCons (eOp ixD (getv 1) (eC (.int 41))) aNil) (opA intD)) (eC (.int 9))) (eC (.int 1)))) (sAsg (gSub (getv 4) (getv 5)) (eOp ixD (getv 2) (eC (.int 0)))) (sNil))
    (sSeq (sIf ((tAnd2 (tB (eOp eqD (eOp modD (eArg (aCons (eOp ixD (getv 1) (eC (.int 41))) aNil) (opA intD)) (eC (.int 9))) (eC (.int 2)))) (tB (eOp gtD (eArg (aCons (getv 4) aNil) (opA lenD)) (eC (.int 1)))))) (sSet 4 (eOp addD (eSl slD (getv 4) oNone (oSome (getv 5))) (eSl slD (getv 4) (oSome (eOp addD (getv 5) (eC (.int 1)))) oNone))) (sNil))
    (sSeq (sIf (tB (eOp eqD (eOp modD (eArg (aCons (eOp ixD (getv 1) (eC (.int 41))) aNil) (opA intD)) (eC (.int 9))) (eC (.int 4)))) (sExp (eMt "list" (getv 4) (aCons (eOp ixD (getv 2) (eC (.int 0))) aNil) (appendM))) (sNil))
    (sSet 2 (getv 4))))))) (sNil))
    (sSeq (sSet 6 (eOp mulD (eC (.str " ")) (eOp modD (eArg (aCons (eOp ixD (getv 1) (eC (.int 45))) aNil) (opA intD)) (eC (.int 3)))))
    (sSeq (sFor (iArg (aCons (eArg (aCons (getv 2) aNil) (opA lenD)) aNil) rng1M) (gSet 3) (sSeq (sSet 6 (eOp addD (getv 6) (eOp ixD (getv 2) (getv 3))))
    (sIf (tB (eOp ltD (eOp addD (getv 3) (eC (.int 1))) (eArg (aCons (getv 2) aNil) (opA lenD)))) (sSet 6 (eOp addD (getv 6) (eOp mulD (eC (.str " ")) (eOp addD (eC (.int 1)) (eOp modD (eArg (aCons (eOp addD (eOp ixD (getv 1) (eC (.int 46))) (eOp mulD (getv 3) (eOp ixD (getv 1) (eC (.int 47))))) aNil) (opA intD)) (eC (.int 3))))))) (sNil))))
    (sSeq (sSet 6 (eOp addD (getv 6) (eOp mulD (eC (.str " ")) (eOp modD (eArg (aCons (eOp ixD (getv 1) (eC (.int 48))) aNil) (opA intD)) (eC (.int 3))))))
    (sSeq (sSet 7 (eArg (aCons (getv 6) aNil) (c fn_split_words)))
    (sSeq (sIf ((tOr2 (tNot1 (tTru (eArg (aCons (getv 7) (aCons (eC (.ty "list")) aNil)) (opA isiD)))) (tOr2 (tB (eOp neD (getv 7) (getv 2))) (tB (eOp neD (eArg (aCons (eOp mulD (eC (.str " ")) (eOp modD (eArg (aCons (eOp ixD (getv 1) (eC (.int 49))) aNil) (opA intD)) (eC (.int 4)))) aNil) (c fn_split_words)) (eArg aNil mkL)))))) (sRet (eC (.bl false))) (sNil))
    (sSeq (sIf (tB (eOp neD (eArg (aCons (eC (.str "a\tb \t")) aNil) (c fn_split_words)) (eArg (aCons (eC (.str "a\tb")) (aCons (eC (.str "\t")) aNil)) mkL))) (sRet (eC (.bl false))) (sNil))
    (sSeq (sFor (iVal (getv 2)) (gSet 8) (sSeq (sSet 9 (eArg (aCons (getv 8) aNil) (c fn_is_byte_word)))
    (sIf ((tOr2 (tNot1 (tTru (eArg (aCons (getv 9) (aCons (eC (.ty "bool")) aNil)) (opA isiD)))) (tB (eOp neD (getv 9) (eArg (aCons (getv 8) aNil) (c fn__law_is_byte)))))) (sRet (eC (.bl false))) (sNil))))
    (sSeq (sSet 10 (eArg (aCons (getv 2) aNil) (listL)))
    (sSeq (sSet 9 (eArg (aCons (getv 10) aNil) (c fn_is_command)))
    (sRet ((eAnd (eArg (aCons (getv 9) (aCons (eC (.ty "bool")) aNil)) (opA isiD)) (eAnd (eOp eqD (getv 9) (eArg (aCons (getv 2) aNil) (c fn__law_command))) (eOp eqD (getv 10) (getv 2)))))))))))))))))
noncomputable def run : Nat → Nat → List Dv → M Dv
  | 0, _ => fun _ => stuck
  | k + 1, n => match n with
    | 0 => defM true 6 (m__law_row (run k))
    | 1 => defM true 7 (m__law_numbers (run k))
    | 2 => defM true 2 (m_split_words (run k))
    | 3 => defM true 2 (m_is_name (run k))
    | 4 => defM true 2 (m_are_names (run k))
    | 5 => defM true 2 (m_is_byte_word (run k))
    | 6 => defM true 2 (m_is_command (run k))
    | 7 => defM true 7 (m__law_word (run k))
    | 8 => defM true 2 (m__law_is_name (run k))
    | 9 => defM true 2 (m__law_is_byte (run k))
    | 10 => defM false 7 (m__law_formed (run k))
    | 11 => defM true 2 (m__law_all_names (run k))
    | 12 => defM true 4 (m__law_command (run k))
    | 13 => defM true 11 (m_law (run k))
    | _ => fun _ => stuck

end L89

namespace L89
open PySem PySem.Spec PyProof.Rows L2 ML
def topS (i : Nat) : Stmt := PySem.Challenge.pw_byteshape_k89_words_of_a_session.main.body.getD i (.Pass ⟨0, 0, 0, 0⟩)
abbrev s__law_row : Stmt := topS 13
abbrev s__law_numbers : Stmt := topS 14
abbrev s_split_words : Stmt := topS 8
abbrev s_is_name : Stmt := topS 3
abbrev s_are_names : Stmt := topS 10
abbrev s_is_byte_word : Stmt := topS 9
abbrev s_is_command : Stmt := topS 11
abbrev s__law_word : Stmt := topS 15
abbrev s__law_is_name : Stmt := topS 17
abbrev s__law_is_byte : Stmt := topS 18
abbrev s__law_formed : Stmt := topS 16
abbrev s__law_all_names : Stmt := topS 19
abbrev s__law_command : Stmt := topS 20
abbrev s_law : Stmt := topS 21
/-- what the walks ask of the module -/
structure Txt (K : PySem.W.Frag) (mg : Str → Option Value) (w : World) : Prop where
  n_abs : mg "abs" = none
  n_all : mg "all" = none
  n_bool : mg "bool" = none
  n_int : mg "int" = none
  n_isinstance : mg "isinstance" = none
  n_len : mg "len" = none
  n_list : mg "list" = none
  n_max : mg "max" = none
  n_range : mg "range" = none
  n_str : mg "str" = none
  c_DIGITS : KC K mg "DIGITS" (.str "0123456789")
  c_MOST_NAME_CHARS : KC K mg "MOST_NAME_CHARS" (.int 12)
  c_NAME_CHARS : KC K mg "NAME_CHARS" (.str "abcdefghijklmnopqrstuvwxyz0123456789")
  c_SHOWN : KC K mg "SHOWN" (.tup [(.str "shapes"), (.str "questions")])
  d_PLAIN : KTab K mg w "PLAIN" k_PLAIN
structure Tab (P : Program) (w : World) (K : PySem.W.Frag) (mg : Str → Option Value) (base : Heap) (j : Nat) (c : Nat → List Dv → M Dv) : Prop where
  _law_row : FnE P w K mg base j "_law_row" 2 (c fn__law_row)
  _law_numbers : FnE P w K mg base j "_law_numbers" 2 (c fn__law_numbers)
  split_words : FnE P w K mg base j "split_words" 1 (c fn_split_words)
  is_name : FnE P w K mg base j "is_name" 1 (c fn_is_name)
  are_names : FnE P w K mg base j "are_names" 1 (c fn_are_names)
  is_byte_word : FnE P w K mg base j "is_byte_word" 1 (c fn_is_byte_word)
  is_command : FnE P w K mg base j "is_command" 1 (c fn_is_command)
  _law_word : FnE P w K mg base j "_law_word" 2 (c fn__law_word)
  _law_is_name : FnE P w K mg base j "_law_is_name" 1 (c fn__law_is_name)
  _law_is_byte : FnE P w K mg base j "_law_is_byte" 1 (c fn__law_is_byte)
  _law_formed : FnE P w K mg base j "_law_formed" 3 (c fn__law_formed)
  _law_all_names : FnE P w K mg base j "_law_all_names" 1 (c fn__law_all_names)
  _law_command : FnE P w K mg base j "_law_command" 1 (c fn__law_command)
  law : FnE P w K mg base j "law" 1 (c fn_law)
section
variable {P : Program} {w : World} {K : PySem.W.Frag} {mg : Str → Option Value} {base : Heap}
theorem sc__law_row : FnScope ["_law_cell", "_law_many", "_law_row_here", "_law_rest", "_law_mixed", "_law_k"] ["_law_cell", "_law_many"] (defScope s__law_row) := ⟨rfl, rfl, rfl, by decide +kernel, rfl, by decide +kernel, by decide +kernel⟩
theorem ok__law_row {f : Addr} {fd : FuncData} (F : Fun K "_law_row" "_law_row" s__law_row f fd) (T : Txt K mg w) {j : Nat} {c : Nat → List Dv → M Dv} (C : Tab P w K mg base j c) : FnOk P w K mg base (L2.CX P w) (j + 2) f fd ["_law_cell", "_law_many"] (spOf ⟨K, mg⟩ 2 (defM true 6 (m__law_row c))) :=
  fn_ok (k := j + 1) F sc__law_row fun cdv A outer s H E hr ct hp => have hc : Room j _ := hr.mono (Nat.le_succ j)
    dss_cons (ds_set ct rfl (by first | exact Or.inl rfl | exact Or.inr rfl) (de_lstC da_nil))
    (dss_cons (ds_set ct rfl (by first | exact Or.inl rfl | exact Or.inr rfl) (de_callB cd_abs T.n_abs (by decide +kernel) (da_cons (dv 0) da_nil)))
    (dss_cons (ds_set ct rfl (by first | exact Or.inl rfl | exact Or.inr rfl) (de_op od_mod (de_callTy cd_int T.n_int (by decide +kernel) (da_cons (de_op od_add (de_op od_mul (dv 3) (de_int)) (de_int)) da_nil)) (de_int)))
    (dss_cons (ds_for ct hp (di_range1 T.n_range (da_cons (dv 1) da_nil)) (dg_name ct.nd rfl (by first | exact Or.inl rfl | exact Or.inr rfl)) (dss_cons (ds_set ct rfl (by first | exact Or.inl rfl | exact Or.inr rfl) (de_op od_mod (de_callTy cd_int T.n_int (by decide +kernel) (da_cons (de_op od_add (de_op od_mul (dv 4) (de_int)) (de_op od_mul (de_int) (de_op od_add (dv 5) (de_int)))) da_nil)) (de_int)))
    (dss_one (ds_if (dt_cmp od_ge (de_callB cd_abs T.n_abs (by decide +kernel) (da_cons (dv 0) da_nil)) (de_op od_pow (de_int) (de_int)) (nomark _)) (dss_cons (ds_expr (de_bm PySem.F.plainAttrs_list PySem.F.slot_list_append PySem.F.type_list_append md_append (dv 2) (da_cons (de_op od_mod (de_callTy cd_int T.n_int (by decide +kernel) (da_cons (dv 3) da_nil)) (de_int)) da_nil)))
    (dss_one (ds_set ct rfl (by first | exact Or.inl rfl | exact Or.inr rfl) (de_op od_fdiv (dv 3) (de_int))))) (dss_one (ds_expr (de_bm PySem.F.plainAttrs_list PySem.F.slot_list_append PySem.F.type_list_append md_append (dv 2) (da_cons (de_op od_mod (de_callTy cd_int T.n_int (by decide +kernel) (da_cons (de_op od_fdiv (dv 4) (de_int)) da_nil)) (de_int)) da_nil))))))))
    (dss_one (ds_ret (dv 2))))))
theorem sc__law_numbers : FnScope ["_law_script", "_law_many", "_law_cells", "_law_each", "_law_numbers_here", "_law_cell", "_law_number"] ["_law_script", "_law_many"] (defScope s__law_numbers) := ⟨rfl, rfl, rfl, by decide +kernel, rfl, by decide +kernel, by decide +kernel⟩
theorem ok__law_numbers {f : Addr} {fd : FuncData} (F : Fun K "_law_numbers" "_law_numbers" s__law_numbers f fd) (T : Txt K mg w) {j : Nat} {c : Nat → List Dv → M Dv} (C : Tab P w K mg base j c) : FnOk P w K mg base (L2.CX P w) (j + 2) f fd ["_law_script", "_law_many"] (spOf ⟨K, mg⟩ 2 (defM true 7 (m__law_numbers c))) :=
  fn_ok (k := j + 1) F sc__law_numbers fun cdv A outer s H E hr ct hp => have hc : Room j _ := hr.mono (Nat.le_succ j)
    dss_cons (ds_set ct rfl (by first | exact Or.inl rfl | exact Or.inr rfl) (de_slice sd_sl (dv 0) do_none (do_some (de_int))))
    (dss_cons (ds_set ct rfl (by first | exact Or.inl rfl | exact Or.inr rfl) (de_op od_add (de_int) (de_op od_fdiv (dv 1) (de_callB (cd_max2 ct) T.n_max (by decide +kernel) (da_cons (de_int) (da_cons (de_callB cd_len T.n_len (by decide +kernel) (da_cons (dv 2) da_nil)) da_nil))))))
    (dss_cons (ds_set ct rfl (by first | exact Or.inl rfl | exact Or.inr rfl) (de_lstC da_nil))
    (dss_cons (ds_for ct hp (di_val (dv 2)) (dg_name ct.nd rfl (by first | exact Or.inl rfl | exact Or.inr rfl)) (dss_one (ds_for ct hp (di_val (de_call ct C._law_row hc (da_cons (dv 5) (da_cons (dv 3) da_nil)))) (dg_name ct.nd rfl (by first | exact Or.inl rfl | exact Or.inr rfl)) (dss_one (ds_expr (de_bm PySem.F.plainAttrs_list PySem.F.slot_list_append PySem.F.type_list_append md_append (dv 4) (da_cons (dv 6) da_nil)))))))
    (dss_cons (ds_while 1000000 hp (dt_cmp od_lt (de_callB cd_len T.n_len (by decide +kernel) (da_cons (dv 4) da_nil)) (dv 1) (nomark _)) (dss_one (ds_expr (de_bm PySem.F.plainAttrs_list PySem.F.slot_list_append PySem.F.type_list_append md_append (dv 4) (da_cons (de_int) da_nil)))))
    (dss_one (ds_ret (de_slice sd_sl (dv 4) do_none (do_some (dv 1)))))))))
theorem sc_split_words : FnScope ["line", "word"] ["line"] (defScope s_split_words) := ⟨rfl, rfl, rfl, by decide +kernel, rfl, by decide +kernel, by decide +kernel⟩
theorem ok_split_words {f : Addr} {fd : FuncData} (F : Fun K "split_words" "split_words" s_split_words f fd) (T : Txt K mg w) {j : Nat} {c : Nat → List Dv → M Dv} (C : Tab P w K mg base j c) : FnOk P w K mg base (L2.CX P w) (j + 2) f fd ["line"] (spOf ⟨K, mg⟩ 1 (defM true 2 (m_split_words c))) :=
  fn_ok (k := j + 1) F sc_split_words fun cdv A outer s H E hr ct hp => have hc : Room j _ := hr.mono (Nat.le_succ j)
    dss_one (ds_ret (de_lc (own := [("word", 1)]) ct (di_val (de_bm PySem.F.plainAttrs_str PySem.F.slot_str_split PySem.F.type_str_split md_split (dv 0) (da_cons (de_str) da_nil))) (blk_of (fun s1 H1 C1 l1 p1 => (dg_name (ct.blk s1 H1 _ _ p1).nd rfl (by first | exact Or.inl rfl | exact Or.inr rfl))) (fun s1 H1 C1 l1 p1 => (dts_one (dt_cmp (od_ne (ct.blk s1 H1 _ _ p1)) (dv 1) (de_str) (nomark _)))) (fun s1 H1 C1 l1 p1 => (dv 1))) (by show blkC ["line", "word"] (defScope s_split_words) _ [("word", 1)] = true; decide +kernel)))
theorem sc_is_name : FnScope ["text", "char"] ["text"] (defScope s_is_name) := ⟨rfl, rfl, rfl, by decide +kernel, rfl, by decide +kernel, by decide +kernel⟩
theorem ok_is_name {f : Addr} {fd : FuncData} (F : Fun K "is_name" "is_name" s_is_name f fd) (T : Txt K mg w) {j : Nat} {c : Nat → List Dv → M Dv} (C : Tab P w K mg base j c) : FnOk P w K mg base (L2.CX P w) (j + 2) f fd ["text"] (spOf ⟨K, mg⟩ 1 (defM true 2 (m_is_name c))) :=
  fn_ok (k := j + 1) F sc_is_name fun cdv A outer s H E hr ct hp => have hc : Room j _ := hr.mono (Nat.le_succ j)
    dss_cons (ds_if (dt_w (dw_or (dt_not (dt_chain2 od_le od_le (de_int) (de_callB cd_len T.n_len (by decide +kernel) (da_cons (dv 0) da_nil)) (de_kc T.c_MOST_NAME_CHARS))) (dw_or1 (dt_cmp od_in (de_ix id_seq (dv 0) (de_int)) (de_str) (by rfl))))) (dss_one (ds_ret (de_bl))) (dss_nil))
    (dss_one (ds_ret (de_callB (cd_all ct) T.n_all (by decide +kernel) (da_cons (de_lc (own := [("char", 1)]) ct (di_val (dv 0)) (blk_of (fun s1 H1 C1 l1 p1 => (dg_name (ct.blk s1 H1 _ _ p1).nd rfl (by first | exact Or.inl rfl | exact Or.inr rfl))) (fun s1 H1 C1 l1 p1 => dts_nil) (fun s1 H1 C1 l1 p1 => (de_cmp od_in (dv 1) (de_kc T.c_NAME_CHARS) (by rfl)))) (by show blkC ["text", "char"] (defScope s_is_name) _ [("char", 1)] = true; decide +kernel)) da_nil))))
theorem sc_are_names : FnScope ["words", "word"] ["words"] (defScope s_are_names) := ⟨rfl, rfl, rfl, by decide +kernel, rfl, by decide +kernel, by decide +kernel⟩
theorem ok_are_names {f : Addr} {fd : FuncData} (F : Fun K "are_names" "are_names" s_are_names f fd) (T : Txt K mg w) {j : Nat} {c : Nat → List Dv → M Dv} (C : Tab P w K mg base j c) : FnOk P w K mg base (L2.CX P w) (j + 2) f fd ["words"] (spOf ⟨K, mg⟩ 1 (defM true 2 (m_are_names c))) :=
  fn_ok (k := j + 1) F sc_are_names fun cdv A outer s H E hr ct hp => have hc : Room j _ := hr.mono (Nat.le_succ j)
    dss_one (ds_ret (de_callB (cd_all ct) T.n_all (by decide +kernel) (da_cons (de_lc (own := [("word", 1)]) ct (di_val (dv 0)) (blk_of (fun s1 H1 C1 l1 p1 => (dg_name (ct.blk s1 H1 _ _ p1).nd rfl (by first | exact Or.inl rfl | exact Or.inr rfl))) (fun s1 H1 C1 l1 p1 => dts_nil) (fun s1 H1 C1 l1 p1 => (de_call (ct.blk s1 H1 _ _ p1) C.is_name hc (da_cons (dv 1) da_nil)))) (by show blkC ["words", "word"] (defScope s_are_names) _ [("word", 1)] = true; decide +kernel)) da_nil)))
theorem sc_is_byte_word : FnScope ["word", "char"] ["word"] (defScope s_is_byte_word) := ⟨rfl, rfl, rfl, by decide +kernel, rfl, by decide +kernel, by decide +kernel⟩
theorem ok_is_byte_word {f : Addr} {fd : FuncData} (F : Fun K "is_byte_word" "is_byte_word" s_is_byte_word f fd) (T : Txt K mg w) {j : Nat} {c : Nat → List Dv → M Dv} (C : Tab P w K mg base j c) : FnOk P w K mg base (L2.CX P w) (j + 2) f fd ["word"] (spOf ⟨K, mg⟩ 1 (defM true 2 (m_is_byte_word c))) :=
  fn_ok (k := j + 1) F sc_is_byte_word fun cdv A outer s H E hr ct hp => have hc : Room j _ := hr.mono (Nat.le_succ j)
    dss_cons (ds_if (dt_w (dw_or (dt_not (dt_chain2 od_le od_le (de_int) (de_callB cd_len T.n_len (by decide +kernel) (da_cons (dv 0) da_nil)) (de_int))) (dw_or1 (dt_not (dt_truth (de_callB (cd_all ct) T.n_all (by decide +kernel) (da_cons (de_lc (own := [("char", 1)]) ct (di_val (dv 0)) (blk_of (fun s1 H1 C1 l1 p1 => (dg_name (ct.blk s1 H1 _ _ p1).nd rfl (by first | exact Or.inl rfl | exact Or.inr rfl))) (fun s1 H1 C1 l1 p1 => dts_nil) (fun s1 H1 C1 l1 p1 => (de_cmp od_in (dv 1) (de_kc T.c_DIGITS) (by rfl)))) (by show blkC ["word", "char"] (defScope s_is_byte_word) _ [("char", 1)] = true; decide +kernel)) da_nil))))))) (dss_one (ds_ret (de_bl))) (dss_nil))
    (dss_one (ds_ret ((de_and ((de_or (de_cmp (od_eq ct) (dv 0) (de_str) (nomark _)) (de_one (de_cmp (od_ne ct) (de_ix id_seq (dv 0) (de_int)) (de_str) (nomark _))))) (de_one (de_cmp od_le (de_callTy cd_int T.n_int (by decide +kernel) (da_cons (dv 0) da_nil)) (de_int) (nomark _)))))))
theorem sc_is_command : FnScope ["words", "word"] ["words"] (defScope s_is_command) := ⟨rfl, rfl, rfl, by decide +kernel, rfl, by decide +kernel, by decide +kernel⟩
theorem ok_is_command {f : Addr} {fd : FuncData} (F : Fun K "is_command" "is_command" s_is_command f fd) (T : Txt K mg w) {j : Nat} {c : Nat → List Dv → M Dv} (C : Tab P w K mg base j c) : FnOk P w K mg base (L2.CX P w) (j + 2) f fd ["words"] (spOf ⟨K, mg⟩ 1 (defM true 2 (m_is_command c))) :=
  fn_ok (k := j + 1) F sc_is_command fun cdv A outer s H E hr ct hp => have hc : Room j _ := hr.mono (Nat.le_succ j)
    dss_cons (ds_if (dt_inK T.d_PLAIN (de_ix id_seq (dv 0) (de_int))) (dss_one (ds_ret ((de_and (de_cmp (od_eq ct) (de_callB cd_len T.n_len (by decide +kernel) (da_cons (dv 0) da_nil)) (de_op od_add (de_int) (de_ixK T.d_PLAIN (de_ix id_seq (dv 0) (de_int)))) (nomark _)) (de_one (de_call ct C.are_names hc (da_cons (de_slice sd_sl (dv 0) (do_some (de_int)) do_none) da_nil))))))) (dss_nil))
    (dss_cons (ds_if (dt_cmp (od_eq ct) (de_ix id_seq (dv 0) (de_int)) (de_str) (nomark _)) (dss_one (ds_ret ((de_and (de_cmp od_gt (de_callB cd_len T.n_len (by decide +kernel) (da_cons (dv 0) da_nil)) (de_int) (nomark _)) (de_one (de_call ct C.are_names hc (da_cons (de_slice sd_sl (dv 0) (do_some (de_int)) do_none) da_nil))))))) (dss_nil))
    (dss_cons (ds_if (dt_cmp (od_eq ct) (de_ix id_seq (dv 0) (de_int)) (de_str) (nomark _)) (dss_one (ds_ret ((de_and (de_cmp od_gt (de_callB cd_len T.n_len (by decide +kernel) (da_cons (dv 0) da_nil)) (de_int) (nomark _)) (de_and (de_call ct C.is_name hc (da_cons (de_ix id_seq (dv 0) (de_int)) da_nil)) (de_one (de_callB (cd_all ct) T.n_all (by decide +kernel) (da_cons (de_lc (own := [("word", 1)]) ct (di_val (de_slice sd_sl (dv 0) (do_some (de_int)) do_none)) (blk_of (fun s1 H1 C1 l1 p1 => (dg_name (ct.blk s1 H1 _ _ p1).nd rfl (by first | exact Or.inl rfl | exact Or.inr rfl))) (fun s1 H1 C1 l1 p1 => dts_nil) (fun s1 H1 C1 l1 p1 => (de_call (ct.blk s1 H1 _ _ p1) C.is_byte_word hc (da_cons (dv 1) da_nil)))) (by show blkC ["words", "word"] (defScope s_is_command) _ [("word", 1)] = true; decide +kernel)) da_nil)))))))) (dss_nil))
    (dss_one (ds_ret ((de_and (de_cmp (od_eq ct) (de_ix id_seq (dv 0) (de_int)) (de_str) (nomark _)) (de_and (de_cmp (od_eq ct) (de_callB cd_len T.n_len (by decide +kernel) (da_cons (dv 0) da_nil)) (de_int) (nomark _)) (de_one (de_cmp od_in (de_ix id_seq (dv 0) (de_int)) (de_kc T.c_SHOWN) (by rfl))))))))))
theorem sc__law_word : FnScope ["_law_number", "_law_more", "_law_words", "_law_letters", "_law_size", "_law_k", "_law_word_here"] ["_law_number", "_law_more"] (defScope s__law_word) := ⟨rfl, rfl, rfl, by decide +kernel, rfl, by decide +kernel, by decide +kernel⟩
theorem ok__law_word {f : Addr} {fd : FuncData} (F : Fun K "_law_word" "_law_word" s__law_word f fd) (T : Txt K mg w) {j : Nat} {c : Nat → List Dv → M Dv} (C : Tab P w K mg base j c) : FnOk P w K mg base (L2.CX P w) (j + 2) f fd ["_law_number", "_law_more"] (spOf ⟨K, mg⟩ 2 (defM true 7 (m__law_word c))) :=
  fn_ok (k := j + 1) F sc__law_word fun cdv A outer s H E hr ct hp => have hc : Room j _ := hr.mono (Nat.le_succ j)
    dss_cons (ds_set ct rfl (by first | exact Or.inl rfl | exact Or.inr rfl) (de_tup (da_cons (de_str) (da_cons (de_str) (da_cons (de_str) (da_cons (de_str) (da_cons (de_str) (da_cons (de_str) (da_cons (de_str) (da_cons (de_str) (da_cons (de_str) (da_cons (de_str) (da_cons (de_str) (da_cons (de_str) da_nil))))))))))))))
    (dss_cons (ds_set ct rfl (by first | exact Or.inl rfl | exact Or.inr rfl) (de_op od_add (dv 2) (de_tup (da_cons (de_str) (da_cons (de_str) (da_cons (de_str) (da_cons (de_str) (da_cons (de_str) (da_cons (de_str) (da_cons (de_str) (da_cons (de_str) (da_cons (de_str) (da_cons (de_str) (da_cons (de_str) da_nil))))))))))))))
    (dss_cons (ds_if (dt_cmp (od_eq ct) (de_op od_mod (de_callTy cd_int T.n_int (by decide +kernel) (da_cons (dv 0) da_nil)) (de_int)) (de_int) (nomark _)) (dss_one (ds_ret (de_ix id_seq (dv 2) (de_op od_mod (de_op od_fdiv (dv 0) (de_int)) (de_int))))) (dss_nil))
    (dss_cons (ds_set ct rfl (by first | exact Or.inl rfl | exact Or.inr rfl) (de_str))
    (dss_cons (ds_set ct rfl (by first | exact Or.inl rfl | exact Or.inr rfl) (de_op od_add (de_int) (de_op od_mod (de_op od_fdiv (dv 0) (de_int)) (de_int))))
    (dss_cons (ds_if (dt_cmp (od_eq ct) (de_op od_mod (de_callTy cd_int T.n_int (by decide +kernel) (da_cons (dv 0) da_nil)) (de_int)) (de_int) (nomark _)) (dss_one (ds_ret (de_bm PySem.F.plainAttrs_str PySem.F.slot_str_join PySem.F.type_str_join md_join (de_str) (da_cons (de_lc (own := [("_law_k", 5)]) ct (di_range1 T.n_range (da_cons (dv 4) da_nil)) (blk_of (fun s1 H1 C1 l1 p1 => (dg_name (ct.blk s1 H1 _ _ p1).nd rfl (by first | exact Or.inl rfl | exact Or.inr rfl))) (fun s1 H1 C1 l1 p1 => dts_nil) (fun s1 H1 C1 l1 p1 => (de_ix id_seq (dv 3) (de_op od_add (de_int) (de_op od_mod (de_callTy cd_int T.n_int (by decide +kernel) (da_cons (de_op od_add (de_op od_add (dv 1) (de_op od_mul (dv 5) (dv 5))) (de_op od_fdiv (dv 0) (de_int))) da_nil)) (de_int)))))) (by show blkC ["_law_number", "_law_more", "_law_words", "_law_letters", "_law_size", "_law_k", "_law_word_here"] (defScope s__law_word) _ [("_law_k", 5)] = true; decide +kernel)) da_nil)))) (dss_nil))
    (dss_cons (ds_set ct rfl (by first | exact Or.inl rfl | exact Or.inr rfl) (de_bm PySem.F.plainAttrs_str PySem.F.slot_str_join PySem.F.type_str_join md_join (de_str) (da_cons (de_lc (own := [("_law_k", 5)]) ct (di_range1 T.n_range (da_cons (de_op od_add (dv 4) (de_op od_mod (de_op od_fdiv (dv 0) (de_int)) (de_int))) da_nil)) (blk_of (fun s1 H1 C1 l1 p1 => (dg_name (ct.blk s1 H1 _ _ p1).nd rfl (by first | exact Or.inl rfl | exact Or.inr rfl))) (fun s1 H1 C1 l1 p1 => dts_nil) (fun s1 H1 C1 l1 p1 => (de_ix id_seq (dv 3) (de_op od_mod (de_callTy cd_int T.n_int (by decide +kernel) (da_cons (de_op od_add (de_op od_add (dv 1) (de_op od_mul (de_op od_mul (de_int) (dv 5)) (dv 0))) (dv 5)) da_nil)) (de_int))))) (by show blkC ["_law_number", "_law_more", "_law_words", "_law_letters", "_law_size", "_law_k", "_law_word_here"] (defScope s__law_word) _ [("_law_k", 5)] = true; decide +kernel)) da_nil)))
    (dss_cons (ds_if (dt_cmp (od_eq ct) (de_op od_mod (de_callTy cd_int T.n_int (by decide +kernel) (da_cons (dv 1) da_nil)) (de_int)) (de_int) (nomark _)) (dss_one (ds_ret (de_op od_add (de_op od_add (de_slice sd_sl (dv 6) do_none (do_some (de_int))) (de_str)) (de_slice sd_sl (dv 6) (do_some (de_int)) do_none)))) (dss_nil))
    (dss_cons (ds_if (dt_cmp (od_eq ct) (de_op od_mod (de_callTy cd_int T.n_int (by decide +kernel) (da_cons (dv 1) da_nil)) (de_int)) (de_int) (nomark _)) (dss_one (ds_ret (de_op od_add (dv 6) (de_str)))) (dss_nil))
    (dss_one (ds_ret (dv 6)))))))))))
theorem sc__law_is_name : FnScope ["_law_word_here", "_law_char"] ["_law_word_here"] (defScope s__law_is_name) := ⟨rfl, rfl, rfl, by decide +kernel, rfl, by decide +kernel, by decide +kernel⟩
theorem ok__law_is_name {f : Addr} {fd : FuncData} (F : Fun K "_law_is_name" "_law_is_name" s__law_is_name f fd) (T : Txt K mg w) {j : Nat} {c : Nat → List Dv → M Dv} (C : Tab P w K mg base j c) : FnOk P w K mg base (L2.CX P w) (j + 2) f fd ["_law_word_here"] (spOf ⟨K, mg⟩ 1 (defM true 2 (m__law_is_name c))) :=
  fn_ok (k := j + 1) F sc__law_is_name fun cdv A outer s H E hr ct hp => have hc : Room j _ := hr.mono (Nat.le_succ j)
    dss_cons (ds_if (dt_w (dw_or (dt_cmp od_lt (de_callB cd_len T.n_len (by decide +kernel) (da_cons (dv 0) da_nil)) (de_int) (nomark _)) (dw_or (dt_cmp od_gt (de_callB cd_len T.n_len (by decide +kernel) (da_cons (dv 0) da_nil)) (de_int) (nomark _)) (dw_or1 (dt_cmp od_nin (de_ix id_seq (dv 0) (de_int)) (de_str) (by rfl)))))) (dss_one (ds_ret (de_bl))) (dss_nil))
    (dss_cons (ds_for ct hp (di_val (dv 0)) (dg_name ct.nd rfl (by first | exact Or.inl rfl | exact Or.inr rfl)) (dss_one (ds_if (dt_cmp od_nin (dv 1) (de_str) (by rfl)) (dss_one (ds_ret (de_bl))) (dss_nil))))
    (dss_one (ds_ret (de_bl))))
theorem sc__law_is_byte : FnScope ["_law_word_here", "_law_k"] ["_law_word_here"] (defScope s__law_is_byte) := ⟨rfl, rfl, rfl, by decide +kernel, rfl, by decide +kernel, by decide +kernel⟩
theorem ok__law_is_byte {f : Addr} {fd : FuncData} (F : Fun K "_law_is_byte" "_law_is_byte" s__law_is_byte f fd) (T : Txt K mg w) {j : Nat} {c : Nat → List Dv → M Dv} (C : Tab P w K mg base j c) : FnOk P w K mg base (L2.CX P w) (j + 2) f fd ["_law_word_here"] (spOf ⟨K, mg⟩ 1 (defM true 2 (m__law_is_byte c))) :=
  fn_ok (k := j + 1) F sc__law_is_byte fun cdv A outer s H E hr ct hp => have hc : Room j _ := hr.mono (Nat.le_succ j)
    dss_one (ds_ret (de_cmp od_in (dv 0) (de_lc (own := [("_law_k", 1)]) ct (di_range1 T.n_range (da_cons (de_int) da_nil)) (blk_of (fun s1 H1 C1 l1 p1 => (dg_name (ct.blk s1 H1 _ _ p1).nd rfl (by first | exact Or.inl rfl | exact Or.inr rfl))) (fun s1 H1 C1 l1 p1 => dts_nil) (fun s1 H1 C1 l1 p1 => (de_callTy cd_str T.n_str (by decide +kernel) (da_cons (dv 1) da_nil)))) (by show blkC ["_law_word_here", "_law_k"] (defScope s__law_is_byte) _ [("_law_k", 1)] = true; decide +kernel)) (by rfl)))
theorem sc__law_formed : FnScope ["_law_words", "_law_number", "_law_more", "_law_names", "_law_word_here", "_law_numbers_here", "_law_forms"] ["_law_words", "_law_number", "_law_more"] (defScope s__law_formed) := ⟨rfl, rfl, rfl, by decide +kernel, rfl, by decide +kernel, by decide +kernel⟩
theorem ok__law_formed {f : Addr} {fd : FuncData} (F : Fun K "_law_formed" "_law_formed" s__law_formed f fd) (T : Txt K mg w) {j : Nat} {c : Nat → List Dv → M Dv} (C : Tab P w K mg base j c) : FnOk P w K mg base (L2.CX P w) (j + 2) f fd ["_law_words", "_law_number", "_law_more"] (spOf ⟨K, mg⟩ 3 (defM false 7 (m__law_formed c))) :=
  fn_ok (k := j + 1) F sc__law_formed fun cdv A outer s H E hr ct hp => have hc : Room j _ := hr.mono (Nat.le_succ j)
    dss_cons (ds_set ct rfl (by first | exact Or.inl rfl | exact Or.inr rfl) (de_op od_add (de_lc (own := [("_law_word_here", 4)]) ct (di_val (dv 0)) (blk_of (fun s1 H1 C1 l1 p1 => (dg_name (ct.blk s1 H1 _ _ p1).nd rfl (by first | exact Or.inl rfl | exact Or.inr rfl))) (fun s1 H1 C1 l1 p1 => (dts_one (dt_truth (de_call (ct.blk s1 H1 _ _ p1) C._law_is_name hc (da_cons (dv 4) da_nil))))) (fun s1 H1 C1 l1 p1 => (dv 4))) (by show blkC ["_law_words", "_law_number", "_law_more", "_law_names", "_law_word_here", "_law_numbers_here", "_law_forms"] (defScope s__law_formed) _ [("_law_word_here", 4)] = true; decide +kernel)) (de_lst (da_cons (de_str) (da_cons (de_str) (da_cons (de_str) (da_cons (de_str) (da_cons (de_str) da_nil))))))))
    (dss_cons (ds_set ct rfl (by first | exact Or.inl rfl | exact Or.inr rfl) (de_op od_add (de_lc (own := [("_law_word_here", 4)]) ct (di_val (dv 0)) (blk_of (fun s1 H1 C1 l1 p1 => (dg_name (ct.blk s1 H1 _ _ p1).nd rfl (by first | exact Or.inl rfl | exact Or.inr rfl))) (fun s1 H1 C1 l1 p1 => (dts_one (dt_truth (de_call (ct.blk s1 H1 _ _ p1) C._law_is_byte hc (da_cons (dv 4) da_nil))))) (fun s1 H1 C1 l1 p1 => (dv 4))) (by show blkC ["_law_words", "_law_number", "_law_more", "_law_names", "_law_word_here", "_law_numbers_here", "_law_forms"] (defScope s__law_formed) _ [("_law_word_here", 4)] = true; decide +kernel)) (de_lst (da_cons (de_str) (da_cons (de_str) (da_cons (de_str) da_nil))))))
    (dss_cons (ds_set ct rfl (by first | exact Or.inl rfl | exact Or.inr rfl) (de_tup (da_cons (de_lst (da_cons (de_str) (da_cons (de_ix id_seq (dv 3) (de_int)) da_nil))) (da_cons (de_lst (da_cons (de_str) (da_cons (de_ix id_seq (dv 3) (de_int)) da_nil))) (da_cons (de_lst (da_cons (de_str) (da_cons (de_ix id_seq (dv 3) (de_int)) da_nil))) (da_cons (de_lst (da_cons (de_str) da_nil)) (da_cons (de_lst (da_cons (de_str) da_nil)) (da_cons (de_lst (da_cons (de_str) da_nil)) da_nil))))))))
    (dss_cons (ds_set ct rfl (by first | exact Or.inl rfl | exact Or.inr rfl) (de_op od_add (dv 6) (de_tup (da_cons (de_lst (da_cons (de_str) (da_cons (de_ix id_seq (dv 3) (de_int)) da_nil))) (da_cons (de_lst (da_cons (de_str) (da_cons (de_ix id_seq (dv 3) (de_int)) da_nil))) (da_cons (de_lst (da_cons (de_str) (da_cons (de_ix id_seq (de_tup (da_cons (de_str) (da_cons (de_str) da_nil))) (de_op od_mod (de_callTy cd_int T.n_int (by decide +kernel) (da_cons (dv 2) da_nil)) (de_int))) da_nil))) da_nil))))))
    (dss_cons (ds_set ct rfl (by first | exact Or.inl rfl | exact Or.inr rfl) (de_op od_add (dv 6) (de_tup (da_cons (de_lst (da_cons (de_str) (da_cons (de_ix id_seq (dv 3) (de_int)) (da_cons (de_ix id_seq (dv 3) (de_int)) da_nil)))) (da_cons (de_op od_add (de_lst (da_cons (de_str) (da_cons (de_ix id_seq (dv 3) (de_int)) (da_cons (de_ix id_seq (dv 3) (de_int)) da_nil)))) (de_slice sd_sl (dv 3) (do_some (de_int)) (do_some (de_op od_add (de_int) (de_op od_mod (de_callTy cd_int T.n_int (by decide +kernel) (da_cons (dv 2) da_nil)) (de_int)))))) da_nil)))))
    (dss_cons (ds_set ct rfl (by first | exact Or.inl rfl | exact Or.inr rfl) (de_op od_add (dv 6) (de_tup (da_cons (de_op od_add (de_lst (da_cons (de_str) (da_cons (de_ix id_seq (dv 3) (de_int)) da_nil))) (de_slice sd_sl (dv 5) do_none (do_some (de_op od_mod (de_callTy cd_int T.n_int (by decide +kernel) (da_cons (dv 2) da_nil)) (de_int))))) da_nil))))
    (dss_one (ds_ret (de_callTy cd_listC T.n_list (by decide +kernel) (da_cons (de_ix id_seq (dv 6) (de_op od_mod (de_callTy cd_int T.n_int (by decide +kernel) (da_cons (dv 1) da_nil)) (de_int))) da_nil)))))))))
theorem sc__law_all_names : FnScope ["_law_words", "_law_word_here"] ["_law_words"] (defScope s__law_all_names) := ⟨rfl, rfl, rfl, by decide +kernel, rfl, by decide +kernel, by decide +kernel⟩
theorem ok__law_all_names {f : Addr} {fd : FuncData} (F : Fun K "_law_all_names" "_law_all_names" s__law_all_names f fd) (T : Txt K mg w) {j : Nat} {c : Nat → List Dv → M Dv} (C : Tab P w K mg base j c) : FnOk P w K mg base (L2.CX P w) (j + 2) f fd ["_law_words"] (spOf ⟨K, mg⟩ 1 (defM true 2 (m__law_all_names c))) :=
  fn_ok (k := j + 1) F sc__law_all_names fun cdv A outer s H E hr ct hp => have hc : Room j _ := hr.mono (Nat.le_succ j)
    dss_cons (ds_for ct hp (di_val (dv 0)) (dg_name ct.nd rfl (by first | exact Or.inl rfl | exact Or.inr rfl)) (dss_one (ds_if (dt_not (dt_truth (de_call ct C._law_is_name hc (da_cons (dv 1) da_nil)))) (dss_one (ds_ret (de_bl))) (dss_nil))))
    (dss_one (ds_ret (de_bl)))
theorem sc__law_command : FnScope ["_law_words", "_law_first", "_law_rest", "_law_word_here"] ["_law_words"] (defScope s__law_command) := ⟨rfl, rfl, rfl, by decide +kernel, rfl, by decide +kernel, by decide +kernel⟩
theorem ok__law_command {f : Addr} {fd : FuncData} (F : Fun K "_law_command" "_law_command" s__law_command f fd) (T : Txt K mg w) {j : Nat} {c : Nat → List Dv → M Dv} (C : Tab P w K mg base j c) : FnOk P w K mg base (L2.CX P w) (j + 2) f fd ["_law_words"] (spOf ⟨K, mg⟩ 1 (defM true 4 (m__law_command c))) :=
  fn_ok (k := j + 1) F sc__law_command fun cdv A outer s H E hr ct hp => have hc : Room j _ := hr.mono (Nat.le_succ j)
    dss_cons (ds_set ct rfl (by first | exact Or.inl rfl | exact Or.inr rfl) (de_ix id_seq (dv 0) (de_int)))
    (dss_cons (ds_set ct rfl (by first | exact Or.inl rfl | exact Or.inr rfl) (de_slice sd_sl (dv 0) (do_some (de_int)) do_none))
    (dss_cons (ds_if (dt_w (dw_or (dt_cmp (od_eq ct) (dv 1) (de_str) (nomark _)) (dw_or (dt_cmp (od_eq ct) (dv 1) (de_str) (nomark _)) (dw_or1 (dt_cmp (od_eq ct) (dv 1) (de_str) (nomark _)))))) (dss_one (ds_ret (de_cmp (od_eq ct) (de_callB cd_len T.n_len (by decide +kernel) (da_cons (dv 2) da_nil)) (de_int) (nomark _)))) (dss_nil))
    (dss_cons (ds_if (dt_cmp od_in (dv 1) (de_tup (da_cons (de_str) (da_cons (de_str) (da_cons (de_str) (da_cons (de_str) (da_cons (de_str) da_nil)))))) (by rfl)) (dss_one (ds_ret ((de_and (de_cmp (od_eq ct) (de_callB cd_len T.n_len (by decide +kernel) (da_cons (dv 2) da_nil)) (de_int) (nomark _)) (de_one (de_call ct C._law_is_name hc (da_cons (de_ix id_seq (dv 2) (de_int)) da_nil))))))) (dss_nil))
    (dss_cons (ds_if (dt_cmp (od_eq ct) (dv 1) (de_str) (nomark _)) (dss_one (ds_ret ((de_and (de_cmp (od_eq ct) (de_callB cd_len T.n_len (by decide +kernel) (da_cons (dv 2) da_nil)) (de_int) (nomark _)) (de_one (de_call ct C._law_all_names hc (da_cons (dv 2) da_nil))))))) (dss_nil))
    (dss_cons (ds_if (dt_cmp (od_eq ct) (dv 1) (de_str) (nomark _)) (dss_one (ds_ret ((de_and (de_cmp od_gt (de_callB cd_len T.n_len (by decide +kernel) (da_cons (dv 2) da_nil)) (de_int) (nomark _)) (de_one (de_call ct C._law_all_names hc (da_cons (dv 2) da_nil))))))) (dss_nil))
    (dss_cons (ds_if (dt_cmp (od_eq ct) (dv 1) (de_str) (nomark _)) (dss_one (ds_ret ((de_and (de_cmp (od_eq ct) (de_callB cd_len T.n_len (by decide +kernel) (da_cons (dv 2) da_nil)) (de_int) (nomark _)) (de_one ((de_or (de_cmp (od_eq ct) (de_ix id_seq (dv 2) (de_int)) (de_str) (nomark _)) (de_one (de_cmp (od_eq ct) (de_ix id_seq (dv 2) (de_int)) (de_str) (nomark _)))))))))) (dss_nil))
    (dss_cons (ds_if (dt_w (dw_or (dt_cmp (od_ne ct) (dv 1) (de_str) (nomark _)) (dw_or (dt_cmp (od_eq ct) (de_callB cd_len T.n_len (by decide +kernel) (da_cons (dv 2) da_nil)) (de_int) (nomark _)) (dw_or1 (dt_not (dt_truth (de_call ct C._law_is_name hc (da_cons (de_ix id_seq (dv 2) (de_int)) da_nil)))))))) (dss_one (ds_ret (de_bl))) (dss_nil))
    (dss_cons (ds_for ct hp (di_val (de_slice sd_sl (dv 2) (do_some (de_int)) do_none)) (dg_name ct.nd rfl (by first | exact Or.inl rfl | exact Or.inr rfl)) (dss_one (ds_if (dt_not (dt_truth (de_call ct C._law_is_byte hc (da_cons (dv 3) da_nil)))) (dss_one (ds_ret (de_bl))) (dss_nil))))
    (dss_one (ds_ret (de_bl)))))))))))
theorem sc_law : FnScope ["_law_script", "_law_numbers_here", "_law_words", "_law_k", "_law_formed_here", "_law_place", "_law_line", "_law_told", "_law_word_here", "_law_actual", "_law_passed"] ["_law_script"] (defScope s_law) := ⟨rfl, rfl, rfl, by decide +kernel, rfl, by decide +kernel, by decide +kernel⟩
theorem ok_law {f : Addr} {fd : FuncData} (F : Fun K "law" "law" s_law f fd) (T : Txt K mg w) {j : Nat} {c : Nat → List Dv → M Dv} (C : Tab P w K mg base j c) : FnOk P w K mg base (L2.CX P w) (j + 2) f fd ["_law_script"] (spOf ⟨K, mg⟩ 1 (defM true 11 (m_law c))) :=
  fn_ok (k := j + 1) F sc_law fun cdv A outer s H E hr ct hp => have hc : Room j _ := hr.mono (Nat.le_succ j)
    dss_cons (ds_set ct rfl (by first | exact Or.inl rfl | exact Or.inr rfl) (de_call ct C._law_numbers hc (da_cons (dv 0) (da_cons (de_int) da_nil))))
    (dss_cons (ds_setLc (own := [("_law_k", 3)]) ct rfl rfl (sw_true rfl rfl rfl (by decide +kernel)) (di_range1 T.n_range (da_cons (de_op od_add (de_int) (de_op od_mod (de_callTy cd_int T.n_int (by decide +kernel) (da_cons (de_ix id_seq (dv 1) (de_int)) da_nil)) (de_int))) da_nil)) (blk_of (fun s1 H1 C1 l1 p1 => (dg_name (ct.blk s1 H1 _ _ p1).nd rfl (by first | exact Or.inl rfl | exact Or.inr rfl))) (fun s1 H1 C1 l1 p1 => dts_nil) (fun s1 H1 C1 l1 p1 => (de_call (ct.blk s1 H1 _ _ p1) C._law_word hc (da_cons (de_ix id_seq (dv 1) (de_op od_mul (de_int) (dv 3))) (da_cons (de_ix id_seq (dv 1) (de_op od_add (de_op od_mul (de_int) (dv 3)) (de_int))) da_nil))))) (by show blkC ["_law_script", "_law_numbers_here", "_law_words", "_law_k", "_law_formed_here", "_law_place", "_law_line", "_law_told", "_law_word_here", "_law_actual", "_law_passed"] (defScope s_law) _ [("_law_k", 3)] = true; decide +kernel))
    (dss_cons (ds_if (dt_cmp od_gt (de_op od_mod (de_callTy cd_int T.n_int (by decide +kernel) (da_cons (de_ix id_seq (dv 1) (de_int)) da_nil)) (de_int)) (de_int) (nomark _)) (dss_cons (ds_set ct rfl (by first | exact Or.inl rfl | exact Or.inr rfl) (de_call ct C._law_formed hc (da_cons (dv 2) (da_cons (de_ix id_seq (dv 1) (de_int)) (da_cons (de_ix id_seq (dv 1) (de_int)) da_nil)))))
    (dss_cons (ds_set ct rfl (by first | exact Or.inl rfl | exact Or.inr rfl) (de_op od_mod (de_callTy cd_int T.n_int (by decide +kernel) (da_cons (de_ix id_seq (dv 1) (de_int)) da_nil)) (de_callB cd_len T.n_len (by decide +kernel) (da_cons (dv 4) da_nil))))
    (dss_cons (ds_if (dt_cmp (od_eq ct) (de_op od_mod (de_callTy cd_int T.n_int (by decide +kernel) (da_cons (de_ix id_seq (dv 1) (de_int)) da_nil)) (de_int)) (de_int) (nomark _)) (dss_one (ds_asg (de_ix id_seq (dv 2) (de_int)) (dg_sub (dv 4) (dv 5)))) (dss_nil))
    (dss_cons (ds_if (dt_w (dw_and (dt_cmp (od_eq ct) (de_op od_mod (de_callTy cd_int T.n_int (by decide +kernel) (da_cons (de_ix id_seq (dv 1) (de_int)) da_nil)) (de_int)) (de_int) (nomark _)) (dw_and1 (dt_cmp od_gt (de_callB cd_len T.n_len (by decide +kernel) (da_cons (dv 4) da_nil)) (de_int) (nomark _))))) (dss_one (ds_set ct rfl (by first | exact Or.inl rfl | exact Or.inr rfl) (de_op od_add (de_slice sd_sl (dv 4) do_none (do_some (dv 5))) (de_slice sd_sl (dv 4) (do_some (de_op od_add (dv 5) (de_int))) do_none)))) (dss_nil))
    (dss_cons (ds_if (dt_cmp (od_eq ct) (de_op od_mod (de_callTy cd_int T.n_int (by decide +kernel) (da_cons (de_ix id_seq (dv 1) (de_int)) da_nil)) (de_int)) (de_int) (nomark _)) (dss_one (ds_expr (de_bm PySem.F.plainAttrs_list PySem.F.slot_list_append PySem.F.type_list_append md_append (dv 4) (da_cons (de_ix id_seq (dv 2) (de_int)) da_nil)))) (dss_nil))
    (dss_one (ds_set ct rfl (by first | exact Or.inl rfl | exact Or.inr rfl) (dv 4)))))))) (dss_nil))
    (dss_cons (ds_set ct rfl (by first | exact Or.inl rfl | exact Or.inr rfl) (de_op od_mul (de_str) (de_op od_mod (de_callTy cd_int T.n_int (by decide +kernel) (da_cons (de_ix id_seq (dv 1) (de_int)) da_nil)) (de_int))))
    (dss_cons (ds_for ct hp (di_range1 T.n_range (da_cons (de_callB cd_len T.n_len (by decide +kernel) (da_cons (dv 2) da_nil)) da_nil)) (dg_name ct.nd rfl (by first | exact Or.inl rfl | exact Or.inr rfl)) (dss_cons (ds_set ct rfl (by first | exact Or.inl rfl | exact Or.inr rfl) (de_op od_add (dv 6) (de_ix id_seq (dv 2) (dv 3))))
    (dss_one (ds_if (dt_cmp od_lt (de_op od_add (dv 3) (de_int)) (de_callB cd_len T.n_len (by decide +kernel) (da_cons (dv 2) da_nil)) (nomark _)) (dss_one (ds_set ct rfl (by first | exact Or.inl rfl | exact Or.inr rfl) (de_op od_add (dv 6) (de_op od_mul (de_str) (de_op od_add (de_int) (de_op od_mod (de_callTy cd_int T.n_int (by decide +kernel) (da_cons (de_op od_add (de_ix id_seq (dv 1) (de_int)) (de_op od_mul (dv 3) (de_ix id_seq (dv 1) (de_int)))) da_nil)) (de_int))))))) (dss_nil)))))
    (dss_cons (ds_set ct rfl (by first | exact Or.inl rfl | exact Or.inr rfl) (de_op od_add (dv 6) (de_op od_mul (de_str) (de_op od_mod (de_callTy cd_int T.n_int (by decide +kernel) (da_cons (de_ix id_seq (dv 1) (de_int)) da_nil)) (de_int)))))
    (dss_cons (ds_set ct rfl (by first | exact Or.inl rfl | exact Or.inr rfl) (de_call ct C.split_words hc (da_cons (dv 6) da_nil)))
    (dss_cons (ds_if (dt_w (dw_or (dt_not (dt_truth (de_callB cd_isi T.n_isinstance (by decide +kernel) (da_cons (dv 7) (da_cons (de_ty T.n_list (by decide +kernel)) da_nil))))) (dw_or (dt_cmp (od_ne ct) (dv 7) (dv 2) (nomark _)) (dw_or1 (dt_cmp (od_ne ct) (de_call ct C.split_words hc (da_cons (de_op od_mul (de_str) (de_op od_mod (de_callTy cd_int T.n_int (by decide +kernel) (da_cons (de_ix id_seq (dv 1) (de_int)) da_nil)) (de_int))) da_nil)) (de_lst da_nil) (nomark _)))))) (dss_one (ds_ret (de_bl))) (dss_nil))
    (dss_cons (ds_if (dt_cmp (od_ne ct) (de_call ct C.split_words hc (da_cons (de_str) da_nil)) (de_lst (da_cons (de_str) (da_cons (de_str) da_nil))) (nomark _)) (dss_one (ds_ret (de_bl))) (dss_nil))
    (dss_cons (ds_for ct hp (di_val (dv 2)) (dg_name ct.nd rfl (by first | exact Or.inl rfl | exact Or.inr rfl)) (dss_cons (ds_set ct rfl (by first | exact Or.inl rfl | exact Or.inr rfl) (de_call ct C.is_byte_word hc (da_cons (dv 8) da_nil)))
    (dss_one (ds_if (dt_w (dw_or (dt_not (dt_truth (de_callB cd_isi T.n_isinstance (by decide +kernel) (da_cons (dv 9) (da_cons (de_ty T.n_bool (by decide +kernel)) da_nil))))) (dw_or1 (dt_cmp (od_ne ct) (dv 9) (de_call ct C._law_is_byte hc (da_cons (dv 8) da_nil)) (nomark _))))) (dss_one (ds_ret (de_bl))) (dss_nil)))))
    (dss_cons (ds_set ct rfl (by first | exact Or.inl rfl | exact Or.inr rfl) (de_callTy cd_listL T.n_list (by decide +kernel) (da_cons (dv 2) da_nil)))
    (dss_cons (ds_set ct rfl (by first | exact Or.inl rfl | exact Or.inr rfl) (de_call ct C.is_command hc (da_cons (dv 10) da_nil)))
    (dss_one (ds_ret ((de_and (de_callB cd_isi T.n_isinstance (by decide +kernel) (da_cons (dv 9) (da_cons (de_ty T.n_bool (by decide +kernel)) da_nil))) (de_and (de_cmp (od_eq ct) (dv 9) (de_call ct C._law_command hc (da_cons (dv 2) da_nil)) (nomark _)) (de_one (de_cmp (od_eq ct) (dv 10) (dv 2) (nomark _)))))))))))))))))))
structure Defs (K : PySem.W.Frag) (mg : Str → Option Value) : Prop where
  d__law_row : ∃ f fd, mg "_law_row" = some (.ref f) ∧ Fun K "_law_row" "_law_row" s__law_row f fd
  d__law_numbers : ∃ f fd, mg "_law_numbers" = some (.ref f) ∧ Fun K "_law_numbers" "_law_numbers" s__law_numbers f fd
  d_split_words : ∃ f fd, mg "split_words" = some (.ref f) ∧ Fun K "split_words" "split_words" s_split_words f fd
  d_is_name : ∃ f fd, mg "is_name" = some (.ref f) ∧ Fun K "is_name" "is_name" s_is_name f fd
  d_are_names : ∃ f fd, mg "are_names" = some (.ref f) ∧ Fun K "are_names" "are_names" s_are_names f fd
  d_is_byte_word : ∃ f fd, mg "is_byte_word" = some (.ref f) ∧ Fun K "is_byte_word" "is_byte_word" s_is_byte_word f fd
  d_is_command : ∃ f fd, mg "is_command" = some (.ref f) ∧ Fun K "is_command" "is_command" s_is_command f fd
  d__law_word : ∃ f fd, mg "_law_word" = some (.ref f) ∧ Fun K "_law_word" "_law_word" s__law_word f fd
  d__law_is_name : ∃ f fd, mg "_law_is_name" = some (.ref f) ∧ Fun K "_law_is_name" "_law_is_name" s__law_is_name f fd
  d__law_is_byte : ∃ f fd, mg "_law_is_byte" = some (.ref f) ∧ Fun K "_law_is_byte" "_law_is_byte" s__law_is_byte f fd
  d__law_formed : ∃ f fd, mg "_law_formed" = some (.ref f) ∧ Fun K "_law_formed" "_law_formed" s__law_formed f fd
  d__law_all_names : ∃ f fd, mg "_law_all_names" = some (.ref f) ∧ Fun K "_law_all_names" "_law_all_names" s__law_all_names f fd
  d__law_command : ∃ f fd, mg "_law_command" = some (.ref f) ∧ Fun K "_law_command" "_law_command" s__law_command f fd
  d_law : ∃ f fd, mg "law" = some (.ref f) ∧ Fun K "law" "law" s_law f fd
theorem b__law_row {f : Addr} {fd : FuncData} (F : Fun K "_law_row" "_law_row" s__law_row f fd) : Binds K fd ["_law_cell", "_law_many"] [] := F.binds fun _ _ _ _ _ _ us hl => match us, hl with | [_, _], _ => rfl
theorem b__law_numbers {f : Addr} {fd : FuncData} (F : Fun K "_law_numbers" "_law_numbers" s__law_numbers f fd) : Binds K fd ["_law_script", "_law_many"] [] := F.binds fun _ _ _ _ _ _ us hl => match us, hl with | [_, _], _ => rfl
theorem b_split_words {f : Addr} {fd : FuncData} (F : Fun K "split_words" "split_words" s_split_words f fd) : Binds K fd ["line"] [] := F.binds fun _ _ _ _ _ _ us hl => match us, hl with | [_], _ => rfl
theorem b_is_name {f : Addr} {fd : FuncData} (F : Fun K "is_name" "is_name" s_is_name f fd) : Binds K fd ["text"] [] := F.binds fun _ _ _ _ _ _ us hl => match us, hl with | [_], _ => rfl
theorem b_are_names {f : Addr} {fd : FuncData} (F : Fun K "are_names" "are_names" s_are_names f fd) : Binds K fd ["words"] [] := F.binds fun _ _ _ _ _ _ us hl => match us, hl with | [_], _ => rfl
theorem b_is_byte_word {f : Addr} {fd : FuncData} (F : Fun K "is_byte_word" "is_byte_word" s_is_byte_word f fd) : Binds K fd ["word"] [] := F.binds fun _ _ _ _ _ _ us hl => match us, hl with | [_], _ => rfl
theorem b_is_command {f : Addr} {fd : FuncData} (F : Fun K "is_command" "is_command" s_is_command f fd) : Binds K fd ["words"] [] := F.binds fun _ _ _ _ _ _ us hl => match us, hl with | [_], _ => rfl
theorem b__law_word {f : Addr} {fd : FuncData} (F : Fun K "_law_word" "_law_word" s__law_word f fd) : Binds K fd ["_law_number", "_law_more"] [] := F.binds fun _ _ _ _ _ _ us hl => match us, hl with | [_, _], _ => rfl
theorem b__law_is_name {f : Addr} {fd : FuncData} (F : Fun K "_law_is_name" "_law_is_name" s__law_is_name f fd) : Binds K fd ["_law_word_here"] [] := F.binds fun _ _ _ _ _ _ us hl => match us, hl with | [_], _ => rfl
theorem b__law_is_byte {f : Addr} {fd : FuncData} (F : Fun K "_law_is_byte" "_law_is_byte" s__law_is_byte f fd) : Binds K fd ["_law_word_here"] [] := F.binds fun _ _ _ _ _ _ us hl => match us, hl with | [_], _ => rfl
theorem b__law_formed {f : Addr} {fd : FuncData} (F : Fun K "_law_formed" "_law_formed" s__law_formed f fd) : Binds K fd ["_law_words", "_law_number", "_law_more"] [] := F.binds fun _ _ _ _ _ _ us hl => match us, hl with | [_, _, _], _ => rfl
theorem b__law_all_names {f : Addr} {fd : FuncData} (F : Fun K "_law_all_names" "_law_all_names" s__law_all_names f fd) : Binds K fd ["_law_words"] [] := F.binds fun _ _ _ _ _ _ us hl => match us, hl with | [_], _ => rfl
theorem b__law_command {f : Addr} {fd : FuncData} (F : Fun K "_law_command" "_law_command" s__law_command f fd) : Binds K fd ["_law_words"] [] := F.binds fun _ _ _ _ _ _ us hl => match us, hl with | [_], _ => rfl
theorem b_law {f : Addr} {fd : FuncData} (F : Fun K "law" "law" s_law f fd) : Binds K fd ["_law_script"] [] := F.binds fun _ _ _ _ _ _ us hl => match us, hl with | [_], _ => rfl
theorem tab (D : Defs K mg) (T : Txt K mg w) : ∀ j : Nat, Tab P w K mg base (2 * j) (run j)
  | 0 => {
      _law_row := by obtain ⟨f, fd, h1, F⟩ := D.d__law_row; exact ⟨⟨f, fd, _, h1, F.kp, rfl, b__law_row F, fn_stuck⟩⟩
      _law_numbers := by obtain ⟨f, fd, h1, F⟩ := D.d__law_numbers; exact ⟨⟨f, fd, _, h1, F.kp, rfl, b__law_numbers F, fn_stuck⟩⟩
      split_words := by obtain ⟨f, fd, h1, F⟩ := D.d_split_words; exact ⟨⟨f, fd, _, h1, F.kp, rfl, b_split_words F, fn_stuck⟩⟩
      is_name := by obtain ⟨f, fd, h1, F⟩ := D.d_is_name; exact ⟨⟨f, fd, _, h1, F.kp, rfl, b_is_name F, fn_stuck⟩⟩
      are_names := by obtain ⟨f, fd, h1, F⟩ := D.d_are_names; exact ⟨⟨f, fd, _, h1, F.kp, rfl, b_are_names F, fn_stuck⟩⟩
      is_byte_word := by obtain ⟨f, fd, h1, F⟩ := D.d_is_byte_word; exact ⟨⟨f, fd, _, h1, F.kp, rfl, b_is_byte_word F, fn_stuck⟩⟩
      is_command := by obtain ⟨f, fd, h1, F⟩ := D.d_is_command; exact ⟨⟨f, fd, _, h1, F.kp, rfl, b_is_command F, fn_stuck⟩⟩
      _law_word := by obtain ⟨f, fd, h1, F⟩ := D.d__law_word; exact ⟨⟨f, fd, _, h1, F.kp, rfl, b__law_word F, fn_stuck⟩⟩
      _law_is_name := by obtain ⟨f, fd, h1, F⟩ := D.d__law_is_name; exact ⟨⟨f, fd, _, h1, F.kp, rfl, b__law_is_name F, fn_stuck⟩⟩
      _law_is_byte := by obtain ⟨f, fd, h1, F⟩ := D.d__law_is_byte; exact ⟨⟨f, fd, _, h1, F.kp, rfl, b__law_is_byte F, fn_stuck⟩⟩
      _law_formed := by obtain ⟨f, fd, h1, F⟩ := D.d__law_formed; exact ⟨⟨f, fd, _, h1, F.kp, rfl, b__law_formed F, fn_stuck⟩⟩
      _law_all_names := by obtain ⟨f, fd, h1, F⟩ := D.d__law_all_names; exact ⟨⟨f, fd, _, h1, F.kp, rfl, b__law_all_names F, fn_stuck⟩⟩
      _law_command := by obtain ⟨f, fd, h1, F⟩ := D.d__law_command; exact ⟨⟨f, fd, _, h1, F.kp, rfl, b__law_command F, fn_stuck⟩⟩
      law := by obtain ⟨f, fd, h1, F⟩ := D.d_law; exact ⟨⟨f, fd, _, h1, F.kp, rfl, b_law F, fn_stuck⟩⟩
    }
  | j + 1 => {
      _law_row := by obtain ⟨f, fd, h1, F⟩ := D.d__law_row; exact ⟨⟨f, fd, _, h1, F.kp, rfl, b__law_row F, ok__law_row F T (tab D T j)⟩⟩
      _law_numbers := by obtain ⟨f, fd, h1, F⟩ := D.d__law_numbers; exact ⟨⟨f, fd, _, h1, F.kp, rfl, b__law_numbers F, ok__law_numbers F T (tab D T j)⟩⟩
      split_words := by obtain ⟨f, fd, h1, F⟩ := D.d_split_words; exact ⟨⟨f, fd, _, h1, F.kp, rfl, b_split_words F, ok_split_words F T (tab D T j)⟩⟩
      is_name := by obtain ⟨f, fd, h1, F⟩ := D.d_is_name; exact ⟨⟨f, fd, _, h1, F.kp, rfl, b_is_name F, ok_is_name F T (tab D T j)⟩⟩
      are_names := by obtain ⟨f, fd, h1, F⟩ := D.d_are_names; exact ⟨⟨f, fd, _, h1, F.kp, rfl, b_are_names F, ok_are_names F T (tab D T j)⟩⟩
      is_byte_word := by obtain ⟨f, fd, h1, F⟩ := D.d_is_byte_word; exact ⟨⟨f, fd, _, h1, F.kp, rfl, b_is_byte_word F, ok_is_byte_word F T (tab D T j)⟩⟩
      is_command := by obtain ⟨f, fd, h1, F⟩ := D.d_is_command; exact ⟨⟨f, fd, _, h1, F.kp, rfl, b_is_command F, ok_is_command F T (tab D T j)⟩⟩
      _law_word := by obtain ⟨f, fd, h1, F⟩ := D.d__law_word; exact ⟨⟨f, fd, _, h1, F.kp, rfl, b__law_word F, ok__law_word F T (tab D T j)⟩⟩
      _law_is_name := by obtain ⟨f, fd, h1, F⟩ := D.d__law_is_name; exact ⟨⟨f, fd, _, h1, F.kp, rfl, b__law_is_name F, ok__law_is_name F T (tab D T j)⟩⟩
      _law_is_byte := by obtain ⟨f, fd, h1, F⟩ := D.d__law_is_byte; exact ⟨⟨f, fd, _, h1, F.kp, rfl, b__law_is_byte F, ok__law_is_byte F T (tab D T j)⟩⟩
      _law_formed := by obtain ⟨f, fd, h1, F⟩ := D.d__law_formed; exact ⟨⟨f, fd, _, h1, F.kp, rfl, b__law_formed F, ok__law_formed F T (tab D T j)⟩⟩
      _law_all_names := by obtain ⟨f, fd, h1, F⟩ := D.d__law_all_names; exact ⟨⟨f, fd, _, h1, F.kp, rfl, b__law_all_names F, ok__law_all_names F T (tab D T j)⟩⟩
      _law_command := by obtain ⟨f, fd, h1, F⟩ := D.d__law_command; exact ⟨⟨f, fd, _, h1, F.kp, rfl, b__law_command F, ok__law_command F T (tab D T j)⟩⟩
      law := by obtain ⟨f, fd, h1, F⟩ := D.d_law; exact ⟨⟨f, fd, _, h1, F.kp, rfl, b_law F, ok_law F T (tab D T j)⟩⟩
    }
end

end L89

namespace L89
open PySem PySem.Spec PyProof.Rows L2 ML
theorem all_mk {w : World} {K : PySem.W.Frag} {h : Heap} {mg : Str → Option Value} (X : K.In h) (G : h.Ns mainGlobals mg)
    {f0 : Addr} {od0 an0 : Option Addr} {sl0 : Array (Option Value)} {oc0 kV0 dc0 pm0 cd0 ct0 : Value}
    {f1 : Addr} {od1 an1 : Option Addr} {sl1 : Array (Option Value)} {oc1 kV1 dc1 pm1 cd1 ct1 : Value}
    {f2 : Addr} {od2 an2 : Option Addr} {sl2 : Array (Option Value)} {oc2 kV2 dc2 pm2 cd2 ct2 : Value}
    {f3 : Addr} {od3 an3 : Option Addr} {sl3 : Array (Option Value)} {oc3 kV3 dc3 pm3 cd3 ct3 : Value}
    {f4 : Addr} {od4 an4 : Option Addr} {sl4 : Array (Option Value)} {oc4 kV4 dc4 pm4 cd4 ct4 : Value}
    {f5 : Addr} {od5 an5 : Option Addr} {sl5 : Array (Option Value)} {oc5 kV5 dc5 pm5 cd5 ct5 : Value}
    {f6 : Addr} {od6 an6 : Option Addr} {sl6 : Array (Option Value)} {oc6 kV6 dc6 pm6 cd6 ct6 : Value}
    {f7 : Addr} {od7 an7 : Option Addr} {sl7 : Array (Option Value)} {oc7 kV7 dc7 pm7 cd7 ct7 : Value}
    {f8 : Addr} {od8 an8 : Option Addr} {sl8 : Array (Option Value)} {oc8 kV8 dc8 pm8 cd8 ct8 : Value}
    {f9 : Addr} {od9 an9 : Option Addr} {sl9 : Array (Option Value)} {oc9 kV9 dc9 pm9 cd9 ct9 : Value}
    {f10 : Addr} {od10 an10 : Option Addr} {sl10 : Array (Option Value)} {oc10 kV10 dc10 pm10 cd10 ct10 : Value}
    {f11 : Addr} {od11 an11 : Option Addr} {sl11 : Array (Option Value)} {oc11 kV11 dc11 pm11 cd11 ct11 : Value}
    {f12 : Addr} {od12 an12 : Option Addr} {sl12 : Array (Option Value)} {oc12 kV12 dc12 pm12 cd12 ct12 : Value}
    {f13 : Addr} {od13 an13 : Option Addr} {sl13 : Array (Option Value)} {oc13 kV13 dc13 pm13 cd13 ct13 : Value}
    {t_DIGITS : Tok}
    {t_MOST_NAME_CHARS : Tok}
    {t_NAME_CHARS : Tok}
    {ta_SHOWN : Addr} {td_SHOWN : Option Addr} {ti_SHOWN : Array Value} {tn_SHOWN : Nat} {ts_SHOWN : Array (Option Value)} {tv_SHOWN : List V}
    {da_PLAIN : Addr} {de_PLAIN : Array DictEntry} {dn_PLAIN : Nat}
    (a0 : PySem.W.nsIn K mainGlobals "_law_row" = some (some (.ref f0)))
    (l0 : K.lookup f0 = some ⟨oc0, od0, .func (PySem.W.fnOf "_law_row" "_law_row" (defArgs s__law_row) (defBody s__law_row) (defScope s__law_row) .none kV0 dc0 pm0 an0 cd0 ct0), sl0⟩)
    (c0 : PySem.W.codeIn K cd0 "_law_row" = true)
    (k0 : PySem.W.keepIn K (.ref f0) = true)
    (a1 : PySem.W.nsIn K mainGlobals "_law_numbers" = some (some (.ref f1)))
    (l1 : K.lookup f1 = some ⟨oc1, od1, .func (PySem.W.fnOf "_law_numbers" "_law_numbers" (defArgs s__law_numbers) (defBody s__law_numbers) (defScope s__law_numbers) .none kV1 dc1 pm1 an1 cd1 ct1), sl1⟩)
    (c1 : PySem.W.codeIn K cd1 "_law_numbers" = true)
    (k1 : PySem.W.keepIn K (.ref f1) = true)
    (a2 : PySem.W.nsIn K mainGlobals "split_words" = some (some (.ref f2)))
    (l2 : K.lookup f2 = some ⟨oc2, od2, .func (PySem.W.fnOf "split_words" "split_words" (defArgs s_split_words) (defBody s_split_words) (defScope s_split_words) .none kV2 dc2 pm2 an2 cd2 ct2), sl2⟩)
    (c2 : PySem.W.codeIn K cd2 "split_words" = true)
    (k2 : PySem.W.keepIn K (.ref f2) = true)
    (a3 : PySem.W.nsIn K mainGlobals "is_name" = some (some (.ref f3)))
    (l3 : K.lookup f3 = some ⟨oc3, od3, .func (PySem.W.fnOf "is_name" "is_name" (defArgs s_is_name) (defBody s_is_name) (defScope s_is_name) .none kV3 dc3 pm3 an3 cd3 ct3), sl3⟩)
    (c3 : PySem.W.codeIn K cd3 "is_name" = true)
    (k3 : PySem.W.keepIn K (.ref f3) = true)
    (a4 : PySem.W.nsIn K mainGlobals "are_names" = some (some (.ref f4)))
    (l4 : K.lookup f4 = some ⟨oc4, od4, .func (PySem.W.fnOf "are_names" "are_names" (defArgs s_are_names) (defBody s_are_names) (defScope s_are_names) .none kV4 dc4 pm4 an4 cd4 ct4), sl4⟩)
    (c4 : PySem.W.codeIn K cd4 "are_names" = true)
    (k4 : PySem.W.keepIn K (.ref f4) = true)
    (a5 : PySem.W.nsIn K mainGlobals "is_byte_word" = some (some (.ref f5)))
    (l5 : K.lookup f5 = some ⟨oc5, od5, .func (PySem.W.fnOf "is_byte_word" "is_byte_word" (defArgs s_is_byte_word) (defBody s_is_byte_word) (defScope s_is_byte_word) .none kV5 dc5 pm5 an5 cd5 ct5), sl5⟩)
    (c5 : PySem.W.codeIn K cd5 "is_byte_word" = true)
    (k5 : PySem.W.keepIn K (.ref f5) = true)
    (a6 : PySem.W.nsIn K mainGlobals "is_command" = some (some (.ref f6)))
    (l6 : K.lookup f6 = some ⟨oc6, od6, .func (PySem.W.fnOf "is_command" "is_command" (defArgs s_is_command) (defBody s_is_command) (defScope s_is_command) .none kV6 dc6 pm6 an6 cd6 ct6), sl6⟩)
    (c6 : PySem.W.codeIn K cd6 "is_command" = true)
    (k6 : PySem.W.keepIn K (.ref f6) = true)
    (a7 : PySem.W.nsIn K mainGlobals "_law_word" = some (some (.ref f7)))
    (l7 : K.lookup f7 = some ⟨oc7, od7, .func (PySem.W.fnOf "_law_word" "_law_word" (defArgs s__law_word) (defBody s__law_word) (defScope s__law_word) .none kV7 dc7 pm7 an7 cd7 ct7), sl7⟩)
    (c7 : PySem.W.codeIn K cd7 "_law_word" = true)
    (k7 : PySem.W.keepIn K (.ref f7) = true)
    (a8 : PySem.W.nsIn K mainGlobals "_law_is_name" = some (some (.ref f8)))
    (l8 : K.lookup f8 = some ⟨oc8, od8, .func (PySem.W.fnOf "_law_is_name" "_law_is_name" (defArgs s__law_is_name) (defBody s__law_is_name) (defScope s__law_is_name) .none kV8 dc8 pm8 an8 cd8 ct8), sl8⟩)
    (c8 : PySem.W.codeIn K cd8 "_law_is_name" = true)
    (k8 : PySem.W.keepIn K (.ref f8) = true)
    (a9 : PySem.W.nsIn K mainGlobals "_law_is_byte" = some (some (.ref f9)))
    (l9 : K.lookup f9 = some ⟨oc9, od9, .func (PySem.W.fnOf "_law_is_byte" "_law_is_byte" (defArgs s__law_is_byte) (defBody s__law_is_byte) (defScope s__law_is_byte) .none kV9 dc9 pm9 an9 cd9 ct9), sl9⟩)
    (c9 : PySem.W.codeIn K cd9 "_law_is_byte" = true)
    (k9 : PySem.W.keepIn K (.ref f9) = true)
    (a10 : PySem.W.nsIn K mainGlobals "_law_formed" = some (some (.ref f10)))
    (l10 : K.lookup f10 = some ⟨oc10, od10, .func (PySem.W.fnOf "_law_formed" "_law_formed" (defArgs s__law_formed) (defBody s__law_formed) (defScope s__law_formed) .none kV10 dc10 pm10 an10 cd10 ct10), sl10⟩)
    (c10 : PySem.W.codeIn K cd10 "_law_formed" = true)
    (k10 : PySem.W.keepIn K (.ref f10) = true)
    (a11 : PySem.W.nsIn K mainGlobals "_law_all_names" = some (some (.ref f11)))
    (l11 : K.lookup f11 = some ⟨oc11, od11, .func (PySem.W.fnOf "_law_all_names" "_law_all_names" (defArgs s__law_all_names) (defBody s__law_all_names) (defScope s__law_all_names) .none kV11 dc11 pm11 an11 cd11 ct11), sl11⟩)
    (c11 : PySem.W.codeIn K cd11 "_law_all_names" = true)
    (k11 : PySem.W.keepIn K (.ref f11) = true)
    (a12 : PySem.W.nsIn K mainGlobals "_law_command" = some (some (.ref f12)))
    (l12 : K.lookup f12 = some ⟨oc12, od12, .func (PySem.W.fnOf "_law_command" "_law_command" (defArgs s__law_command) (defBody s__law_command) (defScope s__law_command) .none kV12 dc12 pm12 an12 cd12 ct12), sl12⟩)
    (c12 : PySem.W.codeIn K cd12 "_law_command" = true)
    (k12 : PySem.W.keepIn K (.ref f12) = true)
    (a13 : PySem.W.nsIn K mainGlobals "law" = some (some (.ref f13)))
    (l13 : K.lookup f13 = some ⟨oc13, od13, .func (PySem.W.fnOf "law" "law" (defArgs s_law) (defBody s_law) (defScope s_law) .none kV13 dc13 pm13 an13 cd13 ct13), sl13⟩)
    (c13 : PySem.W.codeIn K cd13 "law" = true)
    (k13 : PySem.W.keepIn K (.ref f13) = true)
    (nb_abs : PySem.W.nsIn K mainGlobals "abs" = some none)
    (nb_all : PySem.W.nsIn K mainGlobals "all" = some none)
    (nb_bool : PySem.W.nsIn K mainGlobals "bool" = some none)
    (nb_int : PySem.W.nsIn K mainGlobals "int" = some none)
    (nb_isinstance : PySem.W.nsIn K mainGlobals "isinstance" = some none)
    (nb_len : PySem.W.nsIn K mainGlobals "len" = some none)
    (nb_list : PySem.W.nsIn K mainGlobals "list" = some none)
    (nb_max : PySem.W.nsIn K mainGlobals "max" = some none)
    (nb_range : PySem.W.nsIn K mainGlobals "range" = some none)
    (nb_str : PySem.W.nsIn K mainGlobals "str" = some none)
    (cb_DIGITS : PySem.W.nsIn K mainGlobals "DIGITS" = some (some (.str "0123456789" t_DIGITS)))
    (cb_MOST_NAME_CHARS : PySem.W.nsIn K mainGlobals "MOST_NAME_CHARS" = some (some (.int 12 t_MOST_NAME_CHARS)))
    (cb_NAME_CHARS : PySem.W.nsIn K mainGlobals "NAME_CHARS" = some (some (.str "abcdefghijklmnopqrstuvwxyz0123456789" t_NAME_CHARS)))
    (cb_SHOWN : PySem.W.nsIn K mainGlobals "SHOWN" = some (some (.ref ta_SHOWN)))
    (cl_SHOWN : K.lookup ta_SHOWN = some ⟨.type "tuple", td_SHOWN, .seq ti_SHOWN tn_SHOWN, ts_SHOWN⟩)
    (cf_SHOWN : flatsK ti_SHOWN.toList = some ([(.str "shapes"), (.str "questions")], tv_SHOWN))
    (cz_SHOWN : ti_SHOWN.size ≤ sizeLine)
    (db_PLAIN : PySem.W.nsIn K mainGlobals "PLAIN" = some (some (.ref da_PLAIN)))
    (dl_PLAIN : K.lookup da_PLAIN = some ⟨.type "dict", none, .dict de_PLAIN dn_PLAIN, #[]⟩)
    (dk_PLAIN : PySem.W.KeysLit w.params de_PLAIN.toList)
    (ds_PLAIN : (da_PLAIN == sysModules) = false)
    (dv_PLAIN : KVals de_PLAIN.toList k_PLAIN)
    : Defs K mg ∧ Txt K mg w := by
  refine ⟨⟨⟨_, _, PySem.W.mg_of X G a0, fun_mk (st := s__law_row) l0 c0 k0⟩, ⟨_, _, PySem.W.mg_of X G a1, fun_mk (st := s__law_numbers) l1 c1 k1⟩, ⟨_, _, PySem.W.mg_of X G a2, fun_mk (st := s_split_words) l2 c2 k2⟩, ⟨_, _, PySem.W.mg_of X G a3, fun_mk (st := s_is_name) l3 c3 k3⟩, ⟨_, _, PySem.W.mg_of X G a4, fun_mk (st := s_are_names) l4 c4 k4⟩, ⟨_, _, PySem.W.mg_of X G a5, fun_mk (st := s_is_byte_word) l5 c5 k5⟩, ⟨_, _, PySem.W.mg_of X G a6, fun_mk (st := s_is_command) l6 c6 k6⟩, ⟨_, _, PySem.W.mg_of X G a7, fun_mk (st := s__law_word) l7 c7 k7⟩, ⟨_, _, PySem.W.mg_of X G a8, fun_mk (st := s__law_is_name) l8 c8 k8⟩, ⟨_, _, PySem.W.mg_of X G a9, fun_mk (st := s__law_is_byte) l9 c9 k9⟩, ⟨_, _, PySem.W.mg_of X G a10, fun_mk (st := s__law_formed) l10 c10 k10⟩, ⟨_, _, PySem.W.mg_of X G a11, fun_mk (st := s__law_all_names) l11 c11 k11⟩, ⟨_, _, PySem.W.mg_of X G a12, fun_mk (st := s__law_command) l12 c12 k12⟩, ⟨_, _, PySem.W.mg_of X G a13, fun_mk (st := s_law) l13 c13 k13⟩⟩, ⟨PySem.W.mg_none_of X G nb_abs, PySem.W.mg_none_of X G nb_all, PySem.W.mg_none_of X G nb_bool, PySem.W.mg_none_of X G nb_int, PySem.W.mg_none_of X G nb_isinstance, PySem.W.mg_none_of X G nb_len, PySem.W.mg_none_of X G nb_list, PySem.W.mg_none_of X G nb_max, PySem.W.mg_none_of X G nb_range, PySem.W.mg_none_of X G nb_str, kc_str (PySem.W.mg_of X G cb_DIGITS), kc_int (PySem.W.mg_of X G cb_MOST_NAME_CHARS), kc_str (PySem.W.mg_of X G cb_NAME_CHARS), kc_tup (PySem.W.mg_of X G cb_SHOWN) cl_SHOWN cf_SHOWN cz_SHOWN, ⟨da_PLAIN, de_PLAIN, dn_PLAIN, PySem.W.mg_of X G db_PLAIN, ⟨dl_PLAIN, dk_PLAIN, ds_PLAIN⟩, dv_PLAIN⟩⟩⟩

/-- the end: if the mirror of law gives True on every script, the law holds -/
theorem walk {l : PySem.W.OpenLaw} {q : Program} {loose : List Str} {XP : (Str → Option Value) → Heap → Prop} {YP : World → Heap → Prop} {d : DefRec} {K : Params → PySem.W.Frag} (hn : l.most = some 63) (hdf : d.params.defaults = [])
    (hY : ∀ (w : World) (h : Heap), YP w h → (K w.params).In h) (hname : d.name = "law")
    (F : ∀ (w : World) (mg : Str → Option Value) (h : Heap), (K w.params).In h → h.Ns mainGlobals mg → Defs (K w.params) mg ∧ Txt (K w.params) mg w)
    (hlaw : ∀ (ns : List Int), ns.length ≤ 63 → ∃ S', run 12 fn_law [.scr (ns.map Dv.int)] [] = some (.ok (.bl true) S')) : PySem.W.WalkO q loose XP YP l.row.toRowW d [] (fun f vs => PySem.call f vs) :=
  L2.walk_of (n := 63) (k := 2 * 11 + 2) (x := "_law_script") (CX := fun w => L2.CX l.prog w) (sp := fun w vs H Q E => vs.length = 1 ∧ ∃ (a : Addr) (ns : List Int), vs = [.ref a] ∧ ns.length ≤ 63 ∧ SqL (K w.params) H a (ns.map V.int) ∧ (∀ H', Q (.bl true) H')) hn (by decide) hdf ⟨rfl, by decide, by decide⟩ hY
    (fun w mg fa h KX G hmg => by
      obtain ⟨D, T⟩ := F w mg h KX G
      obtain ⟨f, fd, h1, F1⟩ := D.d_law
      rw [hname] at hmg
      have e := hmg.symm.trans h1
      cases e
      refine ⟨fd, fun s u => ?_, fun base hK hN => ?_⟩
      · obtain ⟨oc, od, kV, doc, pm, an, cdv, ct, osl, rfl, _⟩ := F1.ex
        exact .of_eq rfl
      · exact (ok_law F1 T (tab (P := l.prog) (base := base) D T 11)).imp (law_sp (B := ⟨K w.params, mg⟩) hlaw))
    (fun w H a ns hl _ hS => ⟨rfl, a, ns, rfl, hl, hS, fun _ => rfl⟩) fun w H s e s' h => by
      obtain ⟨_, _, _, _, _, _, _, _, _, _, _, _, z⟩ := h
      exact z.elim

end L89

namespace L89
open PySem PySem.Spec PyProof.Rows L2 ML

theorem run_row (k : Nat) : run (k + 1) fn__law_row = defM true 6 (m__law_row (run k)) := rfl
theorem run_numbers (k : Nat) : run (k + 1) fn__law_numbers = defM true 7 (m__law_numbers (run k)) := rfl
def small (l : List Int) : Prop := ∀ i ∈ l, 0 ≤ i ∧ i < 1009
theorem small_app {l : List Int} {i : Int} (h : small l) (h0 : 0 ≤ i) (h1 : i < 1009) : small (l ++ [i]) := fun j hj => by
  rcases List.mem_append.mp hj with hj | hj
  · exact h j hj
  · rw [List.mem_singleton.mp hj]; exact ⟨h0, h1⟩
theorem fmod_small {a : Int} : 0 ≤ a.fmod 1009 ∧ a.fmod 1009 < 1009 := by
  rw [Int.fmod_eq_emod_of_nonneg _ (by decide)]
  omega
theorem sp_row (k : Nat) (x : Int) (m : Nat) (hm : m ≤ 1000) (S : Sto) (hS : S.all (belowC S.length) = true) :
    Wm (run (k + 1) fn__law_row [.int x, .int m]) S fun r => ∃ l : List Int, l.length = m ∧ small l ∧ r = .ok (.lst (l.map .int)) S := by
  rw [run_row, wm_def, m__law_row]
  simp [ws_for]
  refine ⟨by omega, ?_⟩
  refine for_inv (fun k env S' => ∃ (l : List Int) (rest mixed : Int) (kk : Option Dv), l.length = k ∧ small l ∧ env = [some (.int x), some (.int m), some (.ref S.length), some (.int rest), some (.int mixed), kk] ∧ S' = S ++ [.lst (l.map .int)]) ?_ ?_ ?_
  · exact ⟨[], _, _, _, rfl, (by intro i hi; cases hi), rfl, rfl⟩
  · rintro i d env S' hd ⟨l, rest, mixed, kk, hl, hsm, rfl, rfl⟩
    obtain ⟨hlt, rfl⟩ := range_at hd
    have hz : sizeLine = 16777216 := by decide
    have fin : ∀ z : Int, l.length < sizeLine ∧ ∃ l_1 : List Int, l_1.length = i + 1 ∧ small l_1 ∧ List.map Dv.int l ++ [Dv.int (z.fmod 1009)] = List.map Dv.int l_1 := fun z =>
      ⟨by omega, l ++ [z.fmod 1009], by simp [hl], small_app hsm fmod_small.1 fmod_small.2, by simp⟩
    simp
    repeat' split
    all_goals exact fin _
  · rintro env S' ⟨l, rest, mixed, kk, hl, hsm, rfl, rfl⟩
    simp
    refine ⟨l, by simpa using hl, hsm, leaveD_new belows_ints hS⟩
theorem sp_numbers (k : Nat) (ns : List Int) (m : Nat) (hm : m ≤ 100) (hn : ns.length ≤ 63) :
    Wm (run (k + 2) fn__law_numbers [.scr (ns.map .int), .int m]) [] fun r => ∃ l : List Int, l.length = m ∧ small l ∧ r = .ok (.lst (l.map .int)) [] := by
  rw [run_numbers, wm_def, m__law_numbers]
  have hc : cutG (List.map Dv.int ns) none (some 63) = ns.map .int := by
    rw [show (63 : Int) = ((63 : Nat) : Int) from rfl, cutG_head, List.take_of_length_le (by simpa using hn)]
  simp [ws_for, hc]
  have hz : sizeLine = 16777216 := by decide
  refine ⟨by split <;> omega, ?_⟩
  have hg : ∃ g : Nat, g ≤ 1000 ∧ 1 + (m : Int).fdiv (if 1 < (ns.length : Int) then (ns.length : Int) else 1) = g := by
    refine ⟨(1 + (m : Int).fdiv (if 1 < (ns.length : Int) then (ns.length : Int) else 1)).toNat, ?_, ?_⟩
    all_goals
      rw [Int.fdiv_eq_ediv_of_nonneg _ (by split <;> omega)]
      have h1 : (m : Int) / (if 1 < (ns.length : Int) then (ns.length : Int) else 1) ≤ m := Int.ediv_le_self _ (by omega)
      have h2 : 0 ≤ (m : Int) / (if 1 < (ns.length : Int) then (ns.length : Int) else 1) := Int.ediv_nonneg (by omega) (by split <;> omega)
      omega
  obtain ⟨g, hg1, hg2⟩ := hg
  rw [hg2]
  refine for_inv (fun k env S' => ∃ (l : List Int) (a b : Option Dv), small l ∧ l.length ≤ 1000 * k ∧ env = [some (.scr (ns.map .int)), some (.int m), some (.lst (ns.map .int)), some (.int g), some (.ref 0), a, b] ∧ S' = [.lst (l.map .int)]) ?_ ?_ ?_
  · exact ⟨[], _, _, (by intro i hi; cases hi), by simp, rfl, rfl⟩
  · rintro i d env S' hd ⟨l, a, b, hsm, hlen, rfl, rfl⟩
    obtain ⟨x, hx, hmem, rfl⟩ := map_at hd
    have hi : i < 63 := by
      have := (List.getElem?_eq_some_iff.mp hx).1
      omega
    simp [ws_for]
    refine (sp_row k x g hg1 [.lst (l.map .int)] ?_).imp ?_
    · simp [belowC, belows_ints]
    rintro r ⟨w, hw1, hw2, rfl⟩
    simp
    refine for_inv (fun k env S' => ∃ (u : List Int) (b : Option Dv), small u ∧ u.length = l.length + k ∧ env = [some (.scr (ns.map .int)), some (.int m), some (.lst (ns.map .int)), some (.int g), some (.ref 0), some (.int x), b] ∧ S' = [.lst (u.map .int)]) ?_ ?_ ?_
    · exact ⟨l, _, hsm, rfl, rfl, rfl⟩
    · rintro i2 d2 env2 S2 hd2 ⟨u, b2, hu, hul, rfl, rfl⟩
      obtain ⟨y, hy, hym, rfl⟩ := map_at hd2
      have : i2 < w.length := (List.getElem?_eq_some_iff.mp hy).1
      simp
      refine ⟨by omega, u ++ [y], small_app hu (hw2 y hym).1 (hw2 y hym).2, by simp; omega, by simp⟩
    · rintro env2 S2 ⟨u, b2, hu, hul, rfl, rfl⟩
      simp
      refine ⟨u, hu, ?_, rfl⟩
      simp at hul
      omega
  · rintro env S' ⟨l, a, b, hsm, hlen, rfl, rfl⟩
    simp at hlen ⊢
    refine while_inv (fun j env S' => ∃ (u : List Int), small u ∧ u.length ≤ 100000 ∧ m ≤ u.length + j ∧ (0 < j → u.length + j ≤ m) ∧ env = [some (.scr (ns.map .int)), some (.int m), some (.lst (ns.map .int)), some (.int g), some (.ref 0), a, b] ∧ S' = [.lst (u.map .int)]) ?_ (m - l.length) _ _ _ ?_ ?_
    · rintro j env S' ⟨u, hu, h1, h2, h3, rfl, rfl⟩
      simp
      split
      · refine ⟨j - 1, by omega, by omega, u ++ [0], small_app hu (by decide) (by decide), by simp; omega, by simp; omega, by simp; omega, by simp⟩
      · have e : cutG (List.map Dv.int u) none (some (m : Int)) = (u.take m).map .int := by rw [cutG_head, List.map_take]
        refine ⟨u.take m, by simp; omega, fun i hi => hu i (List.mem_of_mem_take hi), ?_⟩
        rw [e]
        exact leaveD_old (S := []) (by intro n; nofun) (by simp only [below]; exact belows_ints) rfl
    · omega
    · exact ⟨l, hsm, by omega, by omega, by omega, rfl, rfl⟩
end L89

namespace L89
open PySem PySem.Spec PyProof.Rows L2 ML

theorem run_is_name (k : Nat) : run (k + 1) fn_is_name = defM true 2 (m_is_name (run k)) := rfl
theorem run__law_is_name (k : Nat) : run (k + 1) fn__law_is_name = defM true 2 (m__law_is_name (run k)) := rfl
theorem run_is_byte_word (k : Nat) : run (k + 1) fn_is_byte_word = defM true 2 (m_is_byte_word (run k)) := rfl
theorem run__law_is_byte (k : Nat) : run (k + 1) fn__law_is_byte = defM true 2 (m__law_is_byte (run k)) := rfl
def NM : Str := "abcdefghijklmnopqrstuvwxyz0123456789"
def LT : Str := "abcdefghijklmnopqrstuvwxyz"
def DG' : Str := "0123456789"
def nameB (cs : List Nat) : Bool := decide (1 ≤ cs.length) && decide (cs.length ≤ 12) && (match cs[0]? with | some c => decide (c ∈ LT.cps.toList) | none => false) && cs.all fun c => decide (c ∈ NM.cps.toList)
theorem lc_chars {cs : List Nat} {vs : List Nat} {gf : Dv → Env' → M Env'} {ft : Env' → M Bool} {fe : Env' → M Dv} {fi : Env' → M Sr} {env : Env'} {S : Sto} {P : Rs Dv → Prop} (f : Nat → Option Dv) (hl : cs.length ≤ sizeLine)
    (hi : Wm (fi env) S fun r => r = .ok (fun _ => some (cs.map fun c => .str ⟨#[c]⟩)) S) (he : ∀ c ∈ cs, Wm (elM vs gf ft fe env (.str ⟨#[c]⟩)) S fun r => r = .ok (f c) S) : Wm (lcF fi vs gf ft fe env) S P ↔ P (.ok (.lst (cs.filterMap f)) S) :=
  lcF_map cs (fun c => .str ⟨#[c]⟩) f hi rfl hl he
theorem NM_eq : NM.cps.toList = LT.cps.toList ++ DG'.cps.toList := by decide +kernel
theorem LT_DG : ∀ c ∈ LT.cps.toList, c ∉ DG'.cps.toList := by decide +kernel
theorem sp_is_name' (k : Nat) (cs : List Nat) (h : cs.length ≤ 100) (S : Sto) (B : Bool) (hB : B = nameB cs) : run (k + 1) fn_is_name [.str ⟨⟨cs⟩⟩] S = some (.ok (.bl B) S) := by
  apply wm_run
  rw [run_is_name, wm_def, m_is_name]
  have hz := szl
  have hl : cs.length ≤ sizeLine := by omega
  have key : ∀ P, Wm (lcF (iVal (getv 0)) [1] (gSet 1) tYes' (eOp inD (getv 1) (eC (Dv.str "abcdefghijklmnopqrstuvwxyz0123456789"))) [some (Dv.str ⟨⟨cs⟩⟩), none]) S P ↔ P (.ok (.lst (cs.map fun c => .bl (decide (c ∈ NM.cps.toList)))) S) := fun P => by
    rw [lc_chars (fun c => some (.bl (decide (c ∈ NM.cps.toList)))) hl (by simp) (by intro c hc; simp; rfl)]
    simp
  have dg : ∀ c : Nat, (c ∈ (Str.ofString "0123456789").cps) = (c ∈ DG'.cps.toList) := fun c => by rw [Array.mem_toList_iff]; rfl
  unfold nameB at hB
  cases h0 : cs[0]? with
  | none =>
    have : cs = [] := by
      cases cs with
      | nil => rfl
      | cons a r => simp at h0
    subst this
    subst hB
    simp
  | some c =>
    have hc : c ∈ cs := List.mem_of_getElem? h0
    have h1 : 1 ≤ cs.length := by
      cases cs with
      | nil => cases hc
      | cons a r => simp
    rw [h0] at hB
    simp only [h1, decide_true, Bool.true_and] at hB
    simp [hl, key, h0, dg, -Array.mem_toList_iff]
    have hD : (Str.ofString "0123456789").cps.toList = DG'.cps.toList := rfl
    rw [hD, if_pos (by omega)]
    split
    · rw [hB, decide_eq_false (by omega)]
      rfl
    · split
      · rename_i hd
        rw [hB, decide_eq_false (p := c ∈ LT.cps.toList) fun h => LT_DG c h hd]
        simp
      · rename_i hd
        rw [hB, decide_eq_true (by omega : cs.length ≤ 12)]
        cases ha : cs.all fun x => decide (x ∈ NM.cps.toList) with
        | false => simp
        | true =>
          have h2 := of_decide_eq_true (List.all_eq_true.mp ha c hc)
          rw [NM_eq, List.mem_append] at h2
          rcases h2 with h2 | h2
          · rw [decide_eq_true h2]; rfl
          · exact absurd h2 hd
theorem sp__law_is_name' (k : Nat) (cs : List Nat) (h : cs.length ≤ 100) (S : Sto) (B : Bool) (hB : B = nameB cs) : run (k + 1) fn__law_is_name [.str ⟨⟨cs⟩⟩] S = some (.ok (.bl B) S) := by
  apply wm_run
  rw [run__law_is_name, wm_def, m__law_is_name]
  have hz := szl
  have hl : cs.length ≤ sizeLine := by omega
  have lt : ∀ c : Nat, (c ∈ (Str.ofString "abcdefghijklmnopqrstuvwxyz").cps) = (c ∈ LT.cps.toList) := fun c => by rw [Array.mem_toList_iff]; rfl
  have nm : ∀ c : Nat, (c ∈ (Str.ofString "abcdefghijklmnopqrstuvwxyz0123456789").cps) = (c ∈ NM.cps.toList) := fun c => by rw [Array.mem_toList_iff]; rfl
  unfold nameB at hB
  cases h0 : cs[0]? with
  | none =>
    have : cs = [] := by
      cases cs with
      | nil => rfl
      | cons a r => simp at h0
    subst this
    subst hB
    simp
  | some c =>
    have hc : c ∈ cs := List.mem_of_getElem? h0
    have h1 : 1 ≤ cs.length := by
      cases cs with
      | nil => cases hc
      | cons a r => simp
    rw [h0] at hB
    simp only [h1, decide_true, Bool.true_and] at hB
    simp [hl, h0, lt, ws_for, -Array.mem_toList_iff]
    have hD : (Str.ofString "abcdefghijklmnopqrstuvwxyz").cps.toList = LT.cps.toList := rfl
    rw [hD, if_neg (by omega)]
    split
    · rw [hB, decide_eq_false (by omega)]
      rfl
    · rw [decide_eq_true (by omega : cs.length ≤ 12)] at hB
      split
      · rename_i hlt
        rw [decide_eq_true hlt, Bool.true_and, Bool.true_and] at hB
        refine for_inv (fun k env S' => S' = S ∧ (∀ x ∈ cs.take k, x ∈ NM.cps.toList) ∧ ∃ b, env = [some (Dv.str ⟨⟨cs⟩⟩), b]) ?_ ?_ ?_
        · exact ⟨rfl, by simp, _, rfl⟩
        · rintro i d env S' hd ⟨rfl, hall, b, rfl⟩
          obtain ⟨x, hx, hxm, rfl⟩ := map_at hd
          have hD : (Str.ofString "abcdefghijklmnopqrstuvwxyz0123456789").cps.toList = NM.cps.toList := rfl
          simp [-Array.mem_toList_iff, hD]
          by_cases hm : x ∈ NM.cps.toList
          · rw [if_pos hm]
            intro y hy
            rw [List.take_add_one, hx, List.mem_append] at hy
            rcases hy with hy | hy
            · exact hall y hy
            · simp at hy
              rw [hy]
              exact hm
          · rw [if_neg hm, hB, List.all_eq_false.mpr ⟨x, hxm, by simpa using hm⟩]
        · rintro env S' ⟨rfl, hall, b, rfl⟩
          simp
          rw [hB]
          refine List.all_eq_true.mpr fun x hx => decide_eq_true (hall x ?_)
          simpa using hx
      · rename_i hlt
        rw [hB, decide_eq_false hlt]
        rfl
def dg (i : Nat) : List Nat := if i < 10 then [48 + i] else if i < 100 then [48 + i / 10, 48 + i % 10] else [48 + i / 100, 48 + i / 10 % 10, 48 + i % 10]
theorem dg_eq : ∀ i ∈ List.range 256, (toString (i : Int) : Str) = ⟨⟨dg i⟩⟩ := by decide +kernel
def byteB (cs : List Nat) : Bool := (List.range 256).any fun i => dg i == cs
theorem sp__law_is_byte (k : Nat) (cs : List Nat) (S : Sto) : run (k + 1) fn__law_is_byte [.str ⟨⟨cs⟩⟩] S = some (.ok (.bl (byteB cs)) S) := by
  apply wm_run
  rw [run__law_is_byte, wm_def, m__law_is_byte]
  have hz := szl
  have lg : ∀ i : Nat, i < 256 → (i : Int).natAbs.log2 < 1920 := fun i hi => by
    rw [Int.natAbs_natCast]
    rcases Nat.eq_zero_or_pos i with h | h
    · subst h; decide
    · have := (Nat.log2_lt (k := 8) (by omega)).mpr (by omega : i < 2 ^ 8)
      omega
  have key : ∀ P, Wm (lcF (iArg (aCons (eC (Dv.int 256)) aNil) rng1M) [1] (gSet 1) tYes' (eArg (aCons (getv 1) aNil) (opA strD)) [some (Dv.str ⟨⟨cs⟩⟩), none]) S P ↔ P (.ok (.lst ((List.range 256).map fun i : Nat => .str ⟨⟨dg i⟩⟩)) S) := fun P => by
    rw [lcF_map (List.range 256) (fun i : Nat => .int (0 + i)) (fun i : Nat => some (.str ⟨⟨dg i⟩⟩)) (src := fun _ => some ((List.range 256).map fun i : Nat => .int (0 + i))) (by simp) rfl (by simp; omega) (by
      intro i hi
      have := lg i (List.mem_range.mp hi)
      have e := dg_eq i hi
      simp at this e ⊢
      exact ⟨this, e⟩)]
    simp
  have e : ∀ a b : List Nat, ((⟨⟨a⟩⟩ : Str) == ⟨⟨b⟩⟩) = (a == b) := fun a b => by
    by_cases h : a = b
    · subst h; simp
    · rw [beq_eq_false_iff_ne.mpr h, beq_eq_false_iff_ne.mpr]
      intro z
      cases z
      exact h rfl
  simp [key, byteB, e]
theorem dig1 : ∀ a ∈ List.range 10, PySem.intText? ⟨⟨[48 + a]⟩⟩ = some (a : Int) := by decide +kernel
theorem dig2 : ∀ a ∈ List.range 10, ∀ b ∈ List.range 10, PySem.intText? ⟨⟨[48 + a, 48 + b]⟩⟩ = some ((10 * a + b : Nat) : Int) := by decide +kernel
theorem dig3 : ∀ a ∈ List.range 10, ∀ b ∈ List.range 10, ∀ c ∈ List.range 10, PySem.intText? ⟨⟨[48 + a, 48 + b, 48 + c]⟩⟩ = some ((100 * a + 10 * b + c : Nat) : Int) := by decide +kernel
theorem DG_iff (c : Nat) : c ∈ DG'.cps.toList ↔ 48 ≤ c ∧ c < 58 := by
  have : DG'.cps.toList = [48, 49, 50, 51, 52, 53, 54, 55, 56, 57] := by decide +kernel
  rw [this]
  simp
  omega
theorem byteB_iff (cs : List Nat) : byteB cs = true ↔ ∃ i, i < 256 ∧ dg i = cs := by
  unfold byteB
  rw [List.any_eq_true]
  simp
theorem sp_is_byte_word (k : Nat) (cs : List Nat) (h : cs.length ≤ 100) (hs : PyData.strOk ⟨⟨cs⟩⟩ = true) (S : Sto) (B : Bool) (hB : B = byteB cs) : run (k + 1) fn_is_byte_word [.str ⟨⟨cs⟩⟩] S = some (.ok (.bl B) S) := by
  apply wm_run
  rw [run_is_byte_word, wm_def, m_is_byte_word]
  have hz := szl
  have hl : cs.length ≤ sizeLine := by omega
  have key : ∀ P, Wm (lcF (iVal (getv 0)) [1] (gSet 1) tYes' (eOp inD (getv 1) (eC (Dv.str "0123456789"))) [some (Dv.str ⟨⟨cs⟩⟩), none]) S P ↔ P (.ok (.lst (cs.map fun c => .bl (decide (c ∈ DG'.cps.toList)))) S) := fun P => by
    rw [lc_chars (fun c => some (.bl (decide (c ∈ DG'.cps.toList)))) hl (by simp) (by intro c hc; simp; rfl)]
    simp
  have no : (¬ (1 ≤ cs.length ∧ cs.length ≤ 3 ∧ ∀ c ∈ cs, c ∈ DG'.cps.toList)) → B = false := fun hn => by
    rw [hB]
    apply Bool.eq_false_iff.mpr
    intro hb
    obtain ⟨i, hi, rfl⟩ := (byteB_iff _).mp hb
    apply hn
    unfold dg
    simp only [DG_iff]
    split
    · simp; omega
    · split
      · simp; omega
      · simp; omega
  have s0 : PyData.strOk (Str.ofString "0") = true := by decide +kernel
  simp [hl, key, hs, s0, -Array.mem_toList_iff]
  have e0 : Str.ofString "0" = ⟨⟨[48]⟩⟩ := by decide +kernel
  have so : ∀ c : Nat, c < 58 → PyData.strOk ⟨#[c]⟩ = true := by
    intro c hc
    simp [PyData.strOk]
    omega
  by_cases hd : 1 ≤ cs.length ∧ cs.length ≤ 3 ∧ ∀ c ∈ cs, c ∈ DG'.cps.toList
  · obtain ⟨h1, h3, hall⟩ := hd
    rw [if_pos (by omega), if_neg (by omega), if_pos hall]
    simp only [DG_iff] at hall
    have shp : (∃ x, cs = [x]) ∨ (∃ x y, cs = [x, y]) ∨ ∃ x y z, cs = [x, y, z] := by
      rcases cs with _ | ⟨x, _ | ⟨y, _ | ⟨z, _ | ⟨u, r⟩⟩⟩⟩
      · simp at h1
      · exact .inl ⟨x, rfl⟩
      · exact .inr (.inl ⟨x, y, rfl⟩)
      · exact .inr (.inr ⟨x, y, z, rfl⟩)
      · simp at h3
    have dgt : ∀ x, 48 ≤ x ∧ x < 58 → ∃ a, a < 10 ∧ x = 48 + a := fun x hx => ⟨x - 48, by omega, by omega⟩
    rcases shp with ⟨x, rfl⟩ | ⟨x, y, rfl⟩ | ⟨x, y, z, rfl⟩
    · obtain ⟨a, ha, rfl⟩ := dgt x (hall x (by simp))
      have it := dig1 a (List.mem_range.mpr ha)
      have hb : B = true := hB.trans ((byteB_iff _).mpr ⟨a, by omega, by unfold dg; rw [if_pos ha]⟩)
      simp [e0, it, op_intS, hb, so _ (by omega : 48 + a < 58)]
      split <;> omega
    · obtain ⟨a, ha, rfl⟩ := dgt x (hall x (by simp))
      obtain ⟨b, hb, rfl⟩ := dgt y (hall y (by simp))
      have it := dig2 a (List.mem_range.mpr ha) b (List.mem_range.mpr hb)
      simp [e0, it, op_intS, so _ (by omega : 48 + a < 58)]
      by_cases h0 : a = 0
      · rw [if_pos h0]
        rw [hB]
        apply Bool.eq_false_iff.mpr
        intro hb
        obtain ⟨i, hi, e⟩ := (byteB_iff _).mp hb
        unfold dg at e
        split at e
        · simp at e
        · split at e
          · simp at e; omega
          · simp at e
      · rw [if_neg h0]
        have hb : B = true := hB.trans ((byteB_iff _).mpr ⟨10 * a + b, by omega, by unfold dg; rw [if_neg (by omega), if_pos (by omega)]; simp; omega⟩)
        rw [hb]
        simp
        omega
    · obtain ⟨a, ha, rfl⟩ := dgt x (hall x (by simp))
      obtain ⟨b, hb, rfl⟩ := dgt y (hall y (by simp))
      obtain ⟨c, hc, rfl⟩ := dgt z (hall z (by simp))
      have it := dig3 a (List.mem_range.mpr ha) b (List.mem_range.mpr hb) c (List.mem_range.mpr hc)
      simp [e0, it, op_intS, so _ (by omega : 48 + a < 58)]
      by_cases h0 : a = 0
      · rw [if_pos h0]
        rw [hB]
        apply Bool.eq_false_iff.mpr
        intro hb
        obtain ⟨i, hi, e⟩ := (byteB_iff _).mp hb
        unfold dg at e
        split at e
        · simp at e
        · split at e
          · simp at e
          · simp at e; omega
      · rw [if_neg h0]
        by_cases hv : 100 * a + 10 * b + c ≤ 255
        · have hb : B = true := hB.trans ((byteB_iff _).mpr ⟨100 * a + 10 * b + c, by omega, by unfold dg; rw [if_neg (by omega), if_neg (by omega)]; simp; omega⟩)
          rw [hb]
          simp
          omega
        · have hb : B = false := by
            rw [hB]
            apply Bool.eq_false_iff.mpr
            intro hb
            obtain ⟨i, hi, e⟩ := (byteB_iff _).mp hb
            unfold dg at e
            split at e
            · simp at e
            · split at e
              · simp at e
              · simp at e; omega
          rw [hb]
          simp
          omega
  · have hb := no hd
    split
    · split
      · exact hb
      · split
        · rename_i q1 q2 q3
          exact absurd ⟨by omega, by omega, q3⟩ hd
        · exact hb
    · exact hb
end L89

namespace L89
open PySem PySem.Spec PyProof.Rows L2 ML

theorem run_are_names (k : Nat) : run (k + 1) fn_are_names = defM true 2 (m_are_names (run k)) := rfl
theorem run_is_command (k : Nat) : run (k + 1) fn_is_command = defM true 2 (m_is_command (run k)) := rfl
theorem run__law_all_names (k : Nat) : run (k + 1) fn__law_all_names = defM true 2 (m__law_all_names (run k)) := rfl
theorem run__law_command (k : Nat) : run (k + 1) fn__law_command = defM true 4 (m__law_command (run k)) := rfl
theorem run_split_words (k : Nat) : run (k + 1) fn_split_words = defM true 2 (m_split_words (run k)) := rfl
/-- a word that the code can meet -/
structure Wd (w : Str) : Prop where
  ok : PyData.strOk w = true
  len : w.length ≤ 100
def nmB (w : Str) : Bool := nameB w.cps.toList
def byB (w : Str) : Bool := byteB w.cps.toList
theorem sp_is_name (k : Nat) {w : Str} (h : Wd w) (S : Sto) : run (k + 1) fn_is_name [.str w] S = some (.ok (.bl (nmB w)) S) := by
  obtain ⟨⟨cs⟩⟩ := w
  exact sp_is_name' k cs h.len S _ rfl
theorem sp__law_is_name (k : Nat) {w : Str} (h : Wd w) (S : Sto) : run (k + 1) fn__law_is_name [.str w] S = some (.ok (.bl (nmB w)) S) := by
  obtain ⟨⟨cs⟩⟩ := w
  exact sp__law_is_name' k cs h.len S _ rfl
theorem sp_byte (k : Nat) {w : Str} (h : Wd w) (S : Sto) : run (k + 1) fn_is_byte_word [.str w] S = some (.ok (.bl (byB w)) S) := by
  obtain ⟨⟨cs⟩⟩ := w
  exact sp_is_byte_word k cs h.len h.ok S _ rfl
theorem sp__law_byte (k : Nat) {w : Str} (S : Sto) : run (k + 1) fn__law_is_byte [.str w] S = some (.ok (.bl (byB w)) S) := by
  obtain ⟨⟨cs⟩⟩ := w
  exact sp__law_is_byte k cs S
theorem wm_is_name {k : Nat} {w : Str} (h : Wd w) {S : Sto} {P : Rs Dv → Prop} : Wm (run (k + 1) fn_is_name [.str w]) S P ↔ P (.ok (.bl (nmB w)) S) := wm_eq (sp_is_name k h S)
theorem wm__law_is_name {k : Nat} {w : Str} (h : Wd w) {S : Sto} {P : Rs Dv → Prop} : Wm (run (k + 1) fn__law_is_name [.str w]) S P ↔ P (.ok (.bl (nmB w)) S) := wm_eq (sp__law_is_name k h S)
theorem wm_byte {k : Nat} {w : Str} (h : Wd w) {S : Sto} {P : Rs Dv → Prop} : Wm (run (k + 1) fn_is_byte_word [.str w]) S P ↔ P (.ok (.bl (byB w)) S) := wm_eq (sp_byte k h S)
theorem wm__law_byte {k : Nat} {w : Str} {S : Sto} {P : Rs Dv → Prop} : Wm (run (k + 1) fn__law_is_byte [.str w]) S P ↔ P (.ok (.bl (byB w)) S) := wm_eq (sp__law_byte k S)
theorem lc_strs (ws : List Str) {vs : List Nat} {gf : Dv → Env' → M Env'} {ft : Env' → M Bool} {fe : Env' → M Dv} {fi : Env' → M Sr} {env : Env'} {S : Sto} {P : Rs Dv → Prop} (f : Str → Option Dv) (hl : ws.length ≤ sizeLine)
    (hi : Wm (fi env) S fun r => r = .ok (fun _ => some (ws.map .str)) S) (he : ∀ c ∈ ws, Wm (elM vs gf ft fe env (.str c)) S fun r => r = .ok (f c) S) : Wm (lcF fi vs gf ft fe env) S P ↔ P (.ok (.lst (ws.filterMap f)) S) :=
  lcF_map ws .str f hi rfl hl he
theorem sp_are_names (k : Nat) (ws : List Str) (hw : ∀ w ∈ ws, Wd w) (hl : ws.length ≤ 100) (S : Sto) : run (k + 2) fn_are_names [.lst (ws.map .str)] S = some (.ok (.bl (ws.all nmB)) S) := by
  apply wm_run
  rw [run_are_names, wm_def, m_are_names]
  have hz := szl
  have key : ∀ P, Wm (lcF (iVal (getv 0)) [1] (gSet 1) tYes' (eArg (aCons (getv 1) aNil) (run (k + 1) fn_is_name)) [some (Dv.lst (ws.map .str)), none]) S P ↔ P (.ok (.lst (ws.map fun w => .bl (nmB w))) S) := fun P => by
    rw [lc_strs ws (fun w => some (.bl (nmB w))) (by omega) (by simp) (by intro c hc; simp [wm_is_name (hw c hc)])]
    simp
  simp [key]
theorem sp__law_all_names (k : Nat) (ws : List Str) (hw : ∀ w ∈ ws, Wd w) (S : Sto) : run (k + 2) fn__law_all_names [.lst (ws.map .str)] S = some (.ok (.bl (ws.all nmB)) S) := by
  apply wm_run
  rw [run__law_all_names, wm_def, m__law_all_names]
  simp [ws_for]
  refine for_inv (fun k env S' => S' = S ∧ (∀ x ∈ ws.take k, nmB x = true) ∧ ∃ b, env = [some (Dv.lst (ws.map .str)), b]) ?_ ?_ ?_
  · exact ⟨rfl, by simp, _, rfl⟩
  · rintro i d env S' hd ⟨rfl, hall, b, rfl⟩
    obtain ⟨x, hx, hxm, rfl⟩ := map_at hd
    simp [wm__law_is_name (hw x hxm)]
    cases hm : nmB x with
    | true =>
      simp
      intro y hy
      rw [List.take_add_one, hx, List.mem_append] at hy
      rcases hy with hy | hy
      · exact hall y hy
      · simp at hy
        rw [hy]
        exact hm
    | false =>
      simp
      exact ⟨x, hxm, hm⟩
  · rintro env S' ⟨rfl, hall, b, rfl⟩
    simp
    intro x hx
    exact hall x (by simpa using hx)
@[simp] theorem so_undo : PyData.strOk (Str.ofString "undo") = true := by decide +kernel
@[simp] theorem so_redo : PyData.strOk (Str.ofString "redo") = true := by decide +kernel
@[simp] theorem so_answers : PyData.strOk (Str.ofString "answers") = true := by decide +kernel
@[simp] theorem so_cut : PyData.strOk (Str.ofString "cut") = true := by decide +kernel
@[simp] theorem so_ask : PyData.strOk (Str.ofString "ask") = true := by decide +kernel
@[simp] theorem so_show : PyData.strOk (Str.ofString "show") = true := by decide +kernel
@[simp] theorem so_shapes : PyData.strOk (Str.ofString "shapes") = true := by decide +kernel
@[simp] theorem so_questions : PyData.strOk (Str.ofString "questions") = true := by decide +kernel
@[simp] theorem so_read : PyData.strOk (Str.ofString "read") = true := by decide +kernel
@[simp] theorem so_0 : PyData.strOk (Str.ofString "0") = true := by decide +kernel
/-- a command, by its words -/
theorem wm_are_names {k : Nat} {ws : List Str} (hw : ∀ w ∈ ws, Wd w) (hl : ws.length ≤ 100) {S : Sto} {P : Rs Dv → Prop} : Wm (run (k + 2) fn_are_names [.lst (ws.map .str)]) S P ↔ P (.ok (.bl (ws.all nmB)) S) := wm_eq (sp_are_names k ws hw hl S)
theorem wm__law_all_names {k : Nat} {ws : List Str} (hw : ∀ w ∈ ws, Wd w) {S : Sto} {P : Rs Dv → Prop} : Wm (run (k + 2) fn__law_all_names [.lst (ws.map .str)]) S P ↔ P (.ok (.bl (ws.all nmB)) S) := wm_eq (sp__law_all_names k ws hw S)
def p1 : List Str := ["shape", "drop", "remove", "answer", "print"]
def p0 : List Str := ["undo", "redo", "answers"]
def cmdB (w : Str) (r : List Str) : Bool :=
  if w = "undo" then r.isEmpty else if w = "redo" then r.isEmpty else if w = "answers" then r.isEmpty else if w ∈ p1 then decide (r.length = 1) && r.all nmB else if w = "cut" then decide (r.length = 2) && r.all nmB
  else if w = "ask" then decide (2 < r.length) && r.all nmB else if w = "show" then (decide (r.length = 1) && (match r with | x :: _ => (x == ("shapes" : Str)) || (x == ("questions" : Str)) | [] => false))
  else if w = "read" then (match r with | [] => false | x :: t => nmB x && t.all byB) else false
theorem sp__law_command (k : Nat) (w : Str) (r : List Str) (h0 : Wd w) (hw : ∀ w ∈ r, Wd w) (hl : r.length ≤ 99) (S : Sto) (B : Bool) (hB : B = cmdB w r) (d : Dv) (hd0 : ixD S d (.int 0) = some (.str w)) (hd1 : ∀ P, Wm (slD d (some 1) none) S P ↔ P (.ok (.lst (r.map .str)) S)) : run (k + 3) fn__law_command [d] S = some (.ok (.bl B) S) := by
  apply wm_run
  rw [run__law_command, wm_def, m__law_command]
  have hz := szl
  have ti : ∀ S, inD S (.str w) (.tup [.str "shape", .str "drop", .str "remove", .str "answer", .str "print"]) = some (.bl (decide (w ∈ p1))) := fun S => by
    rw [op_inTup (by rfl)]
    rw [Option.some.injEq, Dv.bl.injEq, Bool.eq_iff_iff]
    simp [p1, @eq_comm _ w]
  rcases hr : r with _ | ⟨x, t⟩
  · subst hr
    subst hB
    simp only [List.map_nil] at hd1
    simp [h0.ok, ti, hd0, hd1, hz]
    unfold cmdB
    by_cases h1 : w = "undo"
    · simp only [if_pos h1] 
      try simp
    by_cases h2 : w = "redo"
    · simp only [if_neg h1, if_pos h2] 
      try simp
    by_cases h3 : w = "answers"
    · simp only [if_neg h1, if_neg h2, if_pos h3] 
      try simp
    by_cases h4 : w ∈ p1
    · simp only [if_neg h1, if_neg h2, if_neg h3, if_pos h4] 
      try simp
    by_cases h5 : w = "cut"
    · simp only [if_neg h1, if_neg h2, if_neg h3, if_neg h4, if_pos h5] 
      try simp
    by_cases h6 : w = "ask"
    · simp only [if_neg h1, if_neg h2, if_neg h3, if_neg h4, if_neg h5, if_pos h6] 
      try simp
    by_cases h7 : w = "show"
    · simp only [if_neg h1, if_neg h2, if_neg h3, if_neg h4, if_neg h5, if_neg h6, if_pos h7] 
      try simp
    simp only [if_neg h1, if_neg h2, if_neg h3, if_neg h4, if_neg h5, if_neg h6, if_neg h7] 
    simp
  · have hx : Wd x := hw x (by rw [hr]; simp)
    have h00 : r[0]? = some x := by rw [hr]; rfl
    have c2 : cutG (r.map Dv.str) (some 1) none = t.map .str := by
      rw [show (1 : Int) = ((1 : Nat) : Int) from rfl, cutG_tail, hr]
      rfl
    have hl1 : r.length = t.length + 1 := by rw [hr]; rfl
    simp [hd0, hd1, h0.ok, ti, h00, wm__law_is_name hx, wm__law_all_names hw, c2, hx.ok, ws_for, hz]
    have hn : r.isEmpty = false := by rw [hr]; rfl
    have ha : r.all nmB = (nmB x && t.all nmB) := by rw [hr]; rfl
    unfold cmdB at hB
    by_cases h1 : w = "undo"
    · simp only [if_pos h1] at hB ⊢
      rw [hB, hn, beq_eq_false_iff_ne]; omega
    by_cases h2 : w = "redo"
    · simp only [if_neg h1, if_pos h2] at hB ⊢
      rw [hB, hn, beq_eq_false_iff_ne]; omega
    by_cases h3 : w = "answers"
    · simp only [if_neg h1, if_neg h2, if_pos h3] at hB ⊢
      rw [hB, hn, beq_eq_false_iff_ne]; omega
    by_cases h4 : w ∈ p1
    · simp only [if_neg h1, if_neg h2, if_neg h3, if_pos h4] at hB ⊢
      split
      · have ht : t = [] := List.length_eq_zero_iff.mp (by omega)
        rw [hB, decide_eq_true (by omega : r.length = 1), ha, ht]
        simp
      · rw [hB, decide_eq_false (by omega : ¬ r.length = 1)]
        rfl
    by_cases h5 : w = "cut"
    · simp only [if_neg h1, if_neg h2, if_neg h3, if_neg h4, if_pos h5] at hB ⊢
      split
      · rw [hB, decide_eq_true (by omega : r.length = 2)]
        simp
      · rw [hB, decide_eq_false (by omega : ¬ r.length = 2)]
        rfl
    by_cases h6 : w = "ask"
    · simp only [if_neg h1, if_neg h2, if_neg h3, if_neg h4, if_neg h5, if_pos h6] at hB ⊢
      split
      · rw [hB, decide_eq_true (by omega : 2 < r.length)]
        simp
      · rw [hB, decide_eq_false (by omega : ¬ 2 < r.length)]
        rfl
    by_cases h7 : w = "show"
    · simp only [if_neg h1, if_neg h2, if_neg h3, if_neg h4, if_neg h5, if_neg h6, if_pos h7] at hB ⊢
      split
      · rw [hB, decide_eq_true (by omega : r.length = 1), hr]
        dsimp only
        split
        · rename_i hs
          rw [hs]
          simp
        · rename_i hs
          rw [beq_eq_false_iff_ne.mpr hs]
          simp
      · rw [hB, decide_eq_false (by omega : ¬ r.length = 1)]
        rfl
    by_cases h8 : w = "read"
    · simp only [if_neg h1, if_neg h2, if_neg h3, if_neg h4, if_neg h5, if_neg h6, if_neg h7, if_pos h8] at hB ⊢
      have hB' : B = (nmB x && t.all byB) := by rw [hB, hr]
      rw [if_neg (by rw [hr]; simp)]
      split
      · rename_i hm
        rw [hm, Bool.true_and] at hB'
        refine for_inv (fun i env S' => S' = S ∧ (∀ y ∈ t.take i, byB y = true) ∧ ∃ b, env = [some d, some (Dv.str w), some (Dv.lst (r.map Dv.str)), b]) ?_ ?_ ?_
        · exact ⟨rfl, by simp, _, rfl⟩
        · rintro i d' env S' hd ⟨rfl, hall, b, rfl⟩
          obtain ⟨y, hy, hym, rfl⟩ := map_at hd
          simp [wm__law_byte]
          cases hm2 : byB y with
          | true =>
            simp
            intro z hz2
            rw [List.take_add_one, hy, List.mem_append] at hz2
            rcases hz2 with hz2 | hz2
            · exact hall z hz2
            · simp at hz2
              rw [hz2]
              exact hm2
          | false =>
            simp
            rw [hB']
            exact List.all_eq_false.mpr ⟨y, hym, by simp [hm2]⟩
        · rintro env S' ⟨rfl, hall, b, rfl⟩
          simp
          rw [hB']
          exact List.all_eq_true.mpr fun y hy => hall y (by simpa using hy)
      · rename_i hm
        rw [hB', Bool.eq_false_iff.mpr hm]
        rfl
    simp only [if_neg h1, if_neg h2, if_neg h3, if_neg h4, if_neg h5, if_neg h6, if_neg h7, if_neg h8] at hB ⊢
    exact hB
theorem cmd_plain (w : Str) (r : List Str) : (∃ n : Nat, k_PLAIN.lookup w = some (.int n) ∧ cmdB w r = (decide (r.length = n) && r.all nmB)) ∨ (k_PLAIN.lookup w = none ∧ w ≠ "undo" ∧ w ≠ "redo" ∧ w ≠ "answers" ∧ w ∉ p1 ∧ w ≠ "cut") := by
  have em : r.isEmpty = (decide (r.length = 0) && r.all nmB) := by cases r <;> simp
  by_cases e_shape : w = "shape"
  · refine .inl ⟨1, ?_, ?_⟩
    · rw [e_shape]; rfl
    · rw [e_shape]
      unfold cmdB
      rw [if_neg (by decide +kernel : ¬ (Str.ofString "shape") = Str.ofString "undo"), if_neg (by decide +kernel : ¬ (Str.ofString "shape") = Str.ofString "redo"), if_neg (by decide +kernel : ¬ (Str.ofString "shape") = Str.ofString "answers"), if_pos (by decide +kernel : Str.ofString "shape" ∈ p1)]
  by_cases e_cut : w = "cut"
  · refine .inl ⟨2, ?_, ?_⟩
    · rw [e_cut]; rfl
    · rw [e_cut]
      unfold cmdB
      rw [if_neg (by decide +kernel : ¬ (Str.ofString "cut") = Str.ofString "undo"), if_neg (by decide +kernel : ¬ (Str.ofString "cut") = Str.ofString "redo"), if_neg (by decide +kernel : ¬ (Str.ofString "cut") = Str.ofString "answers"), if_neg (by decide +kernel : ¬ Str.ofString "cut" ∈ p1), if_pos rfl]
  by_cases e_drop : w = "drop"
  · refine .inl ⟨1, ?_, ?_⟩
    · rw [e_drop]; rfl
    · rw [e_drop]
      unfold cmdB
      rw [if_neg (by decide +kernel : ¬ (Str.ofString "drop") = Str.ofString "undo"), if_neg (by decide +kernel : ¬ (Str.ofString "drop") = Str.ofString "redo"), if_neg (by decide +kernel : ¬ (Str.ofString "drop") = Str.ofString "answers"), if_pos (by decide +kernel : Str.ofString "drop" ∈ p1)]
  by_cases e_remove : w = "remove"
  · refine .inl ⟨1, ?_, ?_⟩
    · rw [e_remove]; rfl
    · rw [e_remove]
      unfold cmdB
      rw [if_neg (by decide +kernel : ¬ (Str.ofString "remove") = Str.ofString "undo"), if_neg (by decide +kernel : ¬ (Str.ofString "remove") = Str.ofString "redo"), if_neg (by decide +kernel : ¬ (Str.ofString "remove") = Str.ofString "answers"), if_pos (by decide +kernel : Str.ofString "remove" ∈ p1)]
  by_cases e_undo : w = "undo"
  · refine .inl ⟨0, ?_, ?_⟩
    · rw [e_undo]; rfl
    · rw [e_undo]
      unfold cmdB
      rw [if_pos rfl, em]
  by_cases e_redo : w = "redo"
  · refine .inl ⟨0, ?_, ?_⟩
    · rw [e_redo]; rfl
    · rw [e_redo]
      unfold cmdB
      rw [if_neg (by decide +kernel : ¬ (Str.ofString "redo") = Str.ofString "undo"), if_pos rfl, em]
  by_cases e_answer : w = "answer"
  · refine .inl ⟨1, ?_, ?_⟩
    · rw [e_answer]; rfl
    · rw [e_answer]
      unfold cmdB
      rw [if_neg (by decide +kernel : ¬ (Str.ofString "answer") = Str.ofString "undo"), if_neg (by decide +kernel : ¬ (Str.ofString "answer") = Str.ofString "redo"), if_neg (by decide +kernel : ¬ (Str.ofString "answer") = Str.ofString "answers"), if_pos (by decide +kernel : Str.ofString "answer" ∈ p1)]
  by_cases e_answers : w = "answers"
  · refine .inl ⟨0, ?_, ?_⟩
    · rw [e_answers]; rfl
    · rw [e_answers]
      unfold cmdB
      rw [if_neg (by decide +kernel : ¬ (Str.ofString "answers") = Str.ofString "undo"), if_neg (by decide +kernel : ¬ (Str.ofString "answers") = Str.ofString "redo"), if_pos rfl, em]
  by_cases e_print : w = "print"
  · refine .inl ⟨1, ?_, ?_⟩
    · rw [e_print]; rfl
    · rw [e_print]
      unfold cmdB
      rw [if_neg (by decide +kernel : ¬ (Str.ofString "print") = Str.ofString "undo"), if_neg (by decide +kernel : ¬ (Str.ofString "print") = Str.ofString "redo"), if_neg (by decide +kernel : ¬ (Str.ofString "print") = Str.ofString "answers"), if_pos (by decide +kernel : Str.ofString "print" ∈ p1)]
  refine .inr ⟨?_, e_undo, e_redo, e_answers, by unfold p1; simp only [List.mem_cons, List.not_mem_nil, or_false]; rintro (h | h | h | h | h) <;> contradiction, e_cut⟩
  · have ne : ∀ x : Str, w ≠ x → (w == x) = false := fun x h => beq_eq_false_iff_ne.mpr h
    unfold k_PLAIN
    simp only [List.lookup, ne _ e_shape, ne _ e_cut, ne _ e_drop, ne _ e_remove, ne _ e_undo, ne _ e_redo, ne _ e_answer, ne _ e_answers, ne _ e_print]
theorem sp_is_command (k : Nat) (w : Str) (r : List Str) (h0 : Wd w) (hw : ∀ w ∈ r, Wd w) (hl : r.length ≤ 99) (S : Sto) (B : Bool) (hB : B = cmdB w r) : run (k + 3) fn_is_command [.lst ((w :: r).map .str)] S = some (.ok (.bl B) S) := by
  apply wm_run
  rw [run_is_command, wm_def, m_is_command]
  have hz := szl
  have c1 : cutG (Dv.str w :: r.map .str) (some 1) none = r.map .str := by
    rw [show (1 : Int) = ((1 : Nat) : Int) from rfl, cutG_tail]
    rfl
  have c2 : cutG (Dv.str w :: r.map .str) (some 2) none = (r.drop 1).map .str := by
    rw [show (2 : Int) = ((2 : Nat) : Int) from rfl, cutG_tail, List.map_drop]
    rfl
  have ti : ∀ S x, inD S (.str x) (.tup [.str "shapes", .str "questions"]) = some (.bl ((x == ("shapes" : Str)) || (x == ("questions" : Str)))) := fun S x => by
    rw [op_inTup (by rfl)]
    rw [Option.some.injEq, Dv.bl.injEq, Bool.eq_iff_iff]
    simp [@eq_comm _ x]
  have key : ∀ P, Wm (lcF (iVal (eSl slD (getv 0) (oSome (eC (Dv.int 2))) oNone)) [1] (gSet 1) tYes' (eArg (aCons (getv 1) aNil) (run (k + 2) fn_is_byte_word)) [some (Dv.lst (Dv.str w :: r.map .str)), none]) S P ↔ P (.ok (.lst ((r.drop 1).map fun w => .bl (byB w))) S) := fun P => by
    rw [lc_strs (r.drop 1) (fun w => some (.bl (byB w))) (by simp; omega) (by simp [c2]) (by intro c hc; simp [wm_byte (hw c (List.mem_of_mem_drop hc))])]
    simp
  rcases cmd_plain w r with ⟨n, e1, e2⟩ | ⟨e1, n1, n2, n3, n4, n5⟩
  · rw [e2] at hB
    simp [c1, h0.ok, wm_are_names hw (by omega : r.length ≤ 100), e1]
    split
    · rw [hB, decide_eq_true (by omega : r.length = n)]
      simp
    · rw [hB, decide_eq_false (by omega : ¬ r.length = n)]
      rfl
  · unfold cmdB at hB
    simp only [if_neg n1, if_neg n2, if_neg n3, if_neg n4, if_neg n5] at hB
    rcases hr : r with _ | ⟨x, t⟩
    · subst hr
      simp [h0.ok, e1]
      rw [hB]
      simp
    · have hx : Wd x := hw x (by rw [hr]; simp)
      have h00 : r[0]? = some x := by rw [hr]; rfl
      have ht : r.drop 1 = t := by rw [hr]; rfl
      have hl1 : r.length = t.length + 1 := by rw [hr]; rfl
      rw [← hr]
      simp [c1, h0.ok, ti, h00, wm_is_name hx, wm_are_names hw (by omega : r.length ≤ 100), key, ht, hx.ok, e1]
      split
      · rename_i h6
        rw [if_pos h6] at hB
        split
        · rw [hB, decide_eq_true (by omega : 2 < r.length)]
          simp
        · rw [hB, decide_eq_false (by omega : ¬ 2 < r.length)]
          rfl
      · rename_i h6
        rw [if_neg h6] at hB
        split
        · rename_i h8
          rw [if_neg (by rw [h8]; decide +kernel), if_pos h8, hr] at hB
          dsimp only at hB
          rw [if_pos (by omega)]
          split
          · rename_i hm
            rw [hB, hm]
            simp
          · rename_i hm
            rw [hB, Bool.eq_false_iff.mpr hm]
            rfl
        · rename_i h8
          rw [if_neg h8] at hB
          split
          · rename_i h7
            rw [if_pos h7] at hB
            split
            · rw [hB, decide_eq_true (by omega : r.length = 1), hr]
              rfl
            · rw [hB, decide_eq_false (by omega : ¬ r.length = 1)]
              rfl
          · rename_i h7
            rw [if_neg h7] at hB
            exact hB
end L89

namespace L89
open PySem PySem.Spec PyProof.Rows L2 ML
theorem run__law_word (k : Nat) : run (k + 1) fn__law_word = defM true 7 (m__law_word (run k)) := rfl
theorem run__law_formed (k : Nat) : run (k + 1) fn__law_formed = defM false 7 (m__law_formed (run k)) := rfl
theorem run_law (k : Nat) : run (k + 1) fn_law = defM true 11 (m_law (run k)) := rfl
/-- a word of the law -/
structure Wz (w : Str) : Prop where
  ok : ∀ c ∈ cd w, 33 ≤ c ∧ c < 127
  pos : 1 ≤ w.length
  len : w.length ≤ 20
theorem Wz.wd {w : Str} (h : Wz w) : Wd w := ⟨(strOk_iff w).mpr fun c hc => by have := h.ok c hc; omega, by have := h.len; omega⟩
theorem sp_split (k : Nat) (z : Str) (h : PyData.strOk z = true) (hl : z.length ≤ 1000000) (S : Sto) : run (k + 1) fn_split_words [.str z] S = some (.ok (.lst ((toks z).map .str)) S) := by
  apply wm_run
  rw [run_split_words, wm_def, m_split_words]
  have hz := szl
  have e1 : Str.ofString " " = ⟨#[32]⟩ := by decide +kernel
  have e2 : Str.ofString "" = ⟨#[]⟩ := by decide +kernel
  have so : PyData.strOk (⟨#[]⟩ : Str) = true := by decide +kernel
  have hle := split_le z ⟨#[32]⟩
  have key : ∀ P, Wm (lcF (iVal (eMt "str" (getv 0) (aCons (eC (Dv.str " ")) aNil) (opM splitD))) [1] (gSet 1) (tB (eOp neD (getv 1) (eC (Dv.str "")))) (getv 1) [some (Dv.str z), none]) S P ↔ P (.ok (.lst ((toks z).map .str)) S) := fun P => by
    rw [lc_strs (Txt.split z ⟨#[32]⟩) (fun w => if w = ⟨#[]⟩ then none else some (.str w)) (by omega) ?_ ?_]
    · rw [← split_toks]
      have : ∀ l : List Str, l.filterMap (fun w => if w = (⟨#[]⟩ : Str) then none else some (Dv.str w)) = (l.filter fun w => decide (w ≠ (⟨#[]⟩ : Str))).map .str := by
        intro l
        induction l with
        | nil => rfl
        | cons a r ih => by_cases e : a = ⟨#[]⟩ <;> simp [e, ih]
      rw [this]
    · simp [splitD, e1, hz]
      try omega
    · intro c hc
      simp [e2, so, strOk_part h hc]
  simp [key]
def LW : List Str := ["shape", "drop", "remove", "undo", "redo", "answer", "answers", "print", "cut", "ask", "read", "show", "shapes", "questions", "done", "ways", "covers", "0", "255", "256", "00", "+1", "1_0"]
theorem LW_ok : ∀ w ∈ LW, (∀ c ∈ cd w, 33 ≤ c ∧ c < 127) ∧ 1 ≤ w.length ∧ w.length ≤ 20 := by decide +kernel
theorem NM_len : (cd NM).length = 36 := by decide +kernel
theorem NM_rng : ∀ c ∈ cd NM, 33 ≤ c ∧ c < 127 := by decide +kernel
theorem nm_at {i : Int} (h0 : 0 ≤ i) (h1 : i < 36) : L2.atI (Str.ofString "abcdefghijklmnopqrstuvwxyz0123456789").cps.toList i = some ((cd NM).getD i.toNat 0) := by
  show L2.atI (cd NM) i = _
  rw [atI_nn h0, List.getD_eq_getElem?_getD]
  have : i.toNat < (cd NM).length := by rw [NM_len]; omega
  rw [List.getElem?_eq_getElem this]
  rfl
theorem nm_mem {i : Nat} (h1 : i < 36) : (cd NM).getD i 0 ∈ cd NM := by
  have : i < (cd NM).length := by rw [NM_len]; omega
  rw [List.getD_eq_getElem?_getD, List.getElem?_eq_getElem this]
  exact List.getElem_mem _
theorem sp__law_word (k : Nat) (a b : Int) (ha : 0 ≤ a ∧ a < 1009) (hb : 0 ≤ b ∧ b < 1009) (S : Sto) : Wm (run (k + 1) fn__law_word [.int a, .int b]) S fun r => ∃ w, Wz w ∧ r = .ok (.str w) S := by
  rw [run__law_word, wm_def, m__law_word]
  have hz := szl
  have m4 : ∀ x : Int, 0 ≤ x.fmod 4 ∧ x.fmod 4 < 4 := fun x => by rw [Int.fmod_eq_emod_of_nonneg _ (by decide)]; omega
  have md : ∀ x m : Int, 0 < m → 0 ≤ x.fmod m ∧ x.fmod m < m := fun x m hm => by
    rw [Int.fmod_eq_emod_of_nonneg _ (by omega)]
    exact ⟨Int.emod_nonneg _ (by omega), Int.emod_lt_of_pos _ hm⟩
  have sN : (Str.ofString "abcdefghijklmnopqrstuvwxyz0123456789").length = 36 := by decide +kernel
  have mem : ∀ i : Int, 0 ≤ i → i < 36 → 33 ≤ (cd NM).getD i.toNat 0 ∧ (cd NM).getD i.toNat 0 < 127 := fun i h0 h1 => NM_rng _ (nm_mem (by omega))
  simp [hz]
  split
  · have e : ∃ w ∈ LW, L2.atI (LW.map Dv.str) ((a.fdiv 4).fmod 23) = some (.str w) := by
      have h1 := md (a.fdiv 4) 23 (by decide)
      rw [atI_nn h1.1, List.getElem?_map]
      have : ((a.fdiv 4).fmod 23).toNat < LW.length := by
        show _ < 23
        omega
      rw [List.getElem?_eq_getElem this]
      exact ⟨_, List.getElem_mem _, rfl⟩
    obtain ⟨w, hw, e⟩ := e
    show wopt (L2.atI (LW.map Dv.str) ((a.fdiv 4).fmod 23)) _
    rw [e]
    have h2 := LW_ok w hw
    simp
    exact ⟨h2.1, h2.2.1, h2.2.2⟩
  · have h1 := md (a.fdiv 4) 4 (by decide)
    obtain ⟨n, hn⟩ : ∃ n : Nat, 1 + (a.fdiv 4).fmod 4 = n := ⟨(1 + (a.fdiv 4).fmod 4).toNat, by omega⟩
    rw [hn]
    split
    · obtain ⟨f, hf⟩ : ∃ f : Nat → Nat, ∀ i : Nat, f i = (cd NM).getD (26 + (b + (i : Int) * i + a.fdiv 20).fmod 10).toNat 0 := ⟨_, fun _ => rfl⟩
      rw [lcF_map (List.range n) (fun i : Nat => .int (0 + i)) (fun i : Nat => some (.str ⟨#[f i]⟩)) (src := fun _ => some ((List.range n).map fun i : Nat => .int (0 + i))) (by simp; omega) rfl (by simp; omega) (by
        intro i hi
        have hi2 := List.mem_range.mp hi
        have h3 := md (b + (i : Int) * i + a.fdiv 20) 10 (by decide)
        rw [hf]
        simp [sN, hz, nm_at (i := 26 + (b + (i : Int) * i + a.fdiv 20).fmod 10) (by omega) (by omega)]
        omega)]
      simp [join_chars (show n ≤ 1000 by omega)]
      refine ⟨?_, ?_, ?_⟩
      · intro c hc
        simp at hc
        obtain ⟨i, hi, rfl⟩ := hc
        have h3 := md (b + (i : Int) * i + a.fdiv 20) 10 (by decide)
        rw [hf]
        exact mem (26 + (b + (i : Int) * i + a.fdiv 20).fmod 10) (by omega) (by omega)
      · rw [cds_len]; simp; omega
      · rw [cds_len]; simp; omega
    · have h5 := md (a.fdiv 20) 11 (by decide)
      obtain ⟨m, hm⟩ : ∃ m : Nat, (n : Int) + (a.fdiv 20).fmod 11 = m := ⟨((n : Int) + (a.fdiv 20).fmod 11).toNat, by omega⟩
      obtain ⟨f, hf⟩ : ∃ f : Nat → Nat, ∀ i : Nat, f i = (cd NM).getD ((b + 11 * (i : Int) * a + i).fmod 36).toNat 0 := ⟨_, fun _ => rfl⟩
      rw [lcF_map (List.range m) (fun i : Nat => .int (0 + i)) (fun i : Nat => some (.str ⟨#[f i]⟩)) (src := fun _ => some ((List.range m).map fun i : Nat => .int (0 + i))) (by simp [hm]; omega) rfl (by simp; omega) (by
        intro i hi
        have hi2 := List.mem_range.mp hi
        have h3 := md (b + 11 * (i : Int) * a + i) 36 (by decide)
        rw [hf]
        simp [sN, hz, nm_at (i := (b + 11 * (i : Int) * a + i).fmod 36) (by omega) (by omega)]
        omega)]
      simp [join_chars (show m ≤ 1000 by omega)]
      have hw : ∀ c ∈ (List.range m).map f, 33 ≤ c ∧ c < 127 := by
        intro c hc
        obtain ⟨i, hi, rfl⟩ := List.mem_map.mp hc
        have h3 := md (b + 11 * (i : Int) * a + i) 36 (by decide)
        rw [hf]
        exact mem _ (by omega) (by omega)
      have hlen : ((List.range m).map f).length = m := by simp
      generalize (List.range m).map f = l at hw hlen
      have eU : cd (Str.ofString "_") = [95] := by decide +kernel
      have eA : cd (Str.ofString "A") = [65] := by decide +kernel
      have c1 : cd (cutS ⟨⟨l⟩⟩ none (some 2)) = l.take 2 := by
        rw [cd_cut, show (2 : Int) = ((2 : Nat) : Int) from rfl, cutG_head]
      have c2 : cd (cutS ⟨⟨l⟩⟩ (some 2) none) = l.drop 2 := by
        rw [cd_cut, show (2 : Int) = ((2 : Nat) : Int) from rfl, cutG_tail]
      split
      · have e3 : cd (cutS ⟨⟨l⟩⟩ none (some 2) ++ Str.ofString "_" ++ cutS ⟨⟨l⟩⟩ (some 2) none) = l.take 2 ++ [95] ++ l.drop 2 := by
          rw [cd_append, cd_append, c1, c2, eU]
        refine ⟨by omega, ?_, by omega, ?_, ?_, ?_, ?_⟩
        · rw [cds_len, cds_len, c1, eU]; simp; omega
        · rw [cds_len, cds_len, cd_append, c1, c2, eU]; simp; omega
        · rw [e3]
          intro c hc
          simp at hc
          rcases hc with hc | rfl | hc
          · exact hw c (List.mem_of_mem_take hc)
          · decide
          · exact hw c (List.mem_of_mem_drop hc)
        · rw [cds_len, e3]; simp; omega
        · rw [cds_len, e3]; simp; omega
      · split
        · have e3 : cd ((⟨⟨l⟩⟩ : Str) ++ Str.ofString "A") = l ++ [65] := by rw [cd_append, eA]
          refine ⟨?_, ?_, ?_, ?_⟩
          · rw [cds_len, eA]; simp; omega
          · rw [e3]
            intro c hc
            simp at hc
            rcases hc with hc | rfl
            · exact hw c hc
            · decide
          · rw [cds_len, e3]; simp; try omega
          · rw [cds_len, e3]; simp; omega
        · refine ⟨hw, ?_, ?_⟩
          · rw [cds_len]; simp; omega
          · rw [cds_len]; simp; omega
end L89

namespace L89
open PySem PySem.Spec PyProof.Rows L2 ML
theorem wm_listC {l : List Dv} {S : Sto} {P : Rs Dv → Prop} : Wm (listC [.lst l]) S P ↔ l.length ≤ sizeLine ∧ P (.ok (.ref S.length) (S ++ [.lst l])) := by
  have e : listC [.lst l] S = mkC l S := rfl
  unfold Wm at *
  rw [e]
  exact wm_mkC
theorem Wz_lit {w : Str} (h : (∀ c ∈ cd w, 33 ≤ c ∧ c < 127) ∧ 1 ≤ w.length ∧ w.length ≤ 20) : Wz w := ⟨h.1, h.2.1, h.2.2⟩
theorem head_app {α : Type} {l : List α} {a b c d e : α} (p : α → Prop) (h : ∀ x ∈ l, p x) (ha : p a) (hb : p b) (hc : p c) (hd : p d) (he : p e) : ∃ x y r, l ++ [a, b, c, d, e] = x :: y :: r ∧ p x ∧ p y ∧ ∀ z ∈ r, p z := by
  rcases l with _ | ⟨x, _ | ⟨y, r⟩⟩
  · exact ⟨a, b, [c, d, e], rfl, ha, hb, by simp [hc, hd, he]⟩
  · exact ⟨x, a, [b, c, d, e], rfl, h x (by simp), ha, by simp [hb, hc, hd, he]⟩
  · refine ⟨x, y, r ++ [a, b, c, d, e], rfl, h x (by simp), h y (by simp), ?_⟩
    intro z hz
    rcases List.mem_append.mp hz with hz | hz
    · exact h z (by simp [hz])
    · simp at hz
      rcases hz with rfl | rfl | rfl | rfl | rfl <;> assumption
theorem sp__law_formed (k : Nat) (ws : List Str) (a b : Int) (hw : ∀ w ∈ ws, Wz w) (hl : ws.length ≤ 100) (ha : 0 ≤ a) (hb : 0 ≤ b) :
    Wm (run (k + 2) fn__law_formed [.lst (ws.map .str), .int a, .int b]) [] fun r => ∃ l : List Str, l ≠ [] ∧ l.length ≤ 10 ∧ (∀ w ∈ l, Wz w) ∧ r = .ok (.ref 0) [.lst (l.map .str)] := by
  rw [run__law_formed, wm_def, m__law_formed]
  have hz := szl
  have k1 : ∀ P, Wm (lcF (iVal (getv 0)) [4] (gSet 4) (tTru (eArg (aCons (getv 4) aNil) (run (k + 1) fn__law_is_name))) (getv 4) [some (Dv.lst (ws.map .str)), some (.int a), some (.int b), none, none, none, none]) [] P ↔ P (.ok (.lst ((ws.filter nmB).map .str)) []) := fun P => by
    rw [lc_strs ws (fun w => if nmB w = true then some (.str w) else none) (by omega) (by simp) (by intro c hc; simp [wm__law_is_name (hw c hc).wd])]
    have : ∀ l : List Str, l.filterMap (fun w => if nmB w = true then some (Dv.str w) else none) = (l.filter nmB).map .str := by
      intro l
      induction l with
      | nil => rfl
      | cons a r ih => by_cases e : nmB a = true <;> simp [e, ih]
    rw [this]
  have k2 : ∀ x P, Wm (lcF (iVal (getv 0)) [4] (gSet 4) (tTru (eArg (aCons (getv 4) aNil) (run (k + 1) fn__law_is_byte))) (getv 4) [some (Dv.lst (ws.map .str)), some (.int a), some (.int b), x, none, none, none]) [] P ↔ P (.ok (.lst ((ws.filter byB).map .str)) []) := fun x P => by
    rw [lc_strs ws (fun w => if byB w = true then some (.str w) else none) (by omega) (by simp) (by intro c hc; simp [wm__law_byte])]
    have : ∀ l : List Str, l.filterMap (fun w => if byB w = true then some (Dv.str w) else none) = (l.filter byB).map .str := by
      intro l
      induction l with
      | nil => rfl
      | cons a r ih => by_cases e : byB a = true <;> simp [e, ih]
    rw [this]
  obtain ⟨x, y, r, e1, hx, hy, hr⟩ := head_app (l := ws.filter nmB) Wz (a := ("a" : Str)) (b := ("b" : Str)) (c := ("c" : Str)) (d := ("d" : Str)) (e := ("e" : Str)) (fun w h => hw w ((List.mem_filter.mp h).1)) (Wz_lit (by decide +kernel)) (Wz_lit (by decide +kernel)) (Wz_lit (by decide +kernel)) (Wz_lit (by decide +kernel)) (Wz_lit (by decide +kernel))
  have e2 : (ws.filter nmB).map Dv.str ++ [.str "a", .str "b", .str "c", .str "d", .str "e"] = .str x :: .str y :: r.map .str := by
    have := congrArg (List.map Dv.str) e1
    simpa using this
  have f1 : (ws.filter nmB).length ≤ ws.length := List.length_filter_le _ _
  have f2 : (ws.filter byB).length ≤ ws.length := List.length_filter_le _ _
  have md : ∀ x m : Int, 0 < m → 0 ≤ x.fmod m ∧ x.fmod m < m := fun x m hm => by
    rw [Int.fmod_eq_emod_of_nonneg _ (by omega)]
    exact ⟨Int.emod_nonneg _ (by omega), Int.emod_lt_of_pos _ hm⟩
  obtain ⟨q, q1, q2, q3⟩ : ∃ q : List Str, cutG (.str x :: .str y :: r.map Dv.str) (some 2) (some (3 + b.fmod 3)) = q.map .str ∧ q.length ≤ 3 ∧ ∀ w ∈ q, Wz w := by
    refine ⟨cutG (x :: y :: r) (some 2) (some (3 + b.fmod 3)), cutG_map (l := x :: y :: r), ?_, fun w h => ?_⟩
    · refine Nat.le_trans cutG_len ?_
      have h1 := md b 3 (by decide)
      rw [sIx_nn (by omega), sIx_nn (by decide)]
      simp
      omega
    · have := cutG_mem h
      simp at this
      rcases this with rfl | rfl | h
      · exact hx
      · exact hy
      · exact hr w h
  obtain ⟨p, p1, p2, p3⟩ : ∃ p : List Str, cutG ((ws.filter byB).map Dv.str ++ [.str "0", .str "9", .str "255"]) none (some (b.fmod 4)) = p.map .str ∧ p.length ≤ 3 ∧ ∀ w ∈ p, Wz w := by
    have e : (ws.filter byB).map Dv.str ++ [.str "0", .str "9", .str "255"] = (ws.filter byB ++ ([("0" : Str), "9", "255"] : List Str)).map Dv.str := by simp
    refine ⟨cutG (ws.filter byB ++ ([("0" : Str), "9", "255"] : List Str)) none (some (b.fmod 4)), by rw [e, cutG_map], ?_, fun w h => ?_⟩
    · refine Nat.le_trans cutG_len ?_
      have h1 := md b 4 (by decide)
      rw [sIx_nn (by omega)]
      simp
      omega
    · have := cutG_mem h
      rw [List.mem_append] at this
      rcases this with h | h
      · exact hw w (List.mem_filter.mp h).1
      · simp at h
        rcases h with rfl | rfl | rfl
        · exact Wz_lit (by decide +kernel)
        · exact Wz_lit (by decide +kernel)
        · exact Wz_lit (by decide +kernel)
  obtain ⟨s, s1, s2⟩ : ∃ s : Str, L2.atI [Dv.str "shapes", Dv.str "questions"] (b.fmod 2) = some (.str s) ∧ Wz s := by
    have h1 := md b 2 (by decide)
    have h2 : b.fmod 2 = 0 ∨ b.fmod 2 = 1 := by omega
    rcases h2 with h2 | h2
    · exact ⟨"shapes", by rw [h2]; rfl, Wz_lit (by decide +kernel)⟩
    · exact ⟨"questions", by rw [h2]; rfl, Wz_lit (by decide +kernel)⟩
  simp [k1, k2, hz, e2, q1, p1, s1]
  refine ⟨by omega, by omega, by omega, by omega, ?_⟩
  have F : ∃ F : List (List Str), F = [[("shape" : Str), x], [("drop" : Str), x], [("remove" : Str), x], [("undo" : Str)], [("redo" : Str)], [("answers" : Str)], [("answer" : Str), x], [("print" : Str), x], [("show" : Str), s], [("cut" : Str), x, y], ("ask" : Str) :: x :: y :: q, ("read" : Str) :: x :: p] := ⟨_, rfl⟩
  obtain ⟨F, hF⟩ := F
  have hall : ∀ l ∈ F, l ≠ [] ∧ l.length ≤ 10 ∧ ∀ w ∈ l, Wz w := by
    rw [hF]
    have w1 : Wz "shape" := Wz_lit (by decide +kernel)
    have w2 : Wz "drop" := Wz_lit (by decide +kernel)
    have w3 : Wz "remove" := Wz_lit (by decide +kernel)
    have w4 : Wz "undo" := Wz_lit (by decide +kernel)
    have w5 : Wz "redo" := Wz_lit (by decide +kernel)
    have w6 : Wz "answers" := Wz_lit (by decide +kernel)
    have w7 : Wz "answer" := Wz_lit (by decide +kernel)
    have w8 : Wz "print" := Wz_lit (by decide +kernel)
    have w9 : Wz "show" := Wz_lit (by decide +kernel)
    have w10 : Wz "cut" := Wz_lit (by decide +kernel)
    have w11 : Wz "ask" := Wz_lit (by decide +kernel)
    have w12 : Wz "read" := Wz_lit (by decide +kernel)
    simp [w1, w2, w3, w4, w5, w6, w7, w8, w9, w10, w11, w12, hx, hy, s2]
    exact ⟨⟨by omega, q3⟩, by omega, p3⟩
  have hat : ∃ l ∈ F, L2.atI (F.map fun l => Dv.lst (l.map .str)) (a.fmod 12) = some (.lst (l.map .str)) := by
    have h1 := md a 12 (by decide)
    rw [atI_nn h1.1, List.getElem?_map]
    have : (a.fmod 12).toNat < F.length := by
      rw [hF]
      show _ < 12
      omega
    rw [List.getElem?_eq_getElem this]
    exact ⟨_, List.getElem_mem _, rfl⟩
  obtain ⟨l, hl1, hl2⟩ := hat
  rw [hF] at hl2
  simp only [List.map_cons, List.map_nil] at hl2
  rw [hl2]
  obtain ⟨g1, g2, g3⟩ := hall l hl1
  simp [wm_listC, hz]
  exact ⟨by omega, l, g1, g2, g3, rfl⟩
end L89

namespace L89
open PySem PySem.Spec PyProof.Rows L2 ML
theorem md (x m : Int) (hm : 0 < m) : 0 ≤ x.fmod m ∧ x.fmod m < m := by
  rw [Int.fmod_eq_emod_of_nonneg _ (by omega)]
  exact ⟨Int.emod_nonneg _ (by omega), Int.emod_lt_of_pos _ hm⟩
theorem spaces (n : Int) : cd (Txt.mul (Str.ofString " ") n) = List.replicate n.toNat 32 := by
  have e1 : cd (Str.ofString " ") = [32] := by decide +kernel
  rw [cd_mul, e1]
  induction n.toNat with
  | zero => rfl
  | succ n ih => rw [List.replicate_succ, List.replicate_succ, List.flatten_cons, ih]; rfl
theorem law_true (ns : List Int) (hn : ns.length ≤ 63) : ∃ S', run 12 fn_law [.scr (ns.map Dv.int)] [] = some (.ok (.bl true) S') := by
  suffices h : Wm (run 12 fn_law [.scr (ns.map Dv.int)]) [] fun r => ∃ S', r = .ok (.bl true) S' by
    obtain ⟨r, e, S', rfl⟩ := h
    exact ⟨S', e⟩
  rw [run_law, wm_def, m_law]
  have hz := szl
  rw [ws_seq]
  refine Ws.imp (P := fun o => ∃ l : List Int, l.length = 50 ∧ small l ∧ o = .nx [some (.scr (ns.map .int)), some (.lst (l.map .int)), none, none, none, none, none, none, none, none, none] []) ?_ ?_
  · simp
    refine (sp_numbers 9 ns 50 (by decide) hn).imp ?_
    rintro r ⟨l, h1, h2, rfl⟩
    simp
    exact ⟨l, h1, h2, rfl⟩
  rintro o ⟨l, hl1, hl2, rfl⟩
  obtain ⟨v, hg, hv⟩ : ∃ v : Nat → Int, (∀ i : Nat, i < 50 → l[i]? = some (v i)) ∧ ∀ i : Nat, i < 50 → 0 ≤ v i ∧ v i < 1009 := by
    refine ⟨fun i => l.getD i 0, fun i hi => ?_, fun i hi => ?_⟩
    · dsimp only
      rw [List.getD_eq_getElem?_getD, List.getElem?_eq_getElem (by omega)]
      rfl
    · dsimp only
      rw [List.getD_eq_getElem?_getD, List.getElem?_eq_getElem (by omega)]
      exact hl2 _ (List.getElem_mem _)
  rw [sk_nx, ws_seq]
  refine Ws.imp (P := fun o => ∃ ws : List Str, ws ≠ [] ∧ ws.length ≤ 8 ∧ (∀ w ∈ ws, Wz w) ∧ o = .nx [some (.scr (ns.map .int)), some (.lst (l.map .int)), some (.lst (ws.map .str)), none, none, none, none, none, none, none, none] []) ?_ ?_
  · have h40 := md (v 40) 8 (by decide)
    obtain ⟨n, hn'⟩ : ∃ n : Nat, 1 + (v 40).fmod 8 = n := ⟨(1 + (v 40).fmod 8).toNat, by omega⟩
    have hx : ∀ i : Nat, ∃ w, i < n → Wz w ∧ run 11 fn__law_word [.int (v (2 * i)), .int (v (2 * i + 1))] [] = some (.ok (.str w) []) := fun i => by
      by_cases hi : i < n
      · obtain ⟨r, e, w, hw, rfl⟩ := sp__law_word 10 (v (2 * i)) (v (2 * i + 1)) (hv _ (by omega)) (hv _ (by omega)) []
        exact ⟨w, fun _ => ⟨hw, e⟩⟩
      · exact ⟨⟨#[]⟩, fun h => absurd h hi⟩
    obtain ⟨f, hf⟩ : ∃ f : Nat → Str, ∀ i, i < n → Wz (f i) ∧ run 11 fn__law_word [.int (v (2 * i)), .int (v (2 * i + 1))] [] = some (.ok (.str (f i)) []) := ⟨fun i => Classical.choose (hx i), fun i => Classical.choose_spec (hx i)⟩
    rw [ws_set, lcF_map (List.range n) (fun i : Nat => .int (0 + i)) (fun i : Nat => some (.str (f i))) (src := fun _ => some ((List.range n).map fun i : Nat => .int (0 + i))) (by simp [hg, hn']; omega) rfl (by simp; omega) (by
      intro i hi
      have hi2 := List.mem_range.mp hi
      have g1 := hg (2 * i) (by omega)
      have g2 := hg (2 * i + 1) (by omega)
      have a1 : L2.atI (l.map Dv.int) (2 * (i : Int)) = some (.int (v (2 * i))) := by
        rw [show (2 * (i : Int)) = ((2 * i : Nat) : Int) by push_cast; rfl, ML.atI_nat, List.getElem?_map, g1]
        rfl
      have a2 : L2.atI (l.map Dv.int) (2 * (i : Int) + 1) = some (.int (v (2 * i + 1))) := by
        rw [show (2 * (i : Int) + 1) = ((2 * i + 1 : Nat) : Int) by push_cast; rfl, ML.atI_nat, List.getElem?_map, g2]
        rfl
      simp [a1, a2, wm_eq (hf i hi2).2])]
    simp
    refine ⟨(List.range n).map f, ?_, ?_, ?_, ?_⟩
    · simp
      omega
    · simp
      omega
    · intro w hw
      obtain ⟨i, hi, rfl⟩ := List.mem_map.mp hw
      exact (hf i (List.mem_range.mp hi)).1
    · simp
  rintro o ⟨ws0, hw1, hw2, hw3, rfl⟩
  rw [sk_nx, ws_seq]
  refine Ws.imp (P := fun o => ∃ (S : Sto) (d : Dv) (ws : List Str) (e4 e5 : Option Dv), DWs S d ws ∧ ws ≠ [] ∧ ws.length ≤ 12 ∧ (∀ w ∈ ws, Wz w) ∧ o = .nx [some (.scr (ns.map .int)), some (.lst (l.map .int)), some d, none, e4, e5, none, none, none, none, none] S) ?_ ?_
  · have hz0 : ∃ w0, ws0[0]? = some w0 ∧ Wz w0 := by
      cases ws0 with
      | nil => exact absurd rfl hw1
      | cons a r => exact ⟨a, rfl, hw3 a (by simp)⟩
    obtain ⟨w0, hw0, hwz⟩ := hz0
    simp [hg]
    split
    · refine (sp__law_formed 9 ws0 (v 42) (v 43) hw3 (by omega) (hv _ (by decide)).1 (hv _ (by decide)).1).imp ?_
      rintro r ⟨fl, f1, f2, f3, rfl⟩
      have fpos : 0 < fl.length := List.length_pos_iff.mpr f1
      have hp := md (v 44) fl.length (by omega)
      have hix : ixN fl.length ((v 44).fmod fl.length) = some ((v 44).fmod fl.length).toNat := ixN_in hp.1 hp.2
      simp [hg, hw0, f1, hix]
      by_cases h1 : (v 41).fmod 9 = 1
      · simp [h1]
        refine ⟨[Cell.lst ((fl.set ((v 44).fmod fl.length).toNat w0).map .str)], .ref 0, fl.set ((v 44).fmod fl.length).toNat w0, DWs.of_ref (n := 0) rfl, ?_, ?_, ?_, rfl, ?_⟩
        · simpa using f1
        · rw [List.length_set]; omega
        · intro w hw
          rcases List.mem_or_eq_of_mem_set hw with h | h
          · exact f3 w h
          · rw [h]; exact hwz
        · rw [List.map_set]
      by_cases h2 : (v 41).fmod 9 = 2
      · simp [h2]
        split
        · have q1 : (cutG fl none (some ((v 44).fmod fl.length))).length ≤ 10 := by
            have := cutG_len (l := fl) (lo := none) (hi := some ((v 44).fmod fl.length))
            rw [sIx_nn hp.1] at this
            omega
          have q2 : (cutG fl (some ((v 44).fmod fl.length + 1)) none).length ≤ 10 := by
            have := cutG_len (l := fl) (lo := some ((v 44).fmod fl.length + 1)) (hi := none)
            rw [HT.sIx_none] at this
            omega
          obtain ⟨j, hj⟩ : ∃ j : Nat, (v 44).fmod fl.length = j := ⟨((v 44).fmod fl.length).toNat, by omega⟩
          rw [hj] at hp
          have hj2 : j < fl.length := by omega
          rw [hj, cutG_map, cutG_map, show ((j : Int) + 1) = ((j + 1 : Nat) : Int) by push_cast; rfl, cutG_head, cutG_tail, ← List.map_append]
          have q3 : (fl.take j).length = j := by rw [List.length_take]; omega
          have q4 : (fl.drop (j + 1)).length = fl.length - (j + 1) := by rw [List.length_drop]
          refine ⟨by rw [List.length_map, List.length_map]; omega, [Cell.lst (fl.map .str)], .lst ((fl.take j ++ fl.drop (j + 1)).map .str), fl.take j ++ fl.drop (j + 1), DWs.of_lst, ?_, ?_, ?_, rfl, rfl⟩
          · intro e
            have := congrArg List.length e
            rw [List.length_append, q3, q4, List.length_nil] at this
            omega
          · rw [List.length_append]; omega
          · intro w hw
            rcases List.mem_append.mp hw with h | h
            · exact f3 w (List.mem_of_mem_take h)
            · exact f3 w (List.mem_of_mem_drop h)
        · exact ⟨[Cell.lst (fl.map .str)], .ref 0, fl, DWs.of_ref (n := 0) rfl, f1, by omega, f3, rfl, rfl⟩
      by_cases h4 : (v 41).fmod 9 = 4
      · simp [h4, hw0]
        refine ⟨by omega, [Cell.lst ((fl ++ [w0]).map .str)], .ref 0, fl ++ [w0], DWs.of_ref (n := 0) rfl, by simp, by simp; omega, ?_, rfl, by simp⟩
        intro w hw
        rcases List.mem_append.mp hw with h | h
        · exact f3 w h
        · rw [List.mem_singleton.mp h]; exact hwz
      · simp [h1, h2, h4]
        exact ⟨[Cell.lst (fl.map .str)], .ref 0, fl, DWs.of_ref (n := 0) rfl, f1, by omega, f3, rfl, rfl⟩
    · exact ⟨[], .lst (ws0.map .str), ws0, DWs.of_lst, hw1, by omega, hw3, rfl, rfl⟩
  rintro o ⟨S, d, ws, e4, e5, D, hne, hlen, hw, rfl⟩
  rw [sk_nx, ws_seq]
  have s1 : (Str.ofString " ").length = 1 := by decide +kernel
  have wd : ∀ w ∈ ws, Wd w := fun w h => (hw w h).wd
  simp [hg, s1]
  have m45 := md (v 45) 3 (by decide)
  have m48 := md (v 48) 3 (by decide)
  have m49 := md (v 49) 4 (by decide)
  refine ⟨by omega, ?_⟩
  rw [ws_for]
  simp [D.len]
  refine ⟨by omega, ?_⟩
  have okc : ∀ w ∈ ws, ∀ c ∈ cd w, c < 127 := fun w h c hc => ((hw w h).ok c hc).2
  have fre : ∀ w ∈ ws, 32 ∉ cd w := fun w h hc => by
    have := ((hw w h).ok 32 hc).1
    omega
  have ne0 : ∀ w ∈ ws, cd w ≠ [] := fun w h hc => by
    have := (hw w h).pos
    rw [cds_len, hc] at this
    simp at this
  refine for_inv (fun k env S' => S' = S ∧ ∃ (L : Str) (e3 : Option Dv), env = [some (.scr (ns.map .int)), some (.lst (l.map .int)), some d, e3, e4, e5, some (.str L), none, none, none, none] ∧ (∀ c ∈ cd L, c < 127) ∧ L.length ≤ 10 + 40 * k ∧
      (k < ws.length → ∀ rest, tok [] (cd L ++ rest) = (ws.take k).map cd ++ tok [] rest) ∧ (k = ws.length → ∀ m, tok [] (cd L ++ List.replicate m 32) = ws.map cd)) ?_ ?_ ?_
  · refine ⟨rfl, _, none, rfl, ?_, ?_, ?_, ?_⟩
    · rw [spaces]
      intro c hc
      rw [(List.mem_replicate.mp hc).2]
      decide
    · rw [cds_len, spaces]
      simp
      omega
    · intro _ rest
      rw [spaces, tok_spaces]
      rfl
    · intro h
      exact absurd (List.length_eq_zero_iff.mp h.symm) hne
  · rintro i dv env S' hd ⟨rfl, L, e3, rfl, hL1, hL2, hL3, hL4⟩
    obtain ⟨hlt, rfl⟩ := range_at hd
    have hwi : ws[i]? = some ws[i] := List.getElem?_eq_getElem hlt
    have hm : ws[i] ∈ ws := List.getElem_mem hlt
    generalize ws[i] = w at hwi hm
    have hwz := hw w hm
    have a1 : L2.atI (ws.map Dv.str) (i : Int) = some (.str w) := by
      rw [ML.atI_nat, List.getElem?_map, hwi]
      rfl
    have ht3 := hL3 hlt
    have hwc := okc w hm
    have hwf := fre w hm
    have hwn := ne0 w hm
    have hwl := hwz.len
    have tk : (ws.take (i + 1)).map cd = (ws.take i).map cd ++ [cd w] := by
      rw [List.take_add_one, hwi, List.map_append]
      rfl
    have hone : ∀ n r, tok [] (cd L ++ (cd w ++ (32 :: (List.replicate n 32 ++ r)))) = (ws.take (i + 1)).map cd ++ tok [] r := fun n r => by
      rw [ht3, tok_free _ _ _ hwf, List.nil_append, tok_space, tok_spaces, if_neg hwn, tk, List.append_assoc]
    have hlast : ∀ m, tok [] (cd L ++ (cd w ++ List.replicate m 32)) = (ws.take (i + 1)).map cd := fun m => by
      rw [ht3, tok_free _ _ _ hwf, List.nil_append, tk]
      cases m with
      | zero =>
        rw [List.replicate_zero, tok, if_neg hwn]
      | succ m =>
        have := tok_spaces m []
        rw [List.append_nil] at this
        rw [List.replicate_succ, tok_space, if_neg hwn, this]
        rfl
    have h46 := hv 46 (by decide)
    have h47 := hv 47 (by decide)
    have hmd := md (v 46 + (i : Int) * v 47) 3 (by decide)
    generalize hsp : (v 46 + (i : Int) * v 47).fmod 3 = sp at hmd
    have csp : cd (Txt.mul (Str.ofString " ") (1 + sp)) = 32 :: List.replicate sp.toNat 32 := by
      rw [spaces, show (1 + sp).toNat = sp.toNat + 1 by omega, List.replicate_succ]
    simp [D.ix, D.len, hwi, hg, s1, hsp, -List.map_take]
    refine ⟨by omega, ?_⟩
    have cL : ∀ c ∈ cd (L ++ w), c < 127 := by
      rw [cd_append]
      intro c hc
      rcases List.mem_append.mp hc with h | h
      · exact hL1 c h
      · exact hwc c h
    have lL : (L ++ w).length = L.length + w.length := by rw [cds_len, cd_append, List.length_append, ← cds_len, ← cds_len]
    have lsp : (Txt.mul (Str.ofString " ") (1 + sp)).length = sp.toNat + 1 := by
      rw [cds_len, csp]
      simp
    by_cases hi : i + 1 < ws.length
    · rw [if_pos (by omega)]
      have lLs : (L ++ w ++ Txt.mul (Str.ofString " ") (1 + sp)).length = L.length + w.length + (sp.toNat + 1) := by rw [cds_len, cd_append, List.length_append, ← cds_len, ← cds_len, lL, lsp]
      refine ⟨by omega, by omega, by omega, ?_, by omega, ?_, fun h => absurd h (by omega)⟩
      · intro c hc
        rw [← Array.mem_toList_iff] at hc
        have hc' : c ∈ cd (L ++ w) ++ cd (Txt.mul (Str.ofString " ") (1 + sp)) := by rw [← cd_append]; exact hc
        rcases List.mem_append.mp hc' with h | h
        · exact cL c h
        · rw [csp] at h
          rcases List.mem_cons.mp h with h | h
          · rw [h]; decide
          · rw [(List.mem_replicate.mp h).2]; decide
      · intro _ rest
        rw [cd_append, cd_append, csp, List.append_assoc, List.append_assoc]
        have := hone sp.toNat rest
        simpa using this
    · rw [if_neg (by omega)]
      refine ⟨?_, by omega, fun h => absurd h hi, ?_⟩
      · intro c hc
        rw [← Array.mem_toList_iff] at hc
        exact cL c hc
      · intro h m
        rw [cd_append, List.append_assoc, hlast, h, List.take_length]
  · rintro env S' ⟨rfl, L, e3, rfl, hL1, hL2, hL3, hL4⟩
    simp at hL2 hL4
    simp [hg, s1]
    have e48 : cd (Txt.mul (Str.ofString " ") ((v 48).fmod 3)) = List.replicate ((v 48).fmod 3).toNat 32 := spaces _
    have l48 : (Txt.mul (Str.ofString " ") ((v 48).fmod 3)).length = ((v 48).fmod 3).toNat := by rw [cds_len, e48]; simp
    refine ⟨by omega, by omega, ?_⟩
    have wok : ∀ w ∈ ws, PyData.strOk w = true := fun w h => (wd w h).ok
    have tkw : toks (L ++ Txt.mul (Str.ofString " ") ((v 48).fmod 3)) = ws := by
      unfold toks
      rw [cd_append, e48, hL4, List.map_map]
      have : ((fun l => (⟨⟨l⟩⟩ : Str)) ∘ cd) = id := by
        funext z
        rfl
      rw [this, List.map_id]
    rw [wm_eq (sp_split 10 (L ++ Txt.mul (Str.ofString " ") ((v 48).fmod 3)) ((strOk_iff _).mpr fun c hc => by
      rw [cd_append, e48] at hc
      rcases List.mem_append.mp hc with h | h
      · have := hL1 c h; omega
      · rw [(List.mem_replicate.mp h).2]; decide) (by rw [cds_len, cd_append, List.length_append, ← cds_len, ← cds_len]; omega) _), tkw]
    have n1 : ∀ S, listOf S d = some (ws.map .str) → neD S (.lst (ws.map .str)) d = some (.bl false) := fun S h => by
      rw [op_neLS rfl h wok wok]
      simp
    have e49 : cd (Txt.mul (Str.ofString " ") ((v 49).fmod 4)) = List.replicate ((v 49).fmod 4).toNat 32 := spaces _
    have l49 : (Txt.mul (Str.ofString " ") ((v 49).fmod 4)).length = ((v 49).fmod 4).toNat := by rw [cds_len, e49]; simp
    have tk2 : toks (Txt.mul (Str.ofString " ") ((v 49).fmod 4)) = [] := by
      unfold toks
      have := tok_spaces ((v 49).fmod 4).toNat []
      rw [List.append_nil] at this
      rw [e49, this]
      rfl
    have w2 : ∀ S P, Wm (run 11 fn_split_words [.str (Txt.mul (Str.ofString " ") ((v 49).fmod 4))]) S P ↔ P (.ok (.lst []) S) := fun S P => by
      rw [wm_eq (sp_split 10 _ ((strOk_iff _).mpr fun c hc => by rw [e49] at hc; rw [(List.mem_replicate.mp hc).2]; decide) (by omega) S), tk2]
      rfl
    have tk3 : toks (Str.ofString "a\tb \t") = [Str.ofString "a\tb", Str.ofString "\t"] := by decide +kernel
    have w3 : ∀ S P, Wm (run 11 fn_split_words [.str (Str.ofString "a\tb \t")]) S P ↔ P (.ok (.lst [.str (Str.ofString "a\tb"), .str (Str.ofString "\t")]) S) := fun S P => by
      rw [wm_eq (sp_split 10 _ (by decide +kernel) (by decide +kernel) S), tk3]
      rfl
    have n2 : ∀ S, neD S (.lst []) (.lst []) = some (.bl false) := fun S => op_neLS (l := []) (r := []) rfl rfl (by simp) (by simp)
    have n3 : ∀ S, neD S (.lst [.str (Str.ofString "a\tb"), .str (Str.ofString "\t")]) (.lst [.str (Str.ofString "a\tb"), .str (Str.ofString "\t")]) = some (.bl false) := fun S => by
      rw [op_neLS (l := [Str.ofString "a\tb", Str.ofString "\t"]) (r := [Str.ofString "a\tb", Str.ofString "\t"]) rfl rfl (by decide +kernel) (by decide +kernel)]
      simp
    simp [n1 _ D.lst, hg, s1, w2, n2, w3, n3, hz]
    refine ⟨by omega, ?_⟩
    obtain ⟨src, sr1, sr2⟩ := D.src
    rw [ws_for]
    simp [sr2, sr1]
    have wd1 : ∀ w ∈ ws, Wd w := wd
    refine forL_inv (fun k env S2 => S2 = S' ∧ ∃ e8 e9, env = [some (.scr (ns.map .int)), some (.lst (l.map .int)), some d, e3, e4, e5, some (.str (L ++ Txt.mul (Str.ofString " ") ((v 48).fmod 3))), some (.lst (ws.map .str)), e8, e9, none]) _ 0 _ _ rfl ?_ ?_ ?_ (Nat.zero_le _) ⟨rfl, none, none, rfl⟩
    · rintro k env S2 ⟨rfl, _⟩
      exact sr1
    · rintro i d2 env S2 hd ⟨rfl, e8, e9, rfl⟩
      obtain ⟨y, hy, hym, rfl⟩ := map_at hd
      simp [wm_byte (wd y hym), wm__law_byte]
    · rintro env S2 ⟨rfl, e8, e9, rfl⟩
      obtain ⟨w, r, hwr⟩ : ∃ w r, ws = w :: r := by
        cases ws with
        | nil => exact absurd rfl hne
        | cons a b => exact ⟨a, b, rfl⟩
      have hd0 : ixD S2 d (.int 0) = some (.str w) := by
        rw [D.ix, hwr, atI_nn (by decide)]
        rfl
      have hd1 : ∀ P, Wm (slD d (some 1) none) S2 P ↔ P (.ok (.lst (r.map .str)) S2) := fun P => by
        rw [D.sl, cutG_map, show (1 : Int) = ((1 : Nat) : Int) from rfl, cutG_tail, hwr]
        rfl
      have hw0 : Wd w := wd w (by rw [hwr]; simp)
      have hwr2 : ∀ x ∈ r, Wd x := fun x hx => wd x (by rw [hwr]; simp [hx])
      have hrl : r.length ≤ 99 := by
        have := congrArg List.length hwr
        rw [List.length_cons] at this
        omega
      have cmd1 := sp_is_command 8 w r hw0 hwr2 hrl S2 _ rfl
      rw [← hwr] at cmd1
      have cmd2 := sp__law_command 8 w r hw0 hwr2 hrl S2 _ rfl d hd0 hd1
      have eqL : eqD S2 (.lst (ws.map .str)) d = some (.bl true) := by
        rw [op_eqLS rfl D.lst wok wok]
        simp
      simp [D.ll (by omega), wm_eq cmd1, wm_eq cmd2, eqL]
      exact ⟨_, rfl⟩
end L89

open PySem PySem.Spec PyProof.Rows L2 ML
set_option maxRecDepth 100000 in
set_option maxHeartbeats 0 in
theorem PySem.Challenge.cw_byteshape_k89_words_of_a_session_holds : PySem.Challenge.rw_byteshape_k89_words_of_a_session.Holds := by
  w_on; o_law; k_head; (case hw => w_witness2)
  k_fill
  refine L89.walk (l := PySem.Challenge.rw_byteshape_k89_words_of_a_session) rfl rfl (fun w h Y => PySem.W.kIn_of Y) rfl ?F L89.law_true
  case F =>
    intro w mg h KX G
    refine' L89.all_mk KX G ?a0 ?l0 ?c0 ?k0 ?a1 ?l1 ?c1 ?k1 ?a2 ?l2 ?c2 ?k2 ?a3 ?l3 ?c3 ?k3 ?a4 ?l4 ?c4 ?k4 ?a5 ?l5 ?c5 ?k5 ?a6 ?l6 ?c6 ?k6 ?a7 ?l7 ?c7 ?k7 ?a8 ?l8 ?c8 ?k8 ?a9 ?l9 ?c9 ?k9 ?a10 ?l10 ?c10 ?k10 ?a11 ?l11 ?c11 ?k11 ?a12 ?l12 ?c12 ?k12 ?a13 ?l13 ?c13 ?k13 ?nb_abs ?nb_all ?nb_bool ?nb_int ?nb_isinstance ?nb_len ?nb_list ?nb_max ?nb_range ?nb_str ?cb_DIGITS ?cb_MOST_NAME_CHARS ?cb_NAME_CHARS ?cb_SHOWN ?cl_SHOWN ?cf_SHOWN ?cz_SHOWN ?db_PLAIN ?dl_PLAIN ?dk_PLAIN ?ds_PLAIN ?dv_PLAIN
    (case a0 => k_is)
    (case l0 => k_is)
    (case c0 => k_is)
    (case k0 => k_is)
    (case a1 => k_is)
    (case l1 => k_is)
    (case c1 => k_is)
    (case k1 => k_is)
    (case a2 => k_is)
    (case l2 => k_is)
    (case c2 => k_is)
    (case k2 => k_is)
    (case a3 => k_is)
    (case l3 => k_is)
    (case c3 => k_is)
    (case k3 => k_is)
    (case a4 => k_is)
    (case l4 => k_is)
    (case c4 => k_is)
    (case k4 => k_is)
    (case a5 => k_is)
    (case l5 => k_is)
    (case c5 => k_is)
    (case k5 => k_is)
    (case a6 => k_is)
    (case l6 => k_is)
    (case c6 => k_is)
    (case k6 => k_is)
    (case a7 => k_is)
    (case l7 => k_is)
    (case c7 => k_is)
    (case k7 => k_is)
    (case a8 => k_is)
    (case l8 => k_is)
    (case c8 => k_is)
    (case k8 => k_is)
    (case a9 => k_is)
    (case l9 => k_is)
    (case c9 => k_is)
    (case k9 => k_is)
    (case a10 => k_is)
    (case l10 => k_is)
    (case c10 => k_is)
    (case k10 => k_is)
    (case a11 => k_is)
    (case l11 => k_is)
    (case c11 => k_is)
    (case k11 => k_is)
    (case a12 => k_is)
    (case l12 => k_is)
    (case c12 => k_is)
    (case k12 => k_is)
    (case a13 => k_is)
    (case l13 => k_is)
    (case c13 => k_is)
    (case k13 => k_is)
    (case nb_abs => k_is)
    (case nb_all => k_is)
    (case nb_bool => k_is)
    (case nb_int => k_is)
    (case nb_isinstance => k_is)
    (case nb_len => k_is)
    (case nb_list => k_is)
    (case nb_max => k_is)
    (case nb_range => k_is)
    (case nb_str => k_is)
    (case cb_DIGITS => k_is)
    (case cb_MOST_NAME_CHARS => k_is)
    (case cb_NAME_CHARS => k_is)
    (case cb_SHOWN => k_is)
    (case cl_SHOWN => k_is)
    (case cf_SHOWN => rfl)
    (case cz_SHOWN => decide)
    (case db_PLAIN => k_is)
    (case dl_PLAIN => k_is)
    (case dk_PLAIN => exact ⟨⟨_, _, rfl, rfl⟩, ⟨⟨_, _, rfl, rfl⟩, ⟨⟨_, _, rfl, rfl⟩, ⟨⟨_, _, rfl, rfl⟩, ⟨⟨_, _, rfl, rfl⟩, ⟨⟨_, _, rfl, rfl⟩, ⟨⟨_, _, rfl, rfl⟩, ⟨⟨_, _, rfl, rfl⟩, ⟨⟨_, _, rfl, rfl⟩, trivial⟩⟩⟩⟩⟩⟩⟩⟩⟩)
    (case ds_PLAIN => decide)
    (case dv_PLAIN => exact ⟨⟨_, rfl⟩, ⟨_, rfl⟩, ⟨⟨_, rfl⟩, ⟨_, rfl⟩, ⟨⟨_, rfl⟩, ⟨_, rfl⟩, ⟨⟨_, rfl⟩, ⟨_, rfl⟩, ⟨⟨_, rfl⟩, ⟨_, rfl⟩, ⟨⟨_, rfl⟩, ⟨_, rfl⟩, ⟨⟨_, rfl⟩, ⟨_, rfl⟩, ⟨⟨_, rfl⟩, ⟨_, rfl⟩, ⟨⟨_, rfl⟩, ⟨_, rfl⟩, trivial⟩⟩⟩⟩⟩⟩⟩⟩⟩)
