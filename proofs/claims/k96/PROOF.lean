import PyProof.Rows.All
import Wide.All
import OpenK.AllK
import Wide.FinOn
import HandS.ForMost
import HandS.Evl
import HandS.TupAny
import HandS.TupLen
import HandS.Conv
import HandS.Wide
import HandS.IsInst
import HandS.SetFor
import HandS.DictTup
import KE.KDictWalk
import KE.KDictZip
import KE.KDictKeyed
import KE.SortData
import PyProof.ReprLen
import PyProof.ReprRoads
import PySem.Challenge.RW_turnworth_k96_whole_a_judge_of_worths
set_option Elab.async false
set_option linter.all false
set_option maxRecDepth 100000
set_option maxHeartbeats 1000000
section
set_option Elab.async false
set_option linter.all false
set_option maxRecDepth 100000
set_option maxHeartbeats 1000000
/-! TwBase: data, what stands at a value, own cells, the state of a body. -/
namespace Tw
open PySem PySem.Spec PyProof.Rows L2
open Evl (Ex)

/-! ### data -/
inductive Dat where
  | non | bl (b : Bool) | int (i : Int) | str (x : Str)
  | tup (ds : List Dat) | st (ns : List Int) | lst (ds : List Dat) | dic (kvs : List (List Int × Dat))

def kI (ns : List Int) : List Key := ns.map Sum.inl
theorem kI_kV (ns : List Int) : (kI ns).map kV = ns.map V.int := by
  unfold kI
  rw [List.map_map]
  rfl
theorem kI_inj {a b : List Int} (e : kI a = kI b) : a = b := by
  unfold kI at e
  exact (List.map_inj_right (fun x y h => Sum.inl.inj h)).mp e

mutual
inductive At (K : PySem.W.Frag) (H : Hp) : V → Dat → Prop
  | non : At K H .non .non
  | bl (b : Bool) : At K H (.bl b) (.bl b)
  | int (i : Int) : At K H (.int i) (.int i)
  | str (x : Str) : At K H (.str x) (.str x)
  | tup {a : Addr} {xs : List V} {ds : List Dat} : SqT K H a xs → AtAll K H xs ds → At K H (.ref a) (.tup ds)
  | st {a : Addr} {ns : List Int} : H a = some (.tup (ns.map V.int)) → At K H (.ref a) (.st ns)
  | lst {a : Addr} {xs : List V} {ds : List Dat} : SqL K H a xs → AtAll K H xs ds → At K H (.ref a) (.lst ds)
  | dic {a : Addr} {ws : List (List Key × V)} {kvs : List (List Int × Dat)} : Rd H a (.dT ws) → AtKv K H ws kvs → At K H (.ref a) (.dic kvs)
inductive AtAll (K : PySem.W.Frag) (H : Hp) : List V → List Dat → Prop
  | nil : AtAll K H [] []
  | cons {v : V} {vs : List V} {d : Dat} {ds : List Dat} : At K H v d → AtAll K H vs ds → AtAll K H (v :: vs) (d :: ds)
inductive AtKv (K : PySem.W.Frag) (H : Hp) : List (List Key × V) → List (List Int × Dat) → Prop
  | nil : AtKv K H [] []
  | cons {ns : List Int} {v : V} {d : Dat} {ws : List (List Key × V)} {kvs : List (List Int × Dat)} : At K H v d → AtKv K H ws kvs → AtKv K H ((kI ns, v) :: ws) ((ns, d) :: kvs)
end

/-- not locked -/
def NF : HO → Prop
  | .frz _ _ => False
  | _ => True
/-- what may be read stays -/
structure RX (H H' : Hp) : Prop where
  rd0 : ∀ a u, NF u → Rd H a u → Rd H' a u
  tp : ∀ a xs, H a = some (.tup xs) → H' a = some (.tup xs)
theorem RX.rd {H H' : Hp} (e : RX H H') (a : Addr) (u : HO) (h : Rd H a u) (hu : NF u := by trivial) : Rd H' a u := e.rd0 a u hu h
theorem RX.refl (H : Hp) : RX H H := ⟨fun _ _ _ h => h, fun _ _ h => h⟩
theorem RX.trans {H H1 H2 : Hp} (a : RX H H1) (b : RX H1 H2) : RX H H2 := ⟨fun p u n h => b.rd0 p u n (a.rd0 p u n h), fun p xs h => b.tp p xs (a.tp p xs h)⟩
theorem RX.ex {H H' : Hp} (e : Ex H H') : RX H H' := ⟨fun _ _ _ h => Evl.ex_rd e h, fun a xs h => e a _ h⟩
theorem RX.l {K : PySem.W.Frag} {H H' : Hp} (e : RX H H') {a : Addr} {xs : List V} (h : SqL K H a xs) : SqL K H' a xs := h.imp (fun z => e.rd a _ z) id
theorem RX.t {K : PySem.W.Frag} {H H' : Hp} (e : RX H H') {a : Addr} {xs : List V} (h : SqT K H a xs) : SqT K H' a xs := h.imp (fun z => e.rd a _ z) id
section
variable {K : PySem.W.Frag} {H H' : Hp}
mutual
theorem At.mono (e : RX H H') : ∀ {d : Dat} {v : V}, At K H v d → At K H' v d
  | .non, _, h => by cases h; exact .non
  | .bl _, _, h => by cases h; exact .bl _
  | .int _, _, h => by cases h; exact .int _
  | .str _, _, h => by cases h; exact .str _
  | .tup ds, _, h => by
    cases h with
    | tup a b => exact .tup (e.t a) (AtAll.mono e b)
  | .st ns, _, h => by
    cases h with
    | st a => exact .st (e.tp _ _ a)
  | .lst ds, _, h => by
    cases h with
    | lst a b => exact .lst (e.l a) (AtAll.mono e b)
  | .dic kvs, _, h => by
    cases h with
    | dic a b => exact .dic (e.rd _ _ a) (AtKv.mono e b)
theorem AtAll.mono (e : RX H H') : ∀ {ds : List Dat} {vs : List V}, AtAll K H vs ds → AtAll K H' vs ds
  | [], _, h => by cases h; exact .nil
  | d :: ds, _, h => by
    cases h with
    | cons a b => exact .cons (At.mono e a) (AtAll.mono e b)
theorem AtKv.mono (e : RX H H') : ∀ {kvs : List (List Int × Dat)} {ws : List (List Key × V)}, AtKv K H ws kvs → AtKv K H' ws kvs
  | [], _, h => by cases h; exact .nil
  | (n, d) :: kvs, _, h => by
    cases h with
    | cons a b => exact .cons (At.mono e a) (AtKv.mono e b)
end
theorem AtAll.length : ∀ {vs : List V} {ds : List Dat}, AtAll K H vs ds → vs.length = ds.length
  | _, _, .nil => rfl
  | _, _, .cons _ t => by rw [List.length_cons, List.length_cons, t.length]
theorem AtAll.get : ∀ {vs : List V} {ds : List Dat} {i : Nat} {d : Dat}, AtAll K H vs ds → ds[i]? = some d → ∃ v, vs[i]? = some v ∧ At K H v d
  | _, _, _, _, .nil, e => by simp at e
  | _, _, 0, _, .cons h _, e => by simp at e; subst e; exact ⟨_, rfl, h⟩
  | _, _, i + 1, d, .cons _ t, e => by
    obtain ⟨v, h1, h2⟩ := AtAll.get (i := i) (d := d) t (by simpa using e)
    exact ⟨v, by simpa using h1, h2⟩
theorem AtAll.getV : ∀ {vs : List V} {ds : List Dat} {i : Nat} {v : V}, AtAll K H vs ds → vs[i]? = some v → ∃ d, ds[i]? = some d ∧ At K H v d
  | _, _, _, _, .nil, e => by simp at e
  | _, _, 0, _, .cons h _, e => by simp at e; subst e; exact ⟨_, rfl, h⟩
  | _, _, i + 1, d, .cons _ t, e => by
    obtain ⟨v, h1, h2⟩ := AtAll.getV (i := i) (v := d) t (by simpa using e)
    exact ⟨v, by simpa using h1, h2⟩
theorem AtAll.append : ∀ {vs ws : List V} {ds es : List Dat}, AtAll K H vs ds → AtAll K H ws es → AtAll K H (vs ++ ws) (ds ++ es)
  | _, _, _, _, .nil, s => s
  | _, _, _, _, .cons r t, s => .cons r (AtAll.append t s)
theorem AtAll.set {v : V} {d : Dat} (h : At K H v d) : ∀ {vs : List V} {ds : List Dat} (i : Nat), AtAll K H vs ds → AtAll K H (vs.set i v) (ds.set i d)
  | _, _, _, .nil => .nil
  | _, _, 0, .cons _ t => .cons h t
  | _, _, i + 1, .cons r t => .cons r (AtAll.set h i t)
theorem AtKv.length : ∀ {ws : List (List Key × V)} {kvs : List (List Int × Dat)}, AtKv K H ws kvs → ws.length = kvs.length
  | _, _, .nil => rfl
  | _, _, .cons _ t => by rw [List.length_cons, List.length_cons, t.length]
end

/-! ### what a body owns -/
inductive Ct where
  | l (ds : List Dat) | m (kvs : List (List Int × Dat)) | k (kvs : List (Int × Dat)) | gone
def Ct.live : Ct → Bool
  | .gone => false
  | _ => true
inductive Sl where
  | un | d (x : Dat) | o (i : Nat)

def AtKi (K : PySem.W.Frag) (H : Hp) (ws : List (Key × V)) (kvs : List (Int × Dat)) : Prop := ws.length = kvs.length ∧ ∀ (i : Nat) (k : Int) (d : Dat), kvs[i]? = some (k, d) → ∃ v, ws[i]? = some (Sum.inl k, v) ∧ At K H v d

structure Cz where
  φ : Hp → Prop
  N : Addr → Bool
  B : Addr → Bool
structure Cz.Ok (c : Cz) : Prop where
  ex : ∀ H H', c.φ H → Ex H H' → c.φ H'
  fr : ∀ H q, c.φ H → H q = none → c.N q = false ∧ c.B q = false
  up : ∀ p, c.B p = false → ∀ H o, c.φ H → c.φ (upd H p o)
  nt : ∀ H q, c.φ H → c.N q = true → ∀ xs, H q ≠ some (.tup xs)

def live (O : List Addr) (S : List Ct) : List Addr := ((O.zip S).filter fun x => x.2.live).map (·.1)
theorem mem_live {O : List Addr} {S : List Ct} {a : Addr} : a ∈ live O S ↔ ∃ (i : Nat) (t : Ct), O[i]? = some a ∧ S[i]? = some t ∧ t.live = true := by
  unfold live
  rw [List.mem_map]
  constructor
  · rintro ⟨⟨b, t⟩, h, rfl⟩
    obtain ⟨h1, h2⟩ := List.mem_filter.mp h
    obtain ⟨i, hi, e⟩ := List.mem_iff_getElem.mp h1
    have e' := List.getElem?_eq_some_iff.mpr ⟨hi, e⟩
    rw [List.getElem?_zip_eq_some] at e'
    exact ⟨i, t, e'.1, e'.2, h2⟩
  · rintro ⟨i, t, h1, h2, h3⟩
    refine ⟨(a, t), List.mem_filter.mpr ⟨?_, h3⟩, rfl⟩
    exact List.mem_of_getElem? (i := i) (List.getElem?_zip_eq_some.mpr ⟨h1, h2⟩)
/-- what may be read by data -/
def vw (c : Cz) (O : List Addr) (S : List Ct) (H : Hp) : Hp := fun a => if c.N a = true ∨ a ∈ live O S then none else H a
theorem vw_some {c : Cz} {O : List Addr} {S : List Ct} {H : Hp} {a : Addr} {u : HO} (h : vw c O S H a = some u) : H a = some u ∧ c.N a = false ∧ a ∉ live O S := by
  unfold vw at h
  split at h
  · cases h
  · rename_i n
    refine ⟨h, ?_, fun z => n (.inr z)⟩
    cases q : c.N a with
    | true => exact absurd (.inl q) n
    | false => rfl
theorem vw_of {c : Cz} {O : List Addr} {S : List Ct} {H : Hp} {a : Addr} (h1 : c.N a = false) (h2 : a ∉ live O S) : vw c O S H a = H a := by
  unfold vw
  rw [if_neg]
  rintro (z | z)
  · rw [h1] at z; cases z
  · exact h2 z
theorem vw_le {c : Cz} {O : List Addr} {S : List Ct} {H : Hp} : RX (vw c O S H) H := ⟨fun a u _ h => by
    rcases h with h | ⟨o, h⟩
    · exact .inl (vw_some h).1
    · exact .inr ⟨o, (vw_some h).1⟩, fun a xs h => (vw_some h).1⟩

def Cell (K : PySem.W.Frag) (Hm H : Hp) (p : Addr) : Ct → Prop
  | .l ds => ∃ vs, H p = some (.lst vs) ∧ AtAll K Hm vs ds
  | .m kvs => ∃ ws, H p = some (.dT ws) ∧ AtKv K Hm ws kvs
  | .k kvs => ∃ ws, H p = some (.dK ws) ∧ AtKi K Hm ws kvs
  | .gone => True
theorem Cell.mono {K : PySem.W.Frag} {Hm Hm' H H' : Hp} {p : Addr} {t : Ct} (e : RX Hm Hm') (he : t.live = true → H' p = H p) (h : Cell K Hm H p t) : Cell K Hm' H' p t := by
  cases t with
  | l ds => obtain ⟨vs, a, b⟩ := h; exact ⟨vs, (he rfl).trans a, b.mono e⟩
  | m kvs => obtain ⟨vs, a, b⟩ := h; exact ⟨vs, (he rfl).trans a, b.mono e⟩
  | k kvs =>
    obtain ⟨vs, a, b, d⟩ := h
    refine ⟨vs, (he rfl).trans a, b, fun i k x hx => ?_⟩
    obtain ⟨v, h1, h2⟩ := d i k x hx
    exact ⟨v, h1, h2.mono e⟩
  | gone => trivial
theorem Cell.some {K : PySem.W.Frag} {Hm H : Hp} {p : Addr} {t : Ct} (h : Cell K Hm H p t) (hl : t.live = true) : ∃ u, H p = some u ∧ ∀ xs, u ≠ .tup xs := by
  cases t with
  | l ds => obtain ⟨vs, a, _⟩ := h; exact ⟨_, a, fun _ => nofun⟩
  | m kvs => obtain ⟨vs, a, _⟩ := h; exact ⟨_, a, fun _ => nofun⟩
  | k kvs => obtain ⟨vs, a, _⟩ := h; exact ⟨_, a, fun _ => nofun⟩
  | gone => cases hl

structure Hs (K : PySem.W.Frag) (c : Cz) (O : List Addr) (S : List Ct) (H : Hp) : Prop where
  ok : c.Ok
  ph : c.φ H
  len : O.length = S.length
  nd : ∀ (i j : Nat) (p : Addr) (t u : Ct), O[i]? = some p → S[i]? = some t → t.live = true → O[j]? = some p → S[j]? = some u → u.live = true → i = j
  cell : ∀ (i : Nat) (p : Addr) (t : Ct), O[i]? = some p → S[i]? = some t → Cell K (vw c O S H) H p t
  own : ∀ (i : Nat) (p : Addr) (t : Ct), O[i]? = some p → S[i]? = some t → t.live = true → c.N p = false ∧ c.B p = false

section
variable {K : PySem.W.Frag} {c : Cz} {O : List Addr} {S : List Ct} {H H' : Hp}
theorem Hs.liveSome (h : Hs K c O S H) {a : Addr} (ha : a ∈ live O S) : ∃ u, H a = some u ∧ ∀ xs, u ≠ .tup xs := by
  obtain ⟨i, t, h1, h2, h3⟩ := mem_live.mp ha
  exact (h.cell i a t h1 h2).some h3
theorem Hs.st (h : Hs K c O S H) {a : Addr} {xs : List V} (e : H a = some (.tup xs)) : vw c O S H a = some (.tup xs) := by
  rw [vw_of]
  · exact e
  · cases q : c.N a with
    | false => rfl
    | true => exact absurd e (h.ok.nt H a h.ph q xs)
  · intro z
    obtain ⟨u, h1, h2⟩ := h.liveSome z
    rw [e] at h1; cases h1
    exact h2 xs rfl
theorem RX.vw_ex (e : Ex H H') : RX (vw c O S H) (vw c O S H') := RX.ex fun a o h => by
  obtain ⟨h1, h2, h3⟩ := vw_some h
  rw [vw_of h2 h3]
  exact e a o h1
/-- all that stood stands -/
theorem Hs.ex (h : Hs K c O S H) (e : Ex H H') : Hs K c O S H' := ⟨h.ok, h.ok.ex H H' h.ph e, h.len, h.nd, fun i p t h1 h2 => (h.cell i p t h1 h2).mono (RX.vw_ex e) fun hl => by
    obtain ⟨u, e1, _⟩ := (h.cell i p t h1 h2).some hl
    rw [e1, e p u e1], h.own⟩
theorem live_append {O' : List Addr} {S' : List Ct} (h : O.length = S.length) : live (O ++ O') (S ++ S') = live O S ++ live O' S' := by
  unfold live
  rw [List.zip_append h, List.filter_append, List.map_append]
theorem vw_new {q : Addr} {t : Ct} {o : HO} (hl : O.length = S.length) (ht : t.live = true) (hq : H q = none) : vw c (O ++ [q]) (S ++ [t]) (upd H q o) = vw c O S H := by
  funext a
  have e : live (O ++ [q]) (S ++ [t]) = live O S ++ [q] := by
    rw [live_append hl]
    unfold live
    simp [ht]
  unfold vw
  rw [e]
  by_cases ha : a = q
  · subst ha
    rw [if_pos (.inr (by simp))]
    split
    · rfl
    · exact hq.symm
  · rw [upd_ne ha]
    have e2 : (c.N a = true ∨ a ∈ live O S ++ [q]) = (c.N a = true ∨ a ∈ live O S) := by
      simp [ha]
    simp only [e2]
theorem get_app {α : Type} {l : List α} {x y : α} {i : Nat} (h : (l ++ [x])[i]? = some y) : (i < l.length ∧ l[i]? = some y) ∨ (i = l.length ∧ y = x) := by
  by_cases hi : i < l.length
  · rw [List.getElem?_append_left hi] at h
    exact .inl ⟨hi, h⟩
  · have h2 := (List.getElem?_eq_some_iff.mp h).1
    rw [List.length_append, List.length_singleton] at h2
    have e : i = l.length := by omega
    subst e
    rw [List.getElem?_append_right (Nat.le_refl _), Nat.sub_self] at h
    exact .inr ⟨rfl, (Option.some.inj h).symm⟩
/-- a new cell of one's own -/
theorem Hs.newOwn (h : Hs K c O S H) {q : Addr} {t : Ct} {o : HO} (hq : H q = none) (ht : t.live = true) (hc : Cell K (vw c O S H) (upd H q o) q t) : Hs K c (O ++ [q]) (S ++ [t]) (upd H q o) := by
  have ev := vw_new (c := c) (O := O) (S := S) (t := t) (o := o) h.len ht hq
  obtain ⟨f1, f2⟩ := h.ok.fr H q h.ph hq
  have hne : ∀ (i : Nat) (p : Addr) (u : Ct), O[i]? = some p → S[i]? = some u → u.live = true → p ≠ q := fun i p u h1 h2 h3 z => by
    obtain ⟨v, e1, _⟩ := (h.cell i p u h1 h2).some h3
    rw [z, hq] at e1; cases e1
  have cases2 : ∀ (i : Nat) (p : Addr) (u : Ct), (O ++ [q])[i]? = some p → (S ++ [t])[i]? = some u → (O[i]? = some p ∧ S[i]? = some u ∧ i < O.length) ∨ (i = O.length ∧ p = q ∧ u = t) := fun i p u h1 h2 => by
    rcases get_app h1 with ⟨a1, a2⟩ | ⟨a1, a2⟩
    · rcases get_app h2 with ⟨b1, b2⟩ | ⟨b1, b2⟩
      · exact .inl ⟨a2, b2, a1⟩
      · have := h.len; omega
    · rcases get_app h2 with ⟨b1, b2⟩ | ⟨b1, b2⟩
      · have := h.len; omega
      · exact .inr ⟨a1, a2, b2⟩
  refine ⟨h.ok, h.ok.ex H _ h.ph (Ex.new hq), by rw [List.length_append, List.length_append, h.len]; rfl, fun i j p t1 u1 a1 a2 a3 b1 b2 b3 => ?_, fun i p u h1 h2 => ?_, fun i p u h1 h2 h3 => ?_⟩
  · rcases cases2 i p t1 a1 a2 with ⟨x1, x2, x3⟩ | ⟨x1, x2, x3⟩
    · rcases cases2 j p u1 b1 b2 with ⟨y1, y2, y3⟩ | ⟨y1, y2, y3⟩
      · exact h.nd i j p t1 u1 x1 x2 a3 y1 y2 b3
      · exact absurd y2 (hne i p t1 x1 x2 a3)
    · rcases cases2 j p u1 b1 b2 with ⟨y1, y2, y3⟩ | ⟨y1, y2, y3⟩
      · exact absurd x2 (hne j p u1 y1 y2 b3)
      · omega
  · rw [ev]
    rcases cases2 i p u h1 h2 with ⟨x1, x2, x3⟩ | ⟨x1, x2, x3⟩
    · exact (h.cell i p u x1 x2).mono (RX.refl _) fun hl => upd_ne (hne i p u x1 x2 hl)
    · subst x2; subst x3; exact hc
  · rcases cases2 i p u h1 h2 with ⟨x1, x2, x3⟩ | ⟨x1, x2, x3⟩
    · exact h.own i p u x1 x2 h3
    · subst x2
      exact ⟨f1, f2⟩
theorem set_cases {S : List Ct} {i j : Nat} {t u : Ct} (h : (S.set i t)[j]? = some u) : (j = i ∧ u = t ∧ i < S.length) ∨ (j ≠ i ∧ S[j]? = some u) := by
  by_cases e : i = j
  · subst e
    have hl := (List.getElem?_eq_some_iff.mp h).1
    rw [List.length_set] at hl
    rw [List.getElem?_set_self hl] at h
    exact .inl ⟨rfl, (Option.some.inj h).symm, hl⟩
  · rw [List.getElem?_set_ne e] at h
    exact .inr ⟨Ne.symm e, h⟩
theorem mem_live_set {i : Nat} {t t' : Ct} (hs : S[i]? = some t) (h : t.live = true) (h' : t'.live = true) {a : Addr} : a ∈ live O (S.set i t') ↔ a ∈ live O S := by
  rw [mem_live, mem_live]
  constructor
  · rintro ⟨j, u, h1, h2, h3⟩
    rcases set_cases h2 with ⟨e1, e2, _⟩ | ⟨e1, e2⟩
    · subst e1
      exact ⟨j, t, h1, hs, h⟩
    · exact ⟨j, u, h1, e2, h3⟩
  · rintro ⟨j, u, h1, h2, h3⟩
    by_cases e : i = j
    · subst e
      exact ⟨i, t', h1, List.getElem?_set_self (List.getElem?_eq_some_iff.mp h2).1, h'⟩
    · exact ⟨j, u, h1, by rw [List.getElem?_set_ne e]; exact h2, h3⟩
theorem vw_set {i : Nat} {p : Addr} {t t' : Ct} {o : HO} (hp : O[i]? = some p) (hs : S[i]? = some t) (h : t.live = true) (h' : t'.live = true) : vw c O (S.set i t') (upd H p o) = vw c O S H := by
  funext a
  unfold vw
  have e : (c.N a = true ∨ a ∈ live O (S.set i t')) = (c.N a = true ∨ a ∈ live O S) := by rw [mem_live_set hs h h']
  simp only [e]
  split
  · rfl
  · rename_i n
    rw [upd_ne]
    rintro rfl
    exact n (.inr (mem_live.mpr ⟨i, t, hp, hs, h⟩))
/-- a cell of one's own is written -/
theorem Hs.set (h : Hs K c O S H) {i : Nat} {p : Addr} {t t' : Ct} {o : HO} (hp : O[i]? = some p) (hs : S[i]? = some t) (ht : t.live = true) (ht' : t'.live = true) (hc : Cell K (vw c O S H) (upd H p o) p t') : Hs K c O (S.set i t') (upd H p o) := by
  have ev := vw_set (c := c) (H := H) (o := o) hp hs ht ht'
  have back : ∀ (j : Nat) (u : Ct), (S.set i t')[j]? = some u → u.live = true → ∃ u', S[j]? = some u' ∧ u'.live = true := fun j u hu hl => by
    rcases set_cases hu with ⟨e1, e2, _⟩ | ⟨e1, e2⟩
    · subst e1; exact ⟨t, hs, ht⟩
    · exact ⟨u, e2, hl⟩
  refine ⟨h.ok, h.ok.up p (h.own i p t hp hs ht).2 H o h.ph, by rw [List.length_set]; exact h.len, fun j k q t1 u1 a1 a2 a3 b1 b2 b3 => ?_, fun j q u h1 h2 => ?_, fun j q u h1 h2 h3 => ?_⟩
  · obtain ⟨t2, x1, x2⟩ := back j t1 a2 a3
    obtain ⟨u2, y1, y2⟩ := back k u1 b2 b3
    exact h.nd j k q t2 u2 a1 x1 x2 b1 y1 y2
  · rw [ev]
    rcases set_cases h2 with ⟨e1, e2, _⟩ | ⟨e1, e2⟩
    · subst e1; subst e2
      rw [hp] at h1; cases h1
      exact hc
    · exact (h.cell j q u h1 e2).mono (RX.refl _) fun hl => upd_ne fun z => by
        subst z
        exact e1 (h.nd j i q u t h1 e2 hl hp hs ht)
  · obtain ⟨u', x1, x2⟩ := back j u h2 h3
    exact h.own j q u' h1 x1 x2
theorem mem_live_gone {i : Nat} {a : Addr} (h : a ∈ live O (S.set i .gone)) : a ∈ live O S := by
  obtain ⟨j, u, h1, h2, h3⟩ := mem_live.mp h
  rcases set_cases h2 with ⟨e1, e2, _⟩ | ⟨e1, e2⟩
  · subst e2; cases h3
  · exact mem_live.mpr ⟨j, u, h1, e2, h3⟩
theorem RX.gone {i : Nat} : RX (vw c O S H) (vw c O (S.set i .gone) H) := RX.ex fun a o h => by
  obtain ⟨h1, h2, h3⟩ := vw_some h
  rw [vw_of h2 fun z => h3 (mem_live_gone z)]
  exact h1
/-- a cell is given up: it is data from then on -/
theorem Hs.gone (h : Hs K c O S H) (i : Nat) : Hs K c O (S.set i .gone) H := by
  have back : ∀ (j : Nat) (u : Ct), (S.set i .gone)[j]? = some u → u.live = true → S[j]? = some u := fun j u hu hl => by
    rcases set_cases hu with ⟨e1, e2, _⟩ | ⟨e1, e2⟩
    · subst e2; cases hl
    · exact e2
  refine ⟨h.ok, h.ph, by rw [List.length_set]; exact h.len, fun j k q t1 u1 a1 a2 a3 b1 b2 b3 => h.nd j k q t1 u1 a1 (back j t1 a2 a3) a3 b1 (back k u1 b2 b3) b3, fun j q u h1 h2 => ?_, fun j q u h1 h2 h3 => h.own j q u h1 (back j u h2 h3) h3⟩
  cases hl : u.live with
  | true => exact (h.cell j q u h1 (back j u h2 hl)).mono RX.gone fun _ => rfl
  | false =>
    cases u with
    | gone => trivial
    | _ => cases hl
/-- what a cell held, as data -/
def Ct.dat : Ct → Dat
  | .l ds => .lst ds
  | .m kvs => .dic kvs
  | _ => .non
def Ct.datOk : Ct → Bool
  | .l _ => true
  | .m _ => true
  | _ => false
theorem Hs.goneAt (h : Hs K c O S H) {i : Nat} {p : Addr} {t : Ct} (hp : O[i]? = some p) (hs : S[i]? = some t) (hd : t.datOk = true) : At K (vw c O (S.set i .gone) H) (.ref p) t.dat := by
  have hl : t.live = true := by cases t <;> first | rfl | cases hd
  have hv : vw c O (S.set i .gone) H p = H p := vw_of (h.own i p t hp hs hl).1 fun z => by
    obtain ⟨j, u, h1, h2, h3⟩ := mem_live.mp z
    rcases set_cases h2 with ⟨e1, e2, _⟩ | ⟨e1, e2⟩
    · subst e2; cases h3
    · exact e1 (h.nd j i p u t h1 e2 h3 hp hs hl)
  have hc := h.cell i p t hp hs
  cases t with
  | l ds =>
    obtain ⟨vs, a, b⟩ := hc
    exact .lst (.inl (.inl (hv.trans a))) (b.mono RX.gone)
  | m kvs =>
    obtain ⟨vs, a, b⟩ := hc
    exact .dic (.inl (hv.trans a)) (b.mono RX.gone)
  | k kvs => cases hd
  | gone => cases hd
/-- cells that are given up, at the end, may be left out -/
theorem live_dropGone {p : Addr} (hl : O.length = S.length) : live (O ++ [p]) (S ++ [.gone]) = live O S := by
  rw [live_append hl]
  show live O S ++ [] = live O S
  rw [List.append_nil]
theorem Hs.drop {p : Addr} (hl : O.length = S.length) (h : Hs K c (O ++ [p]) (S ++ [.gone]) H) : Hs K c O S H := by
  have ev : vw c (O ++ [p]) (S ++ [.gone]) H = vw c O S H := by
    funext a
    unfold vw
    rw [live_dropGone hl]
  have up : ∀ {i : Nat} {q : Addr}, O[i]? = some q → (O ++ [p])[i]? = some q := fun {i q} e => by
    rw [List.getElem?_append_left (List.getElem?_eq_some_iff.mp e).1]; exact e
  have upS : ∀ {i : Nat} {q : Ct}, S[i]? = some q → (S ++ [Ct.gone])[i]? = some q := fun {i q} e => by
    rw [List.getElem?_append_left (List.getElem?_eq_some_iff.mp e).1]; exact e
  exact ⟨h.ok, h.ph, hl, fun i j q t u a1 a2 a3 b1 b2 b3 => h.nd i j q t u (up a1) (upS a2) a3 (up b1) (upS b2) b3, fun i q t h1 h2 => by rw [← ev]; exact h.cell i q t (up h1) (upS h2), fun i q t h1 h2 h3 => h.own i q t (up h1) (upS h2) h3⟩

/-! ### values and slots -/
def VOk (K : PySem.W.Frag) (O : List Addr) (Hm : Hp) : Sl → V → Prop
  | .un, _ => True
  | .d x, v => At K Hm v x
  | .o i, v => ∃ p, O[i]? = some p ∧ v = .ref p
structure SlOk (K : PySem.W.Frag) (O : List Addr) (Hm : Hp) (ρ : List Sl) (σ : L2.St) : Prop where
  len : σ.length = ρ.length
  at' : ∀ (i : Nat) (r : Sl), ρ[i]? = some r → r ≠ .un → ∃ v, σ[i]? = some (some v) ∧ VOk K O Hm r v
theorem VOk.mono {O' : List Addr} {Hm Hm' : Hp} {r : Sl} {v : V} (e : RX Hm Hm') (h : VOk K O Hm r v) : VOk K (O ++ O') Hm' r v := by
  cases r with
  | un => trivial
  | d x => exact At.mono e h
  | o i =>
    obtain ⟨p, h1, h2⟩ := h
    exact ⟨p, by rw [List.getElem?_append_left (List.getElem?_eq_some_iff.mp h1).1]; exact h1, h2⟩
theorem VOk.mono0 {Hm Hm' : Hp} {r : Sl} {v : V} (e : RX Hm Hm') (h : VOk K O Hm r v) : VOk K O Hm' r v := by
  have := h.mono (O' := []) e
  rw [List.append_nil] at this
  exact this
theorem SlOk.mono {O' : List Addr} {Hm Hm' : Hp} {ρ : List Sl} {σ : L2.St} (e : RX Hm Hm') (h : SlOk K O Hm ρ σ) : SlOk K (O ++ O') Hm' ρ σ := ⟨h.len, fun i r h1 h2 => by
  obtain ⟨v, a, b⟩ := h.at' i r h1 h2
  exact ⟨v, a, b.mono e⟩⟩
theorem SlOk.set {Hm : Hp} {ρ : List Sl} {σ : L2.St} {r : Sl} {v : V} (h : SlOk K O Hm ρ σ) (j : Nat) (hv : VOk K O Hm r v) : SlOk K O Hm (ρ.set j r) (σ.set j (some v)) := by
  refine ⟨by rw [List.length_set, List.length_set]; exact h.len, fun i q h1 h2 => ?_⟩
  by_cases e : j = i
  · subst e
    have hl := (List.getElem?_eq_some_iff.mp h1).1
    rw [List.length_set] at hl
    rw [List.getElem?_set_self hl] at h1
    cases h1
    exact ⟨v, List.getElem?_set_self (by rw [h.len]; exact hl), hv⟩
  · rw [List.getElem?_set_ne e] at h1 ⊢
    exact h.at' i q h1 h2
end
end Tw
end
section
set_option Elab.async false
set_option linter.all false
set_option maxRecDepth 100000
set_option maxHeartbeats 1000000
/-! TwLogic: what an expression comes to, by data: DE, DT, DA over the text. -/
namespace Tw
open PySem PySem.Spec PyProof.Rows L2
open Evl (Ex)

/-- what is wanted behind an expression -/
def PostE (K : PySem.W.Frag) (c : Cz) (O : List Addr) (S : List Ct) (H : Hp) (S' : List Ct) (r : Sl) (Q : VK) : Prop :=
  ∀ v H' O', Hs K c (O ++ O') S' H' → RX (vw c O S H) (vw c (O ++ O') S' H') → VOk K (O ++ O') (vw c (O ++ O') S' H') r v → Q v H'
section
variable {K : PySem.W.Frag} {c : Cz} {O O1 : List Addr} {S S1 S' : List Ct} {H H1 : Hp} {r : Sl} {Q : VK} {v : V}
theorem PostE.step (q : PostE K c O S H S' r Q) (e : RX (vw c O S H) (vw c (O ++ O1) S1 H1)) : PostE K c (O ++ O1) S1 H1 S' r Q := fun v H' O' h1 h2 h3 => by
  rw [List.append_assoc] at h1 h2 h3
  exact q v H' (O1 ++ O') h1 (e.trans h2) h3
theorem PostE.here (q : PostE K c O S H S r Q) (h : Hs K c O S H) (hv : VOk K O (vw c O S H) r v) : Q v H := q v H [] (by rw [List.append_nil]; exact h) (by rw [List.append_nil]; exact RX.refl _) (by rw [List.append_nil]; exact hv)
/-- the heap has grown, or the cells have been given up -/
theorem PostE.go (q : PostE K c O S H S' r Q) (h : Hs K c O S' H1) (e : RX (vw c O S H) (vw c O S' H1)) (hv : VOk K O (vw c O S' H1) r v) : Q v H1 := q v H1 [] (by rw [List.append_nil]; exact h) (by rw [List.append_nil]; exact e) (by rw [List.append_nil]; exact hv)
theorem PostE.ex (q : PostE K c O S H S r Q) (h : Hs K c O S H) (e : Ex H H1) (hv : VOk K O (vw c O S H1) r v) : Q v H1 := q.go (h.ex e) (RX.vw_ex e) hv
/-- a new cell of one's own -/
theorem PostE.own {q : Addr} {t : Ct} {o : HO} (k : PostE K c O S H (S ++ [t]) (.o S.length) Q) (h : Hs K c O S H) (hq : H q = none) (ht : t.live = true) (hc : Cell K (vw c O S H) (upd H q o) q t) : Q (.ref q) (upd H q o) := by
  refine k (.ref q) (upd H q o) [q] (h.newOwn hq ht hc) ?_ ⟨q, ?_, rfl⟩
  · rw [vw_new h.len ht hq]; exact RX.refl _
  · rw [← h.len, List.getElem?_append_right (Nat.le_refl _), Nat.sub_self]; rfl
end

/-! ### the judgements -/
def Dn (K : PySem.W.Frag) (c : Cz) (t : TE) (ρ : List Sl) (S : List Ct) (r : Sl) (S' : List Ct) : Prop :=
  ∀ σ H O, Hs K c O S H → SlOk K O (vw c O S H) ρ σ → ∀ Q, PostE K c O S H S' r Q → t σ H Q
def PostT (K : PySem.W.Frag) (c : Cz) (O : List Addr) (S : List Ct) (H : Hp) (S' : List Ct) (b : Bool) (Q : Bool → Hp → Prop) : Prop :=
  ∀ H' O', Hs K c (O ++ O') S' H' → RX (vw c O S H) (vw c (O ++ O') S' H') → Q b H'
def DnT (K : PySem.W.Frag) (c : Cz) (t : TT) (ρ : List Sl) (S : List Ct) (b : Bool) (S' : List Ct) : Prop :=
  ∀ σ H O, Hs K c O S H → SlOk K O (vw c O S H) ρ σ → ∀ Q, PostT K c O S H S' b Q → t σ H Q
def VsOk (K : PySem.W.Frag) (O : List Addr) (Hm : Hp) : List Sl → List V → Prop
  | [], vs => vs = []
  | r :: rs, vs => ∃ v ws, vs = v :: ws ∧ VOk K O Hm r v ∧ VsOk K O Hm rs ws
theorem VsOk.mono {K : PySem.W.Frag} {O O' : List Addr} {Hm Hm' : Hp} (e : RX Hm Hm') : ∀ {rs : List Sl} {vs : List V}, VsOk K O Hm rs vs → VsOk K (O ++ O') Hm' rs vs
  | [], _, h => h
  | r :: rs, _, ⟨v, ws, e1, h1, h2⟩ => ⟨v, ws, e1, h1.mono e, VsOk.mono e h2⟩
theorem VsOk.all {K : PySem.W.Frag} {O : List Addr} {Hm : Hp} : ∀ {ds : List Dat} {vs : List V}, VsOk K O Hm (ds.map .d) vs → AtAll K Hm vs ds
  | [], _, h => by
    have h' : _ = [] := h
    subst h'
    exact .nil
  | d :: ds, _, ⟨v, ws, e1, h1, h2⟩ => by
    subst e1
    exact .cons h1 (VsOk.all h2)
def PostA (K : PySem.W.Frag) (c : Cz) (O : List Addr) (S : List Ct) (H : Hp) (S' : List Ct) (rs : List Sl) (Q : List V → Hp → Prop) : Prop :=
  ∀ vs H' O', Hs K c (O ++ O') S' H' → RX (vw c O S H) (vw c (O ++ O') S' H') → VsOk K (O ++ O') (vw c (O ++ O') S' H') rs vs → Q vs H'
def DnA (K : PySem.W.Frag) (c : Cz) (t : TA) (ρ : List Sl) (S : List Ct) (rs : List Sl) (S' : List Ct) : Prop :=
  ∀ σ H O, Hs K c O S H → SlOk K O (vw c O S H) ρ σ → ∀ Q, PostA K c O S H S' rs Q → t σ H Q

/-- the weakest readings -/
def tW (X : Cx) (e : Expr) : TE := fun σ H Q => ∀ pins s, Inv X pins σ H s → wpAny (model X.prog X.w) X.A (eval e X.env) (EP X pins σ Q) X.xe s
theorem pe_tW {X : Cx} {e : Expr} : PE X e (tW X e) := ⟨fun pins s σ H Q I h => h pins s I⟩
def tWT (X : Cx) (e : Expr) : TT := fun σ H Q => ∀ pins s, Inv X pins σ H s → wpAny (model X.prog X.w) X.A (isTrue e X.env (eval e X.env)) (TP X pins σ Q) X.xe s
theorem pt_tW {X : Cx} {e : Expr} : PT X e (tWT X e) := ⟨fun pins s σ H Q I h => h pins s I⟩
def tWW (X : Cx) (e : Expr) : TT := fun σ H Q => ∀ whole pins s, Inv X pins σ H s → wpAny (model X.prog X.w) X.A (isTrue e X.env whole) (TP X pins σ Q) X.xe s
theorem pw_tW {X : Cx} {e : Expr} : PW X e (tWW X e) := ⟨fun whole pins s σ H Q I h => h whole pins s I⟩
def tWA (X : Cx) (es : List Expr) : TA := fun σ H Q => ∀ (pos : Pos) pins s, Inv X pins σ H s → wpAny (model X.prog X.w) X.A (spliced (backTo pos (starEach es X.env))) (AP X pins σ Q) X.xe s
theorem pa_tW {X : Cx} {es : List Expr} : PA X es (tWA X es) := ⟨fun pos pins s σ H Q I h => h pos pins s I⟩

def DE (X : Cx) (c : Cz) (ρ : List Sl) (S : List Ct) (e : Expr) (r : Sl) (S' : List Ct) : Prop := Dn X.K c (tW X e) ρ S r S'
def DT (X : Cx) (c : Cz) (ρ : List Sl) (S : List Ct) (e : Expr) (b : Bool) (S' : List Ct) : Prop := DnT X.K c (tWT X e) ρ S b S'
/-- a test within and, or -/
def DW (X : Cx) (c : Cz) (ρ : List Sl) (S : List Ct) (e : Expr) (b : Bool) (S' : List Ct) : Prop := DnT X.K c (tWW X e) ρ S b S'
def DA (X : Cx) (c : Cz) (ρ : List Sl) (S : List Ct) (es : List Expr) (rs : List Sl) (S' : List Ct) : Prop := DnA X.K c (tWA X es) ρ S rs S'

section
variable {X : Cx} {c : Cz} {ρ : List Sl} {S S1 S2 S3 : List Ct} {e a b : Expr} {es : List Expr} {r ra rb rz : Sl} {rs : List Sl} {pos : Pos} {t ta tb : TE} {tt : TT} {k : Bool}
theorem de_of (h : PE X e t) (d : Dn X.K c t ρ S r S1) : DE X c ρ S e r S1 := fun σ H O hs sl Q q pins s I => h.run pins s σ H Q I (d σ H O hs sl Q q)
theorem dt_of (h : PT X e tt) (d : DnT X.K c tt ρ S k S1) : DT X c ρ S e k S1 := fun σ H O hs sl Q q pins s I => h.run pins s σ H Q I (d σ H O hs sl Q q)
theorem dw_of (h : PW X e tt) (d : DnT X.K c tt ρ S k S1) : DW X c ρ S e k S1 := fun σ H O hs sl Q q whole pins s I => h.run whole pins s σ H Q I (d σ H O hs sl Q q)
theorem da_of {tA : TA} (h : PA X es tA) (d : DnA X.K c tA ρ S rs S1) : DA X c ρ S es rs S1 := fun σ H O hs sl Q q pos pins s I => h.run pos pins s σ H Q I (d σ H O hs sl Q q)
theorem dw_dt (h : DW X c ρ S e k S1) : DT X c ρ S e k S1 := dt_of pw_tW.pt h

/-! ### names, constants -/
theorem de_var (i : Nat) {x : Str} {p : Pos} (hr : ρ[i]? = some r) (hn : r ≠ .un := by nofun) (hN : X.N[i]? = some x := by rfl) (hv : Vis X.env.scope x := by first | exact Or.inl rfl | exact Or.inr (Or.inl rfl) | exact Or.inr (Or.inr rfl))
    (hd : (x == ("__debug__" : Str)) = false := by decide) (hcd : (x == ("__classdict__" : Str)) = false := by decide) : DE X c ρ S (.Name x p) r S :=
  de_of (pe_var hN hv hd hcd) fun σ H O hs sl Q q => by
    obtain ⟨v, e1, e2⟩ := sl.at' i r hr hn
    exact ⟨v, e1, q.here hs e2⟩
theorem dn_c {v : V} {x : Dat} (h : ∀ H, At X.K H v x) : Dn X.K c (tC v) ρ S (.d x) S := fun σ H O hs sl Q q => q.here hs (h _)
theorem de_int {i : Int} {j : Nat} {p : Pos} : DE X c ρ S (.Constant (.int i) j p) (.d (.int i)) S := de_of pe_int (dn_c fun _ => .int i)
theorem de_bl {k : Bool} {j : Nat} {p : Pos} : DE X c ρ S (.Constant (.bool k) j p) (.d (.bl k)) S := de_of pe_bl (dn_c fun _ => .bl k)
theorem de_non {j : Nat} {p : Pos} : DE X c ρ S (.Constant .none j p) (.d .non) S := de_of pe_non (dn_c fun _ => .non)
theorem de_str {x : Str} {j : Nat} {p : Pos} : DE X c ρ S (.Constant (.str x) j p) (.d (.str x)) S := de_of pe_str (dn_c fun _ => .str x)
/-- a constant of the module -/
structure GC (K : PySem.W.Frag) (mg : Str → Option Value) (x : Str) (d : Dat) : Prop where
  ex : ∃ v u, mg x = some u ∧ RelV v u ∧ ∀ H, At K H v d
theorem de_glob {x : Str} {p : Pos} {d : Dat} (h : GC X.K X.mg x d) (hg : Gl X x := by rfl) (hd : (x == ("__debug__" : Str)) = false := by decide) : DE X c ρ S (.Name x p) (.d d) S := by
  obtain ⟨v, u, h1, h2, h3⟩ := h.ex
  exact de_of (pe_glob hg h1 h2 hd) (dn_c h3)

/-! ### data out of a cell -/
theorem de_dat {i : Nat} {y : Ct} (h : DE X c ρ S e (.o i) S1) (hy : S1[i]? = some y) (hd : y.datOk = true) : DE X c ρ S e (.d y.dat) (S1.set i .gone) := fun σ H O hs sl Q q => by
  refine h σ H O hs sl Q fun v H' O' h1 h2 h3 => ?_
  obtain ⟨p, e1, e2⟩ := h3
  subst e2
  refine q (.ref p) H' O' (h1.gone i) (h2.trans RX.gone) ?_
  exact h1.goneAt e1 hy hd
theorem de_eq {r' : Sl} (h : DE X c ρ S e r S1) (e1 : r = r') : DE X c ρ S e r' S1 := e1 ▸ h
/-- a state is a tuple -/
theorem At.stTup {K : PySem.W.Frag} {H : Hp} {v : V} {ns : List Int} (h : At K H v (.st ns)) : At K H v (.tup (ns.map .int)) := by
  cases h with
  | st e =>
    refine .tup (.inl (.inl e)) ?_
    clear e
    induction ns with
    | nil => exact .nil
    | cons n ns ih => exact .cons (.int n) ih
theorem de_st {ns : List Int} (h : DE X c ρ S e (.d (.st ns)) S1) : DE X c ρ S e (.d (.tup (ns.map .int))) S1 := fun σ H O hs sl Q q => h σ H O hs sl Q fun v H' O' h1 h2 h3 => q v H' O' h1 h2 (At.stTup h3)

/-! ### two in a row -/
/-- an operation on two values -/
def Do2 (K : PySem.W.Frag) (c : Cz) (g : R2) (S : List Ct) (ra rb rz : Sl) (S' : List Ct) : Prop :=
  ∀ x y H O, Hs K c O S H → VOk K O (vw c O S H) ra x → VOk K O (vw c O S H) rb y → ∀ Q, PostE K c O S H S' rz Q → g x y H Q
theorem dn_two {g : R2} (ha : Dn X.K c ta ρ S ra S1) (hb : Dn X.K c tb ρ S1 rb S2) (ho : Do2 X.K c g S2 ra rb rz S3) : Dn X.K c (tOp g ta tb) ρ S rz S3 := fun σ H O hs sl Q q => by
  refine ha σ H O hs sl _ fun x H1 O1 h1 e1 v1 => ?_
  refine hb σ H1 _ h1 (sl.mono e1) _ fun y H2 O2 h2 e2 v2 => ?_
  refine ho x y H2 _ h2 (v1.mono e2) v2 Q ?_
  exact (q.step e1).step e2
def OpD (X : Cx) (c : Cz) (f : Value → Value → Sem Value) (S : List Ct) (ra rb rz : Sl) (S' : List Ct) : Prop := ∃ g, OpR X f g ∧ Do2 X.K c g S ra rb rz S'
theorem de_bin {op : Operator} (ha : DE X c ρ S a ra S1) (hb : DE X c ρ S1 b rb S2) (ho : OpD X c (binaryOp op) S2 ra rb rz S3) : DE X c ρ S (.BinOp a op b pos) rz S3 := by
  obtain ⟨g, h1, h2⟩ := ho
  exact de_of (pe_op h1 pe_tW pe_tW) (dn_two ha hb h2)
theorem de_cmp {op : CmpOp} (ha : DE X c ρ S a ra S1) (hb : DE X c ρ S1 b rb S2) (ho : OpD X c (compareOp op) S2 ra rb rz S3) (hm : behindInMarks op b = false := by first | exact nomark _ | rfl) : DE X c ρ S (.Compare a [op] [b] pos) rz S3 := by
  obtain ⟨g, h1, h2⟩ := ho
  exact de_of (pe_cmpR h1 pe_tW pe_tW hm) (dn_two ha hb h2)
theorem dt_cmp {op : CmpOp} (ha : DE X c ρ S a ra S1) (hb : DE X c ρ S1 b rb S2) (ho : OpD X c (compareOp op) S2 ra rb (.d (.bl k)) S3) (hm : behindInMarks op b = false := by first | exact nomark _ | rfl) : DT X c ρ S (.Compare a [op] [b] pos) k S3 := by
  obtain ⟨g, h1, h2⟩ := ho
  refine dt_of (pt_cmpR h1 pe_tW pe_tW hm) fun σ H O hs sl Q q => ?_
  refine dn_two ha hb h2 σ H O hs sl _ fun v H' O' a1 a2 a3 => ?_
  cases a3
  exact ⟨k, rfl, q H' O' a1 a2⟩
/-- a < b < c -/
theorem de_chain {d : Expr} {op op' : CmpOp} {rc : Sl} {k2 : Bool} {g' : R2} (ha : DE X c ρ S a ra S1) (hb : DE X c ρ S1 b rb S2) (ho : OpD X c (compareOp op) S2 ra rb (.d (.bl k)) S2) (h1' : OpR X (compareOp op') g') (hd : k = true → DE X c ρ S2 d rc S2) (h2' : k = true → Do2 X.K c g' S2 rb rc (.d (.bl k2)) S2)
    (hm : lastMarks [op, op'] [b, d] = false := by with_unfolding_all rfl) : DE X c ρ S (.Compare a [op, op'] [b, d] pos) (.d (.bl (k && k2))) S2 := by
  obtain ⟨g, h1, h2⟩ := ho
  refine de_of (pe_chain h1 h1' pe_tW pe_tW pe_tW hm) fun σ H O hs sl Q q => ?_
  refine ha σ H O hs sl _ fun x H1 O1 a1 a2 a3 => ?_
  refine hb σ H1 _ a1 (sl.mono a2) _ fun y H2 O2 b1 b2 b3 => ?_
  refine h2 x y H2 _ b1 (a3.mono b2) b3 _ fun z H3 O3 c1 c2 c3 => ?_
  cases c3
  refine ⟨k, rfl, ?_⟩
  have q3 := ((q.step a2).step b2).step c2
  cases k with
  | true =>
    rw [if_pos rfl]
    refine hd rfl σ H3 _ c1 (((sl.mono a2).mono b2).mono c2) _ fun w' H4 O4 d1 d2 d3 => ?_
    refine h2' rfl y w' H4 _ d1 ((b3.mono c2).mono d2) d3 Q ?_
    exact q3.step d2
  | false =>
    rw [if_neg Bool.false_ne_true]
    exact q3.here c1 (.bl false)

/-! ### and, or, not -/
theorem dt_not (h : DT X c ρ S a k S1) : DT X c ρ S (.UnaryOp .Not a pos) (!k) S1 := dt_of (pt_not pt_tW) fun σ H O hs sl Q q => h σ H O hs sl _ fun H' O' h1 h2 => q H' O' h1 h2
theorem de_not (h : DE X c ρ S a (.d (.bl k)) S1) : DE X c ρ S (.UnaryOp .Not a pos) (.d (.bl (!k))) S1 := de_of (pe_not pe_tW) fun σ H O hs sl Q q => h σ H O hs sl _ fun v H' O' h1 h2 h3 => by
  cases h3
  exact ⟨k, rfl, q _ H' O' h1 h2 (.bl _)⟩
theorem de_neg {i : Int} (h : DE X c ρ S a (.d (.int i)) S1) : DE X c ρ S (.UnaryOp .USub a pos) (.d (.int (-i))) S1 := de_of (pe_un un_neg pe_tW) fun σ H O hs sl Q q => h σ H O hs sl _ fun v H' O' h1 h2 h3 => by
  cases h3
  exact ⟨i, rfl, q _ H' O' h1 h2 (.int _)⟩
variable {rest : List Expr} {k2 : Bool}
theorem dw_or1 (h : DT X c ρ S a k S1) : DW X c ρ S (.BoolOp .Or [a] pos) k S1 := dw_of (pw_or1 pt_tW) h
theorem dw_and1 (h : DT X c ρ S a k S1) : DW X c ρ S (.BoolOp .And [a] pos) k S1 := dw_of (pw_and1 pt_tW) h
theorem dw_or (h : DT X c ρ S a k S) (h2 : k = false → DW X c ρ S (.BoolOp .Or (b :: rest) pos) k2 S) : DW X c ρ S (.BoolOp .Or (a :: b :: rest) pos) (k || k2) S := dw_of (pw_or pt_tW pw_tW) fun σ H O hs sl Q q => by
  refine h σ H O hs sl _ fun H1 O1 a1 a2 => ?_
  cases k with
  | true => exact q H1 O1 a1 a2
  | false =>
    refine h2 rfl σ H1 _ a1 (sl.mono a2) Q fun H2 O2 b1 b2 => ?_
    rw [List.append_assoc] at b1 b2
    exact q H2 _ b1 (a2.trans b2)
theorem dw_and (h : DT X c ρ S a k S) (h2 : k = true → DW X c ρ S (.BoolOp .And (b :: rest) pos) k2 S) : DW X c ρ S (.BoolOp .And (a :: b :: rest) pos) (k && k2) S := dw_of (pw_and pt_tW pw_tW) fun σ H O hs sl Q q => by
  refine h σ H O hs sl _ fun H1 O1 a1 a2 => ?_
  cases k with
  | false => exact q H1 O1 a1 a2
  | true =>
    refine h2 rfl σ H1 _ a1 (sl.mono a2) Q fun H2 O2 b1 b2 => ?_
    rw [List.append_assoc] at b1 b2
    exact q H2 _ b1 (a2.trans b2)
theorem de_one {op : BoolOp} (h : DE X c ρ S a r S1) : DE X c ρ S (.BoolOp op [a] pos) r S1 := de_of (pe_one pe_tW) h
theorem de_and (h : DE X c ρ S a (.d (.bl k)) S) (h2 : k = true → DE X c ρ S (.BoolOp .And (b :: rest) pos) (.d (.bl k2)) S) : DE X c ρ S (.BoolOp .And (a :: b :: rest) pos) (.d (.bl (k && k2))) S := de_of (pe_and pe_tW pe_tW) fun σ H O hs sl Q q => by
  refine h σ H O hs sl _ fun v H1 O1 a1 a2 a3 => ?_
  cases a3
  refine ⟨k, rfl, ?_⟩
  cases k with
  | false => rw [if_neg Bool.false_ne_true]; exact q _ H1 O1 a1 a2 (.bl false)
  | true => rw [if_pos rfl]; exact h2 rfl σ H1 _ a1 (sl.mono a2) Q (q.step a2)
/-- a value that is True or False, as a test -/
theorem dt_val (h : DE X c ρ S a (.d (.bl k)) S1) (he : ∀ whole, isTrue a X.env whole = (do let v ← whole; standAt a.pos; holding [v] (truthy v)) := by intro _; rfl) : DT X c ρ S a k S1 := dt_of (pt_val pe_tW he) fun σ H O hs sl Q q => by
  refine h σ H O hs sl _ fun v H1 O1 a1 a2 a3 => ?_
  cases a3
  exact ⟨k, rfl, q H1 O1 a1 a2⟩
theorem dt_eq {k' : Bool} (h : DT X c ρ S e k S1) (e1 : k = k') : DT X c ρ S e k' S1 := e1 ▸ h

/-! ### lists of arguments, displays -/
theorem da_nil : DA X c ρ S [] [] S := da_of pa_nil fun σ H O hs sl Q q => q [] H [] (by rw [List.append_nil]; exact hs) (by rw [List.append_nil]; exact RX.refl _) rfl
theorem da_cons (h : DE X c ρ S e r S1) (hr : DA X c ρ S1 es rs S2) (hs : starEach (e :: es) X.env = (false, eval e X.env) :: starEach es X.env := by rfl) : DA X c ρ S (e :: es) (r :: rs) S2 := da_of (pa_cons pe_tW pa_tW hs) fun σ H O hs sl Q q => by
  refine h σ H O hs sl _ fun v H1 O1 a1 a2 a3 => ?_
  refine hr σ H1 _ a1 (sl.mono a2) _ fun vs H2 O2 b1 b2 b3 => ?_
  have b3' := a3.mono (O' := O2) b2
  rw [List.append_assoc] at b1 b2 b3 b3'
  exact q (v :: vs) H2 _ b1 (a2.trans b2) ⟨v, vs, rfl, b3', b3⟩
theorem VsOk.len {K : PySem.W.Frag} {O : List Addr} {Hm : Hp} : ∀ {rs : List Sl} {vs : List V}, VsOk K O Hm rs vs → vs.length = rs.length
  | [], _, h => by
    have h' : _ = [] := h
    rw [h']; rfl
  | r :: rs, _, ⟨v, ws, e1, h1, h2⟩ => by rw [e1, List.length_cons, List.length_cons, VsOk.len h2]
/-- all are data -/
inductive Dats : List Sl → List Dat → Prop
  | nil : Dats [] []
  | cons {d : Dat} {rs : List Sl} {ds : List Dat} : Dats rs ds → Dats (.d d :: rs) (d :: ds)
theorem Dats.eq : ∀ {rs : List Sl} {ds : List Dat}, Dats rs ds → rs = ds.map .d
  | _, _, .nil => rfl
  | _, _, .cons h => by rw [h.eq]; rfl
theorem de_tup {ds : List Dat} {x1 : Nat} (h : DA X c ρ S es rs S1) (hd : Dats rs ds) (hz : ds.length ≤ 1000) : DE X c ρ S (.Tuple es x1 pos) (.d (.tup ds)) S1 := de_of (pe_tup pa_tW) fun σ H O hs sl Q q => by
  refine h σ H O hs sl _ fun vs H1 O1 a1 a2 a3 => ?_
  have l := a3.len
  rw [hd.eq] at a3 l
  rw [List.length_map] at l
  refine ⟨by rw [l]; exact Nat.le_of_lt (small1000 hz), fun p hp => ?_⟩
  have e := Ex.new (o := .tup vs) hp
  refine q (.ref p) _ O1 (a1.ex e) (a2.trans (RX.vw_ex e)) ?_
  exact .tup (.inl (.inl ((a1.ex e).st upd_same))) (a3.all.mono (RX.vw_ex e))
/-- a written state -/
theorem de_tupSt {ns : List Int} {x1 : Nat} (h : DA X c ρ S es (ns.map fun n => .d (.int n)) S1) (hz : ns.length ≤ 1000) : DE X c ρ S (.Tuple es x1 pos) (.d (.st ns)) S1 := de_of (pe_tup pa_tW) fun σ H O hs sl Q q => by
  refine h σ H O hs sl _ fun vs H1 O1 a1 a2 a3 => ?_
  have l := a3.len
  rw [List.length_map] at l
  have ev : vs = ns.map V.int := by
    clear l hz
    have a3' := a3
    clear a3 a1 a2 q sl hs h
    induction ns generalizing vs with
    | nil => exact a3'
    | cons n ns ih =>
      obtain ⟨v, ws, e1, e2, e3⟩ := a3'
      cases e2
      rw [e1, ih ws e3]
      rfl
  subst ev
  refine ⟨by rw [l]; exact Nat.le_of_lt (small1000 hz), fun p hp => ?_⟩
  have e := Ex.new (o := .tup (ns.map V.int)) hp
  exact q (.ref p) _ O1 (a1.ex e) (a2.trans (RX.vw_ex e)) (.st ((a1.ex e).st upd_same))
/-- a new list, as data -/
theorem vw_fresh {K : PySem.W.Frag} {c : Cz} {O : List Addr} {S : List Ct} {H : Hp} {p : Addr} {o : HO} (h : Hs K c O S H) (hp : H p = none) : vw c O S (upd H p o) p = some o := by
  rw [vw_of (h.ok.fr H p h.ph hp).1 fun z => ?_]
  · exact upd_same
  · obtain ⟨u, e1, _⟩ := h.liveSome z
    rw [hp] at e1; cases e1
theorem de_lst {ds : List Dat} (h : DA X c ρ S es rs S1) (hd : Dats rs ds) (hz : ds.length ≤ 1000) : DE X c ρ S (.List es pos) (.d (.lst ds)) S1 := de_of (pe_lst pa_tW) fun σ H O hs sl Q q => by
  refine h σ H O hs sl _ fun vs H1 O1 a1 a2 a3 => ?_
  have l := a3.len
  rw [hd.eq] at a3 l
  rw [List.length_map] at l
  refine ⟨by rw [l]; exact Nat.le_of_lt (small1000 hz), fun p hp => ?_⟩
  have e := Ex.new (o := .lst vs) hp
  refine q (.ref p) _ O1 (a1.ex e) (a2.trans (RX.vw_ex e)) ?_
  exact .lst (.inl (.inl (vw_fresh a1 hp))) (a3.all.mono (RX.vw_ex e))
/-- a new list of one's own -/
theorem de_lstO {ds : List Dat} (h : DA X c ρ S es rs S1) (hd : Dats rs ds) (hz : ds.length ≤ 1000) : DE X c ρ S (.List es pos) (.o S1.length) (S1 ++ [.l ds]) := de_of (pe_lst pa_tW) fun σ H O hs sl Q q => by
  refine h σ H O hs sl _ fun vs H1 O1 a1 a2 a3 => ?_
  have l := a3.len
  rw [hd.eq] at a3 l
  rw [List.length_map] at l
  refine ⟨by rw [l]; exact Nat.le_of_lt (small1000 hz), fun p hp => ?_⟩
  exact (q.step a2).own a1 hp rfl ⟨vs, upd_same, a3.all⟩
end
end Tw
end
section
set_option Elab.async false
set_option linter.all false
set_option maxRecDepth 100000
set_option maxHeartbeats 1000000
/-! TwOps: operations on data. -/
namespace Tw
open PySem PySem.Spec PyProof.Rows L2
open Evl (Ex)

section
variable {X : Cx} {K : PySem.W.Frag} {c : Cz} {ρ : List Sl} {S S1 S2 S3 : List Ct} {e a b : Expr} {es : List Expr} {r ra rb rz : Sl} {rs : List Sl} {pos : Pos} {i j : Int}

/-! ### ints -/
theorem do_I0 {g : Int → Int → V} {z : Dat} (h : ∀ H, At K H (g i j) z) : Do2 K c (rI0 g) S (.d (.int i)) (.d (.int j)) (.d z) S := fun x y H O hs hx hy Q q => by
  cases hx; cases hy
  exact ⟨i, j, rfl, rfl, q.here hs (h _)⟩
theorem do_I {C : Int → Int → Prop} {g : Int → Int → V} {z : Dat} (hc : C i j) (h : ∀ H, At K H (g i j) z) : Do2 K c (rI C g) S (.d (.int i)) (.d (.int j)) (.d z) S := fun x y H O hs hx hy Q q => by
  cases hx; cases hy
  exact ⟨i, j, rfl, rfl, hc, q.here hs (h _)⟩
theorem od_add : OpD X c (binaryOp .Add) S (.d (.int i)) (.d (.int j)) (.d (.int (i + j))) S := ⟨_, op_add, do_I0 fun _ => .int _⟩
theorem od_sub : OpD X c (binaryOp .Sub) S (.d (.int i)) (.d (.int j)) (.d (.int (i - j))) S := ⟨_, op_sub, do_I0 fun _ => .int _⟩
theorem od_mul (h : CMulW i j) : OpD X c (binaryOp .Mult) S (.d (.int i)) (.d (.int j)) (.d (.int (i * j))) S := ⟨_, op_mulW, do_I h fun _ => .int _⟩
theorem od_mulS (h : CMul i j) : OpD X c (binaryOp .Mult) S (.d (.int i)) (.d (.int j)) (.d (.int (i * j))) S := ⟨_, op_mul, do_I h fun _ => .int _⟩
theorem od_div (h : CDivW i j) : OpD X c (binaryOp .FloorDiv) S (.d (.int i)) (.d (.int j)) (.d (.int (i / j))) S := ⟨_, op_fdivW, do_I h fun _ => .int _⟩
theorem od_mod (h : 0 < j) : OpD X c (binaryOp .Mod) S (.d (.int i)) (.d (.int j)) (.d (.int (i % j))) S := ⟨_, op_mod, do_I h fun _ => .int _⟩
theorem od_pow (h : CPow i j) : OpD X c (binaryOp .Pow) S (.d (.int i)) (.d (.int j)) (.d (.int (i ^ j.toNat))) S := ⟨_, op_pow, do_I h fun _ => .int _⟩
theorem od_lt : OpD X c (compareOp .Lt) S (.d (.int i)) (.d (.int j)) (.d (.bl (decide (i < j)))) S := ⟨_, op_lt, do_I0 fun _ => .bl _⟩
theorem od_le : OpD X c (compareOp .LtE) S (.d (.int i)) (.d (.int j)) (.d (.bl (decide (i ≤ j)))) S := ⟨_, op_le, do_I0 fun _ => .bl _⟩
theorem od_gt : OpD X c (compareOp .Gt) S (.d (.int i)) (.d (.int j)) (.d (.bl (decide (j < i)))) S := ⟨_, op_gt, do_I0 fun _ => .bl _⟩
theorem od_ge : OpD X c (compareOp .GtE) S (.d (.int i)) (.d (.int j)) (.d (.bl (decide (j ≤ i)))) S := ⟨_, op_ge, do_I0 fun _ => .bl _⟩
theorem dec_V {i j : Int} : decide (V.int i = V.int j) = decide (i = j) := by
  by_cases h : i = j
  · subst h; simp
  · rw [decide_eq_false h, decide_eq_false fun z => h (V.int.inj z)]
theorem dec_VB {i j : Bool} : decide (V.bl i = V.bl j) = decide (i = j) := by cases i <;> cases j <;> rfl
theorem od_eq : OpD X c (compareOp .Eq) S (.d (.int i)) (.d (.int j)) (.d (.bl (decide (i = j)))) S := ⟨_, op_eq, fun x y H O hs hx hy Q q => by
  cases hx; cases hy
  exact ⟨rfl, q.here hs (by rw [dec_V]; exact .bl _)⟩⟩
theorem od_ne : OpD X c (compareOp .NotEq) S (.d (.int i)) (.d (.int j)) (.d (.bl (!decide (i = j)))) S := ⟨_, op_ne, fun x y H O hs hx hy Q q => by
  cases hx; cases hy
  exact ⟨rfl, q.here hs (by rw [dec_V]; exact .bl _)⟩⟩
theorem od_neB {i j : Bool} : OpD X c (compareOp .NotEq) S (.d (.bl i)) (.d (.bl j)) (.d (.bl (!decide (i = j)))) S := ⟨_, op_ne, fun x y H O hs hx hy Q q => by
  cases hx; cases hy
  exact ⟨rfl, q.here hs (by rw [dec_VB]; exact .bl _)⟩⟩
theorem od_neS {x y : Str} : OpD X c (compareOp .NotEq) S (.d (.str x)) (.d (.str y)) (.d (.bl (!decide (x = y)))) S := ⟨_, op_ne, fun u v H O hs hx hy Q q => by
  cases hx; cases hy
  refine ⟨rfl, q.here hs ?_⟩
  have e : decide (V.str x = V.str y) = decide (x = y) := by
    by_cases h : x = y
    · subst h; simp
    · rw [decide_eq_false h, decide_eq_false fun z => h (V.str.inj z)]
  rw [e]
  exact .bl _⟩
/-- x is None, x an int or None -/
theorem od_isNi : OpD X c (compareOp .Is) S (.d (.int i)) (.d .non) (.d (.bl false)) S := ⟨_, op_isN, fun x y H O hs hx hy Q q => by
  cases hx; cases hy
  exact ⟨rfl, q.here hs (.bl _)⟩⟩

/-! ### deep == -/
mutual
def py : Dat → PyData
  | .non => .none
  | .bl b => .bool b
  | .int i => .int i
  | .str x => .str x
  | .tup ds => .tuple (pyAll ds)
  | .st ns => .tuple (ns.map .int)
  | .lst ds => .list (pyAll ds)
  | .dic kvs => .dict (pyKv kvs)
def pyAll : List Dat → List PyData
  | [] => []
  | d :: ds => py d :: pyAll ds
def pyKv : List (List Int × Dat) → List (PyData × PyData)
  | [] => []
  | (n, d) :: kvs => (.tuple (n.map .int), py d) :: pyKv kvs
end
theorem pyAll_map : ∀ ds : List Dat, pyAll ds = ds.map py
  | [] => rfl
  | d :: ds => by rw [pyAll, pyAll_map ds]; rfl
mutual
def flat : Dat → Bool
  | .dic _ => false
  | .tup ds => flatAll ds
  | .lst ds => flatAll ds
  | _ => true
def flatAll : List Dat → Bool
  | [] => true
  | d :: ds => flat d && flatAll ds
end
theorem dp_ints {H : Hp} : ∀ ns : List Int, DpAll K H (ns.map V.int) (ns.map PyData.int)
  | [] => .nil
  | n :: ns => .cons (.int n) (dp_ints ns)
section
variable {H : Hp}
mutual
theorem At.dp : ∀ {d : Dat} {v : V}, At K H v d → flat d = true → Dp K H v (py d)
  | .non, _, h, _ => by cases h; exact .non
  | .bl _, _, h, _ => by cases h; exact .bl _
  | .int _, _, h, _ => by cases h; exact .int _
  | .str _, _, h, _ => by cases h; exact .str _
  | .tup ds, _, h, f => by
    cases h with
    | tup a b =>
      rw [flat] at f
      rw [py]
      exact .tup a (AtAll.dp b f)
  | .st ns, _, h, _ => by
    cases h with
    | st a =>
      rw [py]
      exact .tup (.inl (.inl a)) (dp_ints ns)
  | .lst ds, _, h, f => by
    cases h with
    | lst a b =>
      rw [flat] at f
      rw [py]
      exact .lst a (AtAll.dp b f)
  | .dic kvs, _, h, f => by rw [flat] at f; cases f
theorem AtAll.dp : ∀ {ds : List Dat} {vs : List V}, AtAll K H vs ds → flatAll ds = true → DpAll K H vs (pyAll ds)
  | [], _, h, _ => by cases h; rw [pyAll]; exact .nil
  | d :: ds, _, h, f => by
    cases h with
    | cons a b =>
      rw [flatAll, Bool.and_eq_true] at f
      rw [pyAll]
      exact .cons (At.dp a f.1) (AtAll.dp b f.2)
end
end
theorem od_neD {x y : Dat} (hu : X.A.units + 64 < cLine) (f1 : flat x = true) (f2 : flat y = true) (s1 : SeqAt.shaped (py x) = true) (s2 : SeqAt.shaped (py y) = true) : OpD X c (compareOp .NotEq) S (.d x) (.d y) (.d (.bl (!PyData.eqv (py x) (py y)))) S := ⟨_, op_neD hu, fun u v H O hs hx hy Q q =>
  ⟨py x, py y, (At.mono vw_le hx).dp f1, (At.mono vw_le hy).dp f2, s1, s2, q.here hs (.bl _)⟩⟩
theorem od_eqD {x y : Dat} (hu : X.A.units + 64 < cLine) (f1 : flat x = true) (f2 : flat y = true) (s1 : SeqAt.shaped (py x) = true) (s2 : SeqAt.shaped (py y) = true) : OpD X c (compareOp .Eq) S (.d x) (.d y) (.d (.bl (PyData.eqv (py x) (py y)))) S := ⟨_, op_eqD hu, fun u v H O hs hx hy Q q =>
  ⟨py x, py y, (At.mono vw_le hx).dp f1, (At.mono vw_le hy).dp f2, s1, s2, q.here hs (.bl _)⟩⟩

/-! ### lists -/
/-- list + list, read lists of any kind -/
def rCatL (K : PySem.W.Frag) : R2 := fun x y H Q => ∃ l b xs zs, x = .ref l ∧ y = .ref b ∧ SqL K H l xs ∧ SqL K H b zs ∧ xs.length + zs.length ≤ sizeLine ∧ ∀ p, H p = none → Q (.ref p) (upd H p (.lst (xs ++ zs)))
theorem op_catL : OpR X (binaryOp .Add) (rCatL X.K) := by
  intro pins s σ H x y v u Q I rx ry h
  obtain ⟨l, b, xs, zs, rfl, rfl, hH, hB, hz, q⟩ := h
  cases rx
  cases ry
  obtain ⟨its, r1, ⟨⟨cls, dd, data, sl⟩, n, ho, hc, hd0, hd⟩, z1⟩ := I.list hH
  obtain ⟨its2, r2, ⟨⟨cls2, dd2, data2, sl2⟩, n2, ho2, hc2, hd02, hd2⟩, z2⟩ := I.list hB
  simp only at hc hd hc2 hd2
  subst hc hd hc2 hd2
  have e : its.toArray ++ its2.toArray = (its ++ its2).toArray := by simp
  refine concat_meets ⟨_, ho, rfl⟩ ⟨_, ho2, rfl⟩ noFill_list_add seq_list_add PySem.F.slot_list_add PySem.F.entry_list_add (PySem.F.args_list_add_2 _ _) (list_addW l b its.toArray its2.toArray n n2 dd dd2 sl sl2 (by rw [List.size_toArray, List.size_toArray, ← r1.length, ← r2.length]; exact hz)) ⟨ho, ho2, ?_⟩
  rw [e]
  exact ⟨.ref _, _, I.lnew (t' := s.toks) (r1.append r2) (by rw [List.length_append]; omega), rfl, q _ I.fresh⟩
theorem od_catL {ds es : List Dat} (hz : ds.length + es.length ≤ 100000) : OpD X c (binaryOp .Add) S (.d (.lst ds)) (.d (.lst es)) (.d (.lst (ds ++ es))) S := ⟨_, op_catL, fun x y H O hs hx hy Q q => by
  cases hx with
  | lst a1 a2 =>
    cases hy with
    | lst b1 b2 =>
      refine ⟨_, _, _, _, rfl, rfl, vw_le.l a1, vw_le.l b1, by rw [a2.length, b2.length]; exact Evl.sz_of hz, fun p hp => ?_⟩
      exact q.ex hs (Ex.new hp) (.lst (.inl (.inl (vw_fresh hs hp))) ((a2.append b2).mono (RX.vw_ex (Ex.new hp))))⟩
/-- .. the sum a list of one's own -/
theorem od_catO {ds es : List Dat} (hz : ds.length + es.length ≤ 100000) : OpD X c (binaryOp .Add) S (.d (.lst ds)) (.d (.lst es)) (.o S.length) (S ++ [.l (ds ++ es)]) := ⟨_, op_catL, fun x y H O hs hx hy Q q => by
  cases hx with
  | lst a1 a2 =>
    cases hy with
    | lst b1 b2 =>
      refine ⟨_, _, _, _, rfl, rfl, vw_le.l a1, vw_le.l b1, by rw [a2.length, b2.length]; exact Evl.sz_of hz, fun p hp => ?_⟩
      exact q.own hs hp rfl ⟨_, upd_same, a2.append b2⟩⟩
/-- states joined -/
theorem od_catS {ns ms : List Int} (hz : ns.length + ms.length ≤ 100000) : OpD X c (binaryOp .Add) S (.d (.st ns)) (.d (.st ms)) (.d (.st (ns ++ ms))) S := ⟨_, op_catA, fun x y H O hs hx hy Q q => by
  cases hx with
  | st a1 =>
    cases hy with
    | st b1 =>
      refine ⟨_, _, _, _, rfl, rfl, .inl (.inl (vw_le.tp _ _ a1)), .inl (.inl (vw_le.tp _ _ b1)), by rw [List.length_map, List.length_map]; exact Evl.sz_of hz, fun e1 => ?_, fun e1 e2 => ?_, fun e1 e2 p hp => ?_⟩
      · have e1' : ns = [] := by simpa using e1
        subst e1'
        exact q.here hs (.st b1)
      · have e2' : ms = [] := by simpa using e2
        subst e2'
        rw [List.append_nil] at q
        exact q.here hs (.st a1)
      · have e := Ex.new (o := .tup (ns.map V.int ++ ms.map V.int)) hp
        refine q.ex hs e (.st ?_)
        rw [vw_fresh hs hp, List.map_append]⟩
theorem atI_map {α : Type} {f : α → Dat} {xs : List α} {i : Int} {x : α} (h : atI xs i = some x) : atI (xs.map f) i = some (f x) := by
  unfold atI at h ⊢
  rw [List.length_map]
  cases e : ixN xs.length i with
  | none => rw [e] at h; cases h
  | some j =>
    rw [e] at h
    have h' : xs[j]? = some x := h
    show (xs.map f)[j]? = some (f x)
    rw [List.getElem?_map, h']
    rfl
theorem AtAll.atI {H : Hp} {vs : List V} {ds : List Dat} {i : Int} {d : Dat} (h : AtAll K H vs ds) (e : atI ds i = some d) : ∃ v, L2.atI vs i = some v ∧ At K H v d := by
  unfold L2.atI at e ⊢
  rw [h.length]
  cases q : ixN ds.length i with
  | none => rw [q] at e; cases e
  | some j =>
    rw [q] at e
    exact h.get e
theorem atI_at {α : Type} {xs : List α} {x : α} (n : Nat) (h : xs[n]? = some x) : atI xs (n : Int) = some x := atI_nat h
/-- an item, by value -/
def IxD (X : Cx) (c : Cz) (S : List Ct) (ra rb rz : Sl) (S' : List Ct) : Prop := ∃ g, IxR X g ∧ Do2 X.K c g S ra rb rz S'
theorem de_ix (ha : DE X c ρ S a ra S1) (hb : DE X c ρ S1 b rb S2) (ho : IxD X c S2 ra rb rz S3) (hp : PlainIx b := by intro _ _; rfl) : DE X c ρ S (.Subscript a b pos) rz S3 := by
  obtain ⟨g, h1, h2⟩ := ho
  exact de_of (pe_ix h1 pe_tW pe_tW hp) (dn_two ha hb h2)
theorem ix_l {ds : List Dat} {d : Dat} (h : atI ds i = some d) : IxD X c S (.d (.lst ds)) (.d (.int i)) (.d d) S := ⟨_, ix_list, fun x y H O hs hx hy Q q => by
  cases hx with
  | lst a1 a2 =>
    cases hy
    obtain ⟨v, h1, h2⟩ := a2.atI h
    exact ⟨_, _, i, v, rfl, rfl, vw_le.l a1, h1, q.here hs h2⟩⟩
theorem ix_t {ds : List Dat} {d : Dat} (h : atI ds i = some d) : IxD X c S (.d (.tup ds)) (.d (.int i)) (.d d) S := ⟨_, ix_tup, fun x y H O hs hx hy Q q => by
  cases hx with
  | tup a1 a2 =>
    cases hy
    obtain ⟨v, h1, h2⟩ := a2.atI h
    exact ⟨_, _, i, v, rfl, rfl, vw_le.t a1, h1, q.here hs h2⟩⟩
theorem ix_s {ns : List Int} {n : Int} (h : atI ns i = some n) : IxD X c S (.d (.st ns)) (.d (.int i)) (.d (.int n)) S := ⟨_, ix_tup, fun x y H O hs hx hy Q q => by
  have h0 : AtAll X.K H (ns.map V.int) (ns.map .int) := by
    clear h hx hy q hs
    induction ns with
    | nil => exact .nil
    | cons n ns ih => exact .cons (.int n) ih
  cases hx with
  | st a1 =>
    cases hy
    obtain ⟨v, h1, h2⟩ := h0.atI (atI_map h)
    cases h2
    exact ⟨_, _, i, _, rfl, rfl, .inl (.inl (vw_le.tp _ _ a1)), h1, q.here hs (.int n)⟩⟩
theorem ix_o {k : Nat} {ds : List Dat} {d : Dat} (hk : S[k]? = some (.l ds)) (h : atI ds i = some d) : IxD X c S (.o k) (.d (.int i)) (.d d) S := ⟨_, ix_list, fun x y H O hs hx hy Q q => by
  obtain ⟨p, e1, e2⟩ := hx
  subst e2
  cases hy
  obtain ⟨vs, e3, a2⟩ := hs.cell k p _ e1 hk
  obtain ⟨v, h1, h2⟩ := a2.atI h
  exact ⟨p, vs, i, v, rfl, rfl, .inl (.inl e3), h1, q.here hs h2⟩⟩

/-! ### slices of states -/
def DO (X : Cx) (c : Cz) (ρ : List Sl) (S : List Ct) (e : Option Expr) (o : Option Int) : Prop := ∃ t : TO, PO X e t ∧ ∀ σ H O, Hs X.K c O S H → SlOk X.K O (vw c O S H) ρ σ → ∀ Q : Option Int → Hp → Prop, (∀ H' O', Hs X.K c (O ++ O') S H' → RX (vw c O S H) (vw c (O ++ O') S H') → Q o H') → t σ H Q
theorem do_none : DO X c ρ S none none := ⟨_, po_none, fun σ H O hs sl Q q => q H [] (by rw [List.append_nil]; exact hs) (by rw [List.append_nil]; exact RX.refl _)⟩
theorem do_some (h : DE X c ρ S e (.d (.int i)) S) : DO X c ρ S (some e) (some i) := ⟨_, po_some pe_tW, fun σ H O hs sl Q q => h σ H O hs sl _ fun v H' O' a1 a2 a3 => by
  cases a3
  exact ⟨i, rfl, q H' O' a1 a2⟩⟩
def cutN (ns : List Int) (lo hi : Option Int) : List Int := (ns.drop (HT.sIx ns.length 0 lo)).take (HT.sIx ns.length ns.length hi - HT.sIx ns.length 0 lo)
theorem cutV_int (ns : List Int) (lo hi : Option Int) : cutV (ns.map V.int) lo hi = (cutN ns lo hi).map V.int := by
  unfold cutV cutN
  rw [List.length_map, List.map_take, List.map_drop]
theorem cutN_to {ns : List Int} {k : Nat} (h : k ≤ ns.length) : cutN ns none (some (k : Int)) = ns.take k := by
  unfold cutN
  rw [HT.sIx_none, HT.sIx_nat, Nat.min_eq_left h]
  simp
theorem cutN_from {ns : List Int} {k : Nat} (h : k ≤ ns.length) : cutN ns (some (k : Int)) none = ns.drop k := by
  unfold cutN
  rw [HT.sIx_none, HT.sIx_nat, Nat.min_eq_left h]
  exact List.take_of_length_le (by rw [List.length_drop]; exact Nat.le_refl _)
theorem de_slice {ns : List Int} {lo hi : Option Expr} {o1 o2 : Option Int} {p2 : Pos} (h : DE X c ρ S e (.d (.st ns)) S1) (h1 : DO X c ρ S1 lo o1) (h2 : DO X c ρ S1 hi o2) : DE X c ρ S (.Subscript e (.Slice lo hi none p2) pos) (.d (.st (cutN ns o1 o2))) S1 := by
  obtain ⟨tl, pl, dl⟩ := h1
  obtain ⟨th, ph, dh⟩ := h2
  refine de_of (pe_slice sl_tupA pe_tW pl ph) fun σ H O hs sl Q q => ?_
  refine h σ H O hs sl _ fun x H1 O1 a1 a2 a3 => ?_
  refine dl σ H1 _ a1 (sl.mono a2) _ fun H2 O2 b1 b2 => ?_
  refine dh σ H2 _ b1 ((sl.mono a2).mono b2) _ fun H3 O3 c1 c2 => ?_
  have a4 := (VOk.mono (O' := O3) c2 (VOk.mono (O' := O2) b2 a3))
  have q3 := ((q.step a2).step b2).step c2
  have a5 : At X.K _ x (.st ns) := a4
  cases a5 with
  | st e1 =>
    have e2 := vw_le.tp _ _ e1
    refine ⟨_, _, rfl, .inl (.inl e2), fun hw => ?_, fun hw p hp => ?_⟩
    · have e3 : cutN ns o1 o2 = ns := by
        rw [List.length_map] at hw
        unfold cutN
        rw [hw.1, hw.2]
        simp
      rw [e3] at q3
      exact q3.here c1 (.st e1)
    · rw [cutV_int]
      have ex := Ex.new (o := .tup ((cutN ns o1 o2).map V.int)) hp
      exact q3.ex c1 ex (.st (vw_fresh c1 hp))
end
end Tw
end
section
set_option Elab.async false
set_option linter.all false
set_option maxRecDepth 100000
set_option maxHeartbeats 1000000
/-! TwStmt: statements, loops, comprehensions, by data. -/
namespace Tw
open PySem PySem.Spec PyProof.Rows L2
open Evl (Ex)

structure De where
  nx : List Sl → List Ct → Prop
  rt : Sl → List Ct → Prop
  bk : List Sl → List Ct → Prop := fun _ _ => False
  ct : List Sl → List Ct → Prop := fun _ _ => False
def PostN (K : PySem.W.Frag) (c : Cz) (O : List Addr) (S : List Ct) (H : Hp) (N : List Sl → List Ct → Prop) (Q : L2.St → Hp → Prop) : Prop :=
  ∀ ρ' S' σ' H' O', N ρ' S' → Hs K c (O ++ O') S' H' → SlOk K (O ++ O') (vw c (O ++ O') S' H') ρ' σ' → RX (vw c O S H) (vw c (O ++ O') S' H') → Q σ' H'
def PostR (K : PySem.W.Frag) (c : Cz) (O : List Addr) (S : List Ct) (H : Hp) (N : Sl → List Ct → Prop) (Q : VK) : Prop :=
  ∀ r S' v H' O', N r S' → Hs K c (O ++ O') S' H' → RX (vw c O S H) (vw c (O ++ O') S' H') → VOk K (O ++ O') (vw c (O ++ O') S' H') r v → Q v H'
structure PostS (K : PySem.W.Frag) (c : Cz) (O : List Addr) (S : List Ct) (H : Hp) (D : De) (E : Ends) : Prop where
  nx : PostN K c O S H D.nx E.nx
  rt : PostR K c O S H D.rt E.rt
  bk : PostN K c O S H D.bk E.bk
  ct : PostN K c O S H D.ct E.ct
section
variable {K : PySem.W.Frag} {c : Cz} {O O1 : List Addr} {S S1 : List Ct} {H H1 : Hp} {N : List Sl → List Ct → Prop} {Q : L2.St → Hp → Prop} {D : De} {E : Ends} {ρ : List Sl} {σ : L2.St}
theorem PostN.step (q : PostN K c O S H N Q) (e : RX (vw c O S H) (vw c (O ++ O1) S1 H1)) : PostN K c (O ++ O1) S1 H1 N Q := fun ρ' S' σ' H' O' h1 h2 h3 h4 => by
  rw [List.append_assoc] at h2 h3 h4
  exact q ρ' S' σ' H' (O1 ++ O') h1 h2 h3 (e.trans h4)
theorem PostR.step {N : Sl → List Ct → Prop} {Q : VK} (q : PostR K c O S H N Q) (e : RX (vw c O S H) (vw c (O ++ O1) S1 H1)) : PostR K c (O ++ O1) S1 H1 N Q := fun r S' v H' O' h1 h2 h3 h4 => by
  rw [List.append_assoc] at h2 h3 h4
  exact q r S' v H' (O1 ++ O') h1 h2 (e.trans h3) h4
theorem PostS.step (q : PostS K c O S H D E) (e : RX (vw c O S H) (vw c (O ++ O1) S1 H1)) : PostS K c (O ++ O1) S1 H1 D E := ⟨q.nx.step e, q.rt.step e, q.bk.step e, q.ct.step e⟩
theorem PostN.here (q : PostN K c O S H N Q) (n : N ρ S) (h : Hs K c O S H) (sl : SlOk K O (vw c O S H) ρ σ) : Q σ H := q ρ S σ H [] n (by rw [List.append_nil]; exact h) (by rw [List.append_nil]; exact sl) (by rw [List.append_nil]; exact RX.refl _)
theorem PostN.go (q : PostN K c O S H N Q) (n : N ρ S1) (h : Hs K c O S1 H1) (sl : SlOk K O (vw c O S1 H1) ρ σ) (e : RX (vw c O S H) (vw c O S1 H1)) : Q σ H1 := q ρ S1 σ H1 [] n (by rw [List.append_nil]; exact h) (by rw [List.append_nil]; exact sl) (by rw [List.append_nil]; exact e)
end
def Ds (K : PySem.W.Frag) (c : Cz) (t : TS) (ρ : List Sl) (S : List Ct) (D : De) : Prop :=
  ∀ σ H O, Hs K c O S H → SlOk K O (vw c O S H) ρ σ → ∀ E, PostS K c O S H D E → t E σ H
def tWS (X : Cx) (st : Stmt) : TS := fun E σ H => ∀ pins s, Inv X pins σ H s → wpAny (model X.prog X.w) X.A (exec st X.env) (SP X pins E) X.xe s
theorem ps_tW {X : Cx} {st : Stmt} : PS X st (tWS X st) := ⟨fun pins s σ H E I h => h pins s I⟩
def tWSs (X : Cx) (st : List Stmt) : TS := fun E σ H => ∀ pins s, Inv X pins σ H s → wpAny (model X.prog X.w) X.A (execs st X.env) (SP X pins E) X.xe s
theorem pss_tW {X : Cx} {st : List Stmt} : PSs X st (tWSs X st) := ⟨fun pins s σ H E I h => h pins s I⟩
def DS (X : Cx) (c : Cz) (ρ : List Sl) (S : List Ct) (st : Stmt) (D : De) : Prop := Ds X.K c (tWS X st) ρ S D
def DSs (X : Cx) (c : Cz) (ρ : List Sl) (S : List Ct) (sts : List Stmt) (D : De) : Prop := Ds X.K c (tWSs X sts) ρ S D

section
variable {X : Cx} {c : Cz} {ρ : List Sl} {S S1 S2 : List Ct} {e a b tg : Expr} {es : List Expr} {r ra rb : Sl} {rs : List Sl} {pos : Pos} {t : TS} {st : Stmt} {sts rest : List Stmt} {D : De} {k : Bool}
theorem ds_of (h : PS X st t) (d : Ds X.K c t ρ S D) : DS X c ρ S st D := fun σ H O hs sl E q pins s I => h.run pins s σ H E I (d σ H O hs sl E q)
theorem dss_of (h : PSs X sts t) (d : Ds X.K c t ρ S D) : DSs X c ρ S sts D := fun σ H O hs sl E q pins s I => h.run pins s σ H E I (d σ H O hs sl E q)
theorem dss_nil (h : D.nx ρ S) : DSs X c ρ S [] D := dss_of pss_nil fun σ H O hs sl E q => q.nx.here h hs sl
/-- the first statement, what holds between, the rest -/
theorem dss_cut (Mid : List Sl → List Ct → Prop) (h1 : DS X c ρ S st { D with nx := Mid }) (h2 : ∀ ρ' S', Mid ρ' S' → DSs X c ρ' S' rest D) : DSs X c ρ S (st :: rest) D := dss_of (pss_cons ps_tW pss_tW) fun σ H O hs sl E q => by
  refine h1 σ H O hs sl { E with nx := tWSs X rest E } ⟨fun ρ' S' σ' H' O' n1 a1 a2 a3 => ?_, q.rt, q.bk, q.ct⟩
  exact h2 ρ' S' n1 σ' H' _ a1 a2 E (q.step a3)
theorem dss_cons (h1 : DS X c ρ S st { D with nx := fun ρ' S' => DSs X c ρ' S' rest D }) : DSs X c ρ S (st :: rest) D := dss_cut _ h1 fun _ _ h => h
theorem ds_ret (h : DE X c ρ S e r S1) (hr : D.rt r S1) : DS X c ρ S (.Return (some e) pos) D := ds_of (ps_ret pe_tW) fun σ H O hs sl E q => h σ H O hs sl _ fun v H' O' a1 a2 a3 => q.rt r S1 v H' O' hr a1 a2 a3
theorem ds_if {p q : List Stmt} (h : DT X c ρ S e k S1) (h1 : k = true → DSs X c ρ S1 p D) (h2 : k = false → DSs X c ρ S1 q D) : DS X c ρ S (.If e p q pos) D := ds_of (ps_if pt_tW pss_tW pss_tW) fun σ H O hs sl E qq => by
  refine h σ H O hs sl _ fun H' O' a1 a2 => ?_
  cases k with
  | true => rw [if_pos rfl]; exact h1 rfl σ H' _ a1 (sl.mono a2) E (qq.step a2)
  | false => rw [if_neg Bool.false_ne_true]; exact h2 rfl σ H' _ a1 (sl.mono a2) E (qq.step a2)
theorem ds_expr (h : DE X c ρ S e r S1) (hn : D.nx ρ S1) (hs0 : swapsWith e none pos.line X.env = pure false := by rfl) : DS X c ρ S (.Expr e pos) D := ds_of (ps_expr pe_tW hs0) fun σ H O hs sl E q => h σ H O hs sl _ fun v H' O' a1 a2 a3 => q.nx ρ S1 σ H' O' hn a1 (sl.mono a2) a2
theorem ds_set (i : Nat) {x : Str} {p' : Pos} (h : DE X c ρ S e r S1) (hn : D.nx (ρ.set i r) S1) (hN : X.N.Nodup) (hi : X.N[i]? = some x := by rfl) (hx : Loc X.env.scope x := by first | exact Or.inl rfl | exact Or.inr rfl) (hs0 : swapsWith e (some (.Name x p')) pos.line X.env = pure false := by rfl)
    (hf : X.fn x = true ∨ X.env.scope.names.lookup x = some .local := by first | exact .inl rfl | exact .inr rfl | assumption) : DS X c ρ S (.Assign [.Name x p'] e pos) D := ds_of (ps_set hN hi hx pe_tW hs0 hf) fun σ H O hs sl E q => h σ H O hs sl _ fun v H' O' a1 a2 a3 =>
  q.nx (ρ.set i r) S1 (σ.set i (some v)) H' O' hn a1 ((sl.mono a2).set i a3) a2
theorem ds_par (i j : Nat) {x y : Str} {px py pt pt2 : Pos} {kt k2 : Nat} (hij : i ≠ j) (h : DA X c ρ S [a, b] [ra, rb] S1) (hn : D.nx ((ρ.set i ra).set j rb) S1) (hN : X.N.Nodup) (hc : X.calm = true := by rfl) (hi : X.N[i]? = some x := by rfl) (hj : X.N[j]? = some y := by rfl)
    (hx : X.env.scope.names.lookup x = some .local := by rfl) (hy : X.env.scope.names.lookup y = some .local := by rfl) (hw : swappedStores [.Tuple [.Name x px, .Name y py] kt pt] (.Tuple [a, b] k2 pt2) X.env = pure (some [x, y]) := by rfl)
    (hs0 : swapsWithSole [.Tuple [.Name x px, .Name y py] kt pt] (.Tuple [a, b] k2 pt2) pos.line X.env = pure false := by rfl) : DS X c ρ S (.Assign [.Tuple [.Name x px, .Name y py] kt pt] (.Tuple [a, b] k2 pt2) pos) D :=
  ds_of (ps_par hc hN hi hj hij hx hy pa_tW hw hs0) fun σ H O hs sl E q => h σ H O hs sl _ fun vs H' O' a1 a2 a3 => by
    obtain ⟨v, ws, e1, v1, w, us, e2, v2, e3⟩ := a3
    have e3' : us = [] := e3
    subst e3'
    subst e2
    subst e1
    exact ⟨v, w, rfl, q.nx _ S1 _ H' O' hn a1 (((sl.mono a2).set i v1).set j v2) a2⟩

/-! ### targets -/
theorem AtAll.two {K : PySem.W.Frag} {H : Hp} {vs : List V} {x y : Dat} (h : AtAll K H vs [x, y]) : ∃ v w, vs = [v, w] ∧ At K H v x ∧ At K H w y := by
  cases h with
  | cons a b =>
    cases b with
    | cons c d =>
      cases d
      exact ⟨_, _, rfl, a, c⟩
inductive Tg where
  | one (i : Nat) | two (i j : Nat)
def Tg.g (K : PySem.W.Frag) : Tg → TG
  | .one i => gName i
  | .two i j => gTup K 2 (gCons (gName i) (gCons (gName j) gNil))
/-- the slots behind the store of some data -/
inductive Tg.St : Tg → Dat → List Sl → List Sl → Prop
  | one {i : Nat} {d : Dat} {ρ : List Sl} : Tg.St (.one i) d ρ (ρ.set i (.d d))
  | two {i j : Nat} {x y : Dat} {ρ : List Sl} : Tg.St (.two i j) (.tup [x, y]) ρ ((ρ.set i (.d x)).set j (.d y))
def Tg.own : Tg → List Nat
  | .one i => [i]
  | .two i j => [i, j]
theorem Tg.St.go {K : PySem.W.Frag} {c : Cz} {O : List Addr} {S : List Ct} {H : Hp} {T : Tg} {d : Dat} {ρ ρ2 : List Sl} {σ : L2.St} {v : V} {Q : L2.St → Hp → Prop} (h : T.St d ρ ρ2) (hv : At K (vw c O S H) v d) (sl : SlOk K O (vw c O S H) ρ σ)
    (q : ∀ σ2, SlOk K O (vw c O S H) ρ2 σ2 → (∃ f : L2.St → L2.St, σ2 = f σ ∧ ∀ vs : List Nat, (∀ i ∈ T.own, i ∈ vs) → ∀ σ', wipe (f σ') vs = wipe σ' vs) → Q σ2 H) : T.g K v σ H Q := by
  have ws : ∀ (i : Nat) (x : Option V) (vs : List Nat) (σ' : L2.St), i ∈ vs → wipe (σ'.set i x) vs = wipe σ' vs := fun i x vs => by
    induction vs with
    | nil => intro σ' h; cases h
    | cons j vs ih =>
      intro σ' hi
      show (wipe (σ'.set i x) vs).set j none = (wipe σ' vs).set j none
      by_cases e : i ∈ vs
      · rw [ih σ' e]
      · have e2 : i = j := by
          rcases List.mem_cons.mp hi with z | z
          · exact z
          · exact absurd z e
        subst e2
        have e3 : ∀ vs : List Nat, i ∉ vs → wipe (σ'.set i x) vs = (wipe σ' vs).set i x := by
          intro vs
          induction vs with
          | nil => intro _; rfl
          | cons j vs ih2 =>
            intro hn
            show (wipe (σ'.set i x) vs).set j none = ((wipe σ' vs).set j none).set i x
            rw [ih2 fun z => hn (List.mem_cons_of_mem _ z), List.set_comm]
            intro z
            exact hn (by rw [z]; exact List.mem_cons_self)
        rw [e3 vs e, List.set_set]
  cases h with
  | one => 
    rename_i i
    exact q _ (sl.set i (r := .d d) hv) ⟨fun σ => σ.set i (some v), rfl, fun vs hm σ' => ws i _ vs σ' (hm i (by simp [Tg.own]))⟩
  | two =>
    rename_i i j x y
    cases hv with
    | tup a1 a2 =>
      obtain ⟨v1, v2, e1, b1, b2⟩ := a2.two
      subst e1
      refine ⟨_, _, rfl, vw_le.t a1, rfl, v1, [v2], rfl, v2, [], rfl, rfl, ?_⟩
      exact q _ ((sl.set i (r := .d x) b1).set j (r := .d y) b2) ⟨fun σ => (σ.set i (some v1)).set j (some v2), rfl, fun vs hm σ' => by
        rw [ws j _ vs _ (hm j (by simp [Tg.own])), ws i _ vs _ (hm i (by simp [Tg.own]))]⟩
theorem ds_unpack {T : Tg} {d : Dat} {ρ2 : List Sl} (hg : PG X tg (T.g X.K)) (h : DE X c ρ S e (.d d) S1) (ht : T.St d ρ ρ2) (hn : D.nx ρ2 S1) (hs0 : swapsWithSole [tg] e pos.line X.env = pure false := by rfl) (hw : swappedStores [tg] e X.env = pure none := by rfl)
    (h1 : (assignEach [tg] X.env).map (·.2) = [assign tg X.env] := by rfl) : DS X c ρ S (.Assign [tg] e pos) D := ds_of (ps_asg pe_tW hg hs0 hw h1) fun σ H O hs sl E q => h σ H O hs sl _ fun v H' O' a1 a2 a3 => by
  have a3' : At X.K _ v d := a3
  exact ht.go a3' (sl.mono a2) fun σ2 s2 _ => q.nx ρ2 S1 σ2 H' O' hn a1 s2 a2

/-! ### what is walked -/
/-- the iterator J yields these data, whatever happens -/
def Walk (K : PySem.W.Frag) (c : Cz) (J : It) (ys : List Dat) (O : List Addr) (S : List Ct) (H : Hp) : Prop :=
  ∀ c' O' S' H', (∀ H, c'.φ H → c.φ H) → Hs K c' O' S' H' → RX (vw c O S H) (vw c' O' S' H') → (∀ i, i < ys.length → J.go i H') ∧ J.stop ys.length H' ∧ ∀ i x H'' d, ys[i]? = some d → J.yld i H' x H'' → Ex H' H'' ∧ At K (vw c' O' S' H'') x d
theorem Walk.mono {K : PySem.W.Frag} {c : Cz} {J : It} {ys : List Dat} {O O1 : List Addr} {S S1 : List Ct} {H H1 : Hp} (w : Walk K c J ys O S H) (e : RX (vw c O S H) (vw c O1 S1 H1)) : Walk K c J ys O1 S1 H1 := fun c' O' S' H' h0 h1 h2 => w c' O' S' H' h0 h1 (e.trans h2)
def DI (X : Cx) (c : Cz) (ρ : List Sl) (S : List Ct) (tg iter : Expr) (ys : List Dat) (S1 : List Ct) : Prop :=
  ∃ wi, PI X tg iter wi ∧ ∀ σ H O, Hs X.K c O S H → SlOk X.K O (vw c O S H) ρ σ → ∀ R : It → Hp → Prop, (∀ J H1 O1, Hs X.K c (O ++ O1) S1 H1 → RX (vw c O S H) (vw c (O ++ O1) S1 H1) → Walk X.K c J ys (O ++ O1) S1 H1 → R J H1) → wi σ H R
theorem di_list {ds : List Dat} (h : DE X c ρ S e (.d (.lst ds)) S1) : DI X c ρ S tg e ds S1 := ⟨_, pi_list pe_tW, fun σ H O hs sl R q => h σ H O hs sl _ fun v H' O' a1 a2 a3 => by
  have a3' : At X.K _ v (.lst ds) := a3
  cases a3' with
  | lst b1 b2 =>
    refine ⟨_, rfl, ⟨_, vw_le.l b1⟩, q _ H' O' a1 a2 fun c' O2 S2 H2 _ c1 c2 => ⟨fun i hi => ?_, ⟨_, vw_le.l (c2.l b1), by rw [b2.length]; exact Nat.le_refl _⟩, fun i x H3 d hd hy => ?_⟩⟩
    · obtain ⟨w, e1, e2⟩ := (b2.mono c2).get (List.getElem?_eq_getElem hi)
      exact ⟨_, w, vw_le.l (c2.l b1), e1⟩
    · obtain ⟨e1, e2⟩ := hy
      subst e1
      obtain ⟨w, e3, e4⟩ := (b2.mono c2).get hd
      rw [e2 _ (vw_le.l (c2.l b1))] at e3
      cases e3
      exact ⟨Ex.refl _, e4⟩⟩
theorem di_tup {ds : List Dat} (h : DE X c ρ S e (.d (.tup ds)) S1) : DI X c ρ S tg e ds S1 := ⟨_, pi_tup pe_tW, fun σ H O hs sl R q => h σ H O hs sl _ fun v H' O' a1 a2 a3 => by
  have a3' : At X.K _ v (.tup ds) := a3
  cases a3' with
  | tup b1 b2 =>
    refine ⟨_, rfl, ⟨_, vw_le.t b1⟩, q _ H' O' a1 a2 fun c' O2 S2 H2 _ c1 c2 => ⟨fun i hi => ?_, ⟨_, vw_le.t (c2.t b1), by rw [b2.length]; exact Nat.le_refl _⟩, fun i x H3 d hd hy => ?_⟩⟩
    · obtain ⟨w, e1, e2⟩ := (b2.mono c2).get (List.getElem?_eq_getElem hi)
      exact ⟨_, w, vw_le.t (c2.t b1), e1⟩
    · obtain ⟨e1, e2⟩ := hy
      subst e1
      obtain ⟨w, e3, e4⟩ := (b2.mono c2).get hd
      rw [e2 _ (vw_le.t (c2.t b1))] at e3
      cases e3
      exact ⟨Ex.refl _, e4⟩⟩
def nums (lo : Int) (n : Nat) : List Dat := (List.range n).map fun k => .int (lo + (k : Nat))
theorem nums_len (lo : Int) (n : Nat) : (nums lo n).length = n := by unfold nums; rw [List.length_map, List.length_range]
theorem nums_get {lo : Int} {n k : Nat} (h : k < n) : (nums lo n)[k]? = some (.int (lo + (k : Nat))) := by
  unfold nums
  rw [List.getElem?_map, List.getElem?_range h]
  rfl
theorem of_nums {lo : Int} {n k : Nat} {d : Dat} (h : (nums lo n)[k]? = some d) : k < n ∧ d = .int (lo + (k : Nat)) := by
  have h1 : k < n := by
    have := (List.getElem?_eq_some_iff.mp h).1
    rw [nums_len] at this
    exact this
  rw [nums_get h1] at h
  exact ⟨h1, (Option.some.inj h).symm⟩
theorem walk_rng {K : PySem.W.Frag} {O : List Addr} {H : Hp} {lo : Int} {n : Nat} : Walk K c (Itr lo n) (nums lo n) O S H := fun c' O' S' H' _ h1 h2 => by
  rw [nums_len]
  refine ⟨fun i hi => hi, Nat.le_refl _, fun i x H'' d hd hy => ?_⟩
  obtain ⟨e1, e2⟩ := of_nums hd
  obtain ⟨e3, e4⟩ := hy
  subst e3 e4 e2
  exact ⟨Ex.refl _, .int _⟩
theorem di_range1 {n : Int} {p : Pos} (hm : X.mg "range" = none) (h : DE X c ρ S a (.d (.int n)) S1) (hn : n ≤ 100000) (h0 : 0 ≤ n) (hg : Gl X "range" := by rfl) (hs0 : starEach [a] X.env = [(false, eval a X.env)] := by rfl) : DI X c ρ S tg (.Call (.Name "range" p) [a] [] pos) (nums 0 n.toNat) S1 :=
  ⟨_, pi_range1 hg hm (pa_cons pe_tW pa_nil hs0) hs0, fun σ H O hs sl R q => h σ H O hs sl _ fun v H' O' a1 a2 a3 => by
    cases a3
    exact ⟨n, rfl, by omega, by omega, q _ H' O' a1 a2 walk_rng⟩⟩
theorem di_range2 {m n : Int} {p : Pos} (hm : X.mg "range" = none) (ha : DE X c ρ S a (.d (.int m)) S1) (hb : DE X c ρ S1 b (.d (.int n)) S2) (h0 : 0 ≤ m ∧ m ≤ 100000 ∧ 0 ≤ n ∧ n ≤ 100000) (hg : Gl X "range" := by rfl)
    (hs0 : starEach [a, b] X.env = [(false, eval a X.env), (false, eval b X.env)] := by rfl) (hs2 : starEach [b] X.env = [(false, eval b X.env)] := by rfl) : DI X c ρ S tg (.Call (.Name "range" p) [a, b] [] pos) (nums m (n - m).toNat) S2 :=
  ⟨_, pi_range2 hg hm (pa_cons pe_tW (pa_cons pe_tW pa_nil hs2) (hs0.trans (by rw [hs2]))) hs0 hs2, fun σ H O hs sl R q => ha σ H O hs sl _ fun v H' O' a1 a2 a3 => by
    cases a3
    refine hb σ H' _ a1 (sl.mono a2) _ fun w H2 O2 b1 b2 b3 => ?_
    cases b3
    rw [List.append_assoc] at b1 b2
    exact ⟨m, n, rfl, ⟨by omega, by omega, by omega, by omega⟩, q _ H2 _ b1 (a2.trans b2) walk_rng⟩⟩
def pairs : List Dat → List Dat → List Dat
  | x :: xs, y :: ys => .tup [x, y] :: pairs xs ys
  | _, _ => []
theorem pairs_len : ∀ (xs ys : List Dat), (pairs xs ys).length = min xs.length ys.length
  | x :: xs, y :: ys => by rw [pairs, List.length_cons, pairs_len xs ys, List.length_cons, List.length_cons]; omega
  | [], _ => by simp [pairs]
  | _ :: _, [] => by simp [pairs]
theorem of_pairs : ∀ {xs ys : List Dat} {k : Nat} {d : Dat}, (pairs xs ys)[k]? = some d → ∃ x y, xs[k]? = some x ∧ ys[k]? = some y ∧ d = .tup [x, y]
  | x :: xs, y :: ys, 0, d, h => ⟨x, y, rfl, rfl, (Option.some.inj h).symm⟩
  | x :: xs, y :: ys, k + 1, d, h => of_pairs (xs := xs) (ys := ys) (k := k) h
  | [], _, _, d, h => by simp [pairs] at h
  | _ :: _, [], _, d, h => by simp [pairs] at h
theorem pairs_get : ∀ {xs ys : List Dat} {k : Nat} {x y : Dat}, xs[k]? = some x → ys[k]? = some y → (pairs xs ys)[k]? = some (.tup [x, y])
  | x :: xs, y :: ys, 0, _, _, h, h2 => by
    simp at h h2
    subst h h2
    rfl
  | x :: xs, y :: ys, k + 1, _, _, h, h2 => pairs_get (xs := xs) (ys := ys) (k := k) h h2
  | [], _, _, _, _, h, _ => by simp at h
  | _ :: _, [], _, _, _, _, h => by simp at h
theorem ex_tup {K : PySem.W.Frag} {O : List Addr} {S : List Ct} {H : Hp} {T : Addr} {xs : List V} {ds : List Dat} (hs : Hs K c O S H) (hT : H T = none) (h : AtAll K (vw c O S H) xs ds) : At K (vw c O S (upd H T (.tup xs))) (.ref T) (.tup ds) :=
  .tup (.inl (.inl (vw_fresh hs hT))) (h.mono (RX.vw_ex (Ex.new hT)))
theorem di_zip {xs ys : List Dat} {elts : List Expr} {kk : Nat} {tpos p : Pos} (hm : X.mg "zip" = none) (ha : DE X c ρ S a (.d (.lst xs)) S1) (hb : DE X c ρ S1 b (.d (.lst ys)) S2) (hg : Gl X "zip" := by rfl)
    (hs0 : starEach [a, b] X.env = (false, eval a X.env) :: starEach [b] X.env := by rfl) (hs2 : starEach [b] X.env = (false, eval b X.env) :: starEach [] X.env := by rfl) (hpl : (backTo pos (starEach [b] X.env)).any (·.1) = false := by rfl) : DI X c ρ S (.Tuple elts kk tpos) (.Call (.Name "zip" p) [a, b] [] pos) (pairs xs ys) S2 :=
  ⟨_, pi_zip hg hm (pa_cons pe_tW (pa_cons pe_tW pa_nil hs2) hs0) hs0 hpl, fun σ H O hs sl R q => ha σ H O hs sl _ fun v H' O' a1 a2 a3 => by
    refine hb σ H' _ a1 (sl.mono a2) _ fun w H2 O2 b1 b2 b3 => ?_
    have a4 : At X.K _ v (.lst xs) := At.mono b2 a3
    have b4 : At X.K _ w (.lst ys) := b3
    rw [List.append_assoc] at b1 b2 b4 a4
    cases a4 with
    | lst f1 f2 =>
      cases b4 with
      | lst g1 g2 =>
        rename_i pa vs pb ws
        refine ⟨pa, pb, vs, ws, rfl, vw_le.l f1, vw_le.l g1, q _ H2 _ b1 (a2.trans b2) fun c' O3 S3 H3 _ c1 c2 => ?_⟩
        have f3 := f2.mono c2
        have g3 := g2.mono c2
        have k1 := vw_le.l (c2.l f1)
        have k2 := vw_le.l (c2.l g1)
        refine ⟨fun i hi => ?_, ⟨_, _, k1, k2, ?_⟩, fun i x H4 d hd hy => ?_⟩
        · rw [pairs_len] at hi
          obtain ⟨u1, e1, _⟩ := f3.get (List.getElem?_eq_getElem (show i < xs.length by omega))
          obtain ⟨u2, e2, _⟩ := g3.get (List.getElem?_eq_getElem (show i < ys.length by omega))
          exact ⟨_, _, u1, u2, k1, k2, e1, e2⟩
        · rw [pairs_len, f2.length, g2.length]
          omega
        · obtain ⟨x1, y1, e1, e2, e3⟩ := of_pairs hd
          subst e3
          obtain ⟨T, u1, u2, e4, hT, e5, e6, e7⟩ := hy
          subst e4 e5
          obtain ⟨v1, e8, e9⟩ := f3.get e1
          obtain ⟨v2, e10, e11⟩ := g3.get e2
          rw [e6 _ k1] at e8; cases e8
          rw [e7 _ k2] at e10; cases e10
          exact ⟨Ex.new hT, ex_tup c1 hT (.cons e9 (.cons e11 .nil))⟩⟩
def numd : Nat → List Dat → List Dat
  | _, [] => []
  | k, d :: ds => .tup [.int (k : Nat), d] :: numd (k + 1) ds
theorem numd_len : ∀ (k : Nat) (ds : List Dat), (numd k ds).length = ds.length
  | _, [] => rfl
  | k, d :: ds => by rw [numd, List.length_cons, numd_len, List.length_cons]
theorem numd_get : ∀ {ds : List Dat} {m k : Nat} {d : Dat}, ds[k]? = some d → (numd m ds)[k]? = some (.tup [.int ((m + k : Nat) : Int), d])
  | _ :: ds, m, 0, d, h => by
    simp at h
    subst h
    rfl
  | _ :: ds, m, k + 1, d, h => by
    have := numd_get (ds := ds) (m := m + 1) (k := k) (d := d) (by simpa using h)
    simp only [numd, List.getElem?_cons_succ]
    rw [this, show m + 1 + k = m + (k + 1) by omega]
theorem of_numd {ds : List Dat} {k : Nat} {x : Dat} (h : (numd 0 ds)[k]? = some x) : ∃ d, ds[k]? = some d ∧ x = .tup [.int (k : Nat), d] := by
  have h1 := (List.getElem?_eq_some_iff.mp h).1
  rw [numd_len] at h1
  have h2 := List.getElem?_eq_getElem h1
  rw [numd_get h2] at h
  rw [Nat.zero_add] at h
  exact ⟨_, h2, (Option.some.inj h).symm⟩
theorem di_enum {xs : List Dat} {elts : List Expr} {kk : Nat} {tpos p : Pos} (hm : X.mg "enumerate" = none) (ha : DE X c ρ S a (.d (.lst xs)) S1) (hg : Gl X "enumerate" := by rfl) (hs0 : starEach [a] X.env = [(false, eval a X.env)] := by rfl) :
    DI X c ρ S (.Tuple elts kk tpos) (.Call (.Name "enumerate" p) [a] [] pos) (numd 0 xs) S1 :=
  ⟨_, pi_enum hg hm (pa_cons pe_tW pa_nil hs0) hs0, fun σ H O hs sl R q => ha σ H O hs sl _ fun v H' O' a1 a2 a3 => by
    have a3' : At X.K _ v (.lst xs) := a3
    cases a3' with
    | lst f1 f2 =>
      refine ⟨_, _, rfl, vw_le.l f1, q _ H' O' a1 a2 fun c' O3 S3 H3 _ c1 c2 => ?_⟩
      have f3 := f2.mono c2
      have k1 := vw_le.l (c2.l f1)
      refine ⟨fun i hi => ?_, ⟨_, k1, by rw [numd_len, f2.length]; exact Nat.le_refl _⟩, fun i x H4 d hd hy => ?_⟩
      · rw [numd_len] at hi
        obtain ⟨u1, e1, _⟩ := f3.get (List.getElem?_eq_getElem hi)
        exact ⟨_, u1, k1, e1⟩
      · obtain ⟨x1, e1, e3⟩ := of_numd hd
        subst e3
        obtain ⟨T, u1, e4, hT, e5, e6⟩ := hy
        subst e4 e5
        obtain ⟨v1, e8, e9⟩ := f3.get e1
        rw [e6 _ k1] at e8; cases e8
        exact ⟨Ex.new hT, ex_tup c1 hT (.cons (.int _) (.cons e9 .nil))⟩⟩

/-! ### forgetting -/
def okN (n : Nat) : Sl → Prop
  | .o i => i < n
  | _ => True
def Le (n : Nat) : List Sl → List Sl → Prop
  | [], [] => True
  | a :: as, b :: bs => ((a = b ∧ okN n b) ∨ b = .un) ∧ Le n as bs
  | _, _ => False
theorem Le.len {n : Nat} : ∀ {as bs : List Sl}, Le n as bs → as.length = bs.length
  | [], [], _ => rfl
  | _ :: as, _ :: bs, h => by rw [List.length_cons, List.length_cons, Le.len h.2]
  | [], _ :: _, h => h.elim
  | _ :: _, [], h => h.elim
theorem Le.get {n : Nat} : ∀ {as bs : List Sl} {i : Nat} {r : Sl}, Le n as bs → bs[i]? = some r → r ≠ .un → as[i]? = some r ∧ okN n r
  | _ :: as, b :: bs, 0, r, h, e, ne => by
    simp at e
    subst e
    rcases h.1 with ⟨h1, h2⟩ | h1
    · subst h1; exact ⟨rfl, h2⟩
    · exact absurd h1 ne
  | _ :: as, _ :: bs, i + 1, r, h, e, ne => Le.get (as := as) (bs := bs) (i := i) h.2 (by simpa using e) ne
  | [], [], _, _, _, e, _ => by simp at e
  | [], _ :: _, _, _, h, _, _ => h.elim
  | _ :: _, [], _, _, h, _, _ => h.elim
theorem Le.refl {n : Nat} : ∀ {as : List Sl}, (∀ r ∈ as, okN n r) → Le n as as
  | [], _ => trivial
  | a :: as, h => ⟨.inl ⟨rfl, h a List.mem_cons_self⟩, Le.refl fun r hr => h r (List.mem_cons_of_mem _ hr)⟩
theorem live_take {O : List Addr} {S T : List Ct} {a : Addr} (h : a ∈ live (O.take S.length) S) : a ∈ live O (S ++ T) := by
  obtain ⟨i, t, h1, h2, h3⟩ := mem_live.mp h
  have hi := (List.getElem?_eq_some_iff.mp h2).1
  rw [List.getElem?_take_of_lt hi] at h1
  exact mem_live.mpr ⟨i, t, h1, by rw [List.getElem?_append_left hi]; exact h2, h3⟩
theorem RX.take {c : Cz} {O : List Addr} {S T : List Ct} {H : Hp} : RX (vw c O (S ++ T) H) (vw c (O.take S.length) S H) := RX.ex fun a o h => by
  obtain ⟨h1, h2, h3⟩ := vw_some h
  rw [vw_of h2 fun z => h3 (live_take z)]
  exact h1
theorem Hs.take {K : PySem.W.Frag} {c : Cz} {O : List Addr} {S T : List Ct} {H : Hp} (h : Hs K c O (S ++ T) H) : Hs K c (O.take S.length) S H := by
  have hl : S.length ≤ O.length := by rw [h.len, List.length_append]; omega
  have up : ∀ {i : Nat} {q : Addr} {t : Ct}, (O.take S.length)[i]? = some q → S[i]? = some t → O[i]? = some q ∧ (S ++ T)[i]? = some t := fun {i q t} e1 e2 => by
    have hi := (List.getElem?_eq_some_iff.mp e2).1
    rw [List.getElem?_take_of_lt hi] at e1
    exact ⟨e1, by rw [List.getElem?_append_left hi]; exact e2⟩
  refine ⟨h.ok, h.ph, by rw [List.length_take]; omega, fun i j q t u a1 a2 a3 b1 b2 b3 => ?_, fun i q t a1 a2 => ?_, fun i q t a1 a2 a3 => ?_⟩
  · exact h.nd i j q t u (up a1 a2).1 (up a1 a2).2 a3 (up b1 b2).1 (up b1 b2).2 b3
  · exact (h.cell i q t (up a1 a2).1 (up a1 a2).2).mono RX.take fun _ => rfl
  · exact h.own i q t (up a1 a2).1 (up a1 a2).2 a3
theorem SlOk.take {K : PySem.W.Frag} {c : Cz} {O : List Addr} {S T : List Ct} {H : Hp} {ρ ρ2 : List Sl} {σ : L2.St} (h : SlOk K O (vw c O (S ++ T) H) ρ σ) (l : Le S.length ρ ρ2) (hO : S.length ≤ O.length) : SlOk K (O.take S.length) (vw c (O.take S.length) S H) ρ2 σ := by
  refine ⟨h.len.trans l.len, fun i r h1 h2 => ?_⟩
  obtain ⟨h3, h4⟩ := l.get h1 h2
  obtain ⟨v, e1, e2⟩ := h.at' i r h3 h2
  refine ⟨v, e1, ?_⟩
  cases r with
  | un => trivial
  | d x => exact At.mono RX.take e2
  | o j =>
    obtain ⟨p, e3, e4⟩ := e2
    exact ⟨p, by rw [List.getElem?_take_of_lt h4]; exact e3, e4⟩
/-- a state that may be forgotten down to another -/
def Wk (ρ : List Sl) (S : List Ct) (ρ2 : List Sl) (S2 : List Ct) : Prop := Le S2.length ρ ρ2 ∧ ∃ T, S = S2 ++ T

/-! ### for -/
def IN (I : Nat → List Sl → List Ct → Prop) (i : Nat) : List Sl → List Ct → Prop := fun ρ S => ∃ ρ2 S2, Wk ρ S ρ2 S2 ∧ I i ρ2 S2
theorem for_read {T : Tg} {body : List Stmt} {ys : List Dat} {wi : TI} {σ : L2.St} {H : Hp} {O : List Addr} (hs : Hs X.K c O S H) (sl : SlOk X.K O (vw c O S H) ρ σ)
    (di : ∀ R : It → Hp → Prop, (∀ J H1 O1, Hs X.K c (O ++ O1) S1 H1 → RX (vw c O S H) (vw c (O ++ O1) S1 H1) → Walk X.K c J ys (O ++ O1) S1 H1 → R J H1) → wi σ H R) (I : Nat → List Sl → List Ct → Prop) (hS : ∀ i ρ' S', I i ρ' S' → S1.length ≤ S'.length) (h0 : IN I 0 ρ S1)
    (turn : ∀ i d ρ' S', ys[i]? = some d → I i ρ' S' → ∃ ρ2, T.St d ρ' ρ2 ∧ DSs X c ρ2 S' body { D with nx := IN I (i + 1), ct := IN I (i + 1), bk := D.nx }) (hd : ∀ ρ' S', I ys.length ρ' S' → D.nx ρ' S') {E : Ends} (q : PostS X.K c O S H D E) : tFor wi (T.g X.K) (tWSs X body) E σ H := by
  refine di _ fun J H1 O1 a1 a2 w => ?_
  have q1 := q.step a2
  have sl1 := sl.mono (O' := O1) a2
  -- from a state that may be forgotten down
  have down : ∀ {i : Nat} {ρ' : List Sl} {S' : List Ct} {σ' : L2.St} {H' : Hp} {O' : List Addr}, IN I i ρ' S' → Hs X.K c (O ++ O1 ++ O') S' H' → SlOk X.K (O ++ O1 ++ O') (vw c (O ++ O1 ++ O') S' H') ρ' σ' → RX (vw c (O ++ O1) S1 H1) (vw c (O ++ O1 ++ O') S' H') →
      ∃ ρ2 S2 O2, I i ρ2 S2 ∧ Hs X.K c (O ++ O1 ++ O2) S2 H' ∧ SlOk X.K (O ++ O1 ++ O2) (vw c (O ++ O1 ++ O2) S2 H') ρ2 σ' ∧ RX (vw c (O ++ O1) S1 H1) (vw c (O ++ O1 ++ O2) S2 H') := fun {i ρ' S' σ' H' O'} hin b1 b2 b3 => by
    obtain ⟨ρ2, S2, ⟨le, T, eT⟩, hi⟩ := hin
    subst eT
    have hl : S2.length ≤ (O ++ O1 ++ O').length := by rw [b1.len, List.length_append]; omega
    have h1 : (O ++ O1).length ≤ S2.length := by rw [a1.len]; exact hS i ρ2 S2 hi
    have e1 : (O ++ O1 ++ O').take S2.length = O ++ O1 ++ O'.take (S2.length - (O ++ O1).length) := by
      rw [List.take_append, List.take_of_length_le h1]
    refine ⟨ρ2, S2, O'.take (S2.length - (O ++ O1).length), hi, ?_⟩
    rw [← e1]
    exact ⟨b1.take, b2.take le hl, b3.trans RX.take⟩
  refine ⟨fun i m σ' H' => i + m = ys.length ∧ ∃ ρ2 S2 O2, I i ρ2 S2 ∧ Hs X.K c (O ++ O1 ++ O2) S2 H' ∧ SlOk X.K (O ++ O1 ++ O2) (vw c (O ++ O1 ++ O2) S2 H') ρ2 σ' ∧ RX (vw c (O ++ O1) S1 H1) (vw c (O ++ O1 ++ O2) S2 H'),
    ⟨ys.length, by omega, down (O' := []) h0 (by rw [List.append_nil]; exact a1) (by rw [List.append_nil]; exact sl1) (by rw [List.append_nil]; exact RX.refl _)⟩, fun i m σ' H' hW => ?_⟩
  obtain ⟨em, ρ2, S2, O2, hi, b1, b2, b3⟩ := hW
  obtain ⟨w1, w2, w3⟩ := w c _ _ _ (fun _ h => h) b1 b3
  by_cases hlt : i < ys.length
  · refine .inr ⟨w1 i hlt, fun σ3 H3 => ∃ m', m' < m ∧ (i + 1 + m' = ys.length ∧ ∃ ρ2 S2 O2, I (i + 1) ρ2 S2 ∧ Hs X.K c (O ++ O1 ++ O2) S2 H3 ∧ SlOk X.K (O ++ O1 ++ O2) (vw c (O ++ O1 ++ O2) S2 H3) ρ2 σ3 ∧ RX (vw c (O ++ O1) S1 H1) (vw c (O ++ O1 ++ O2) S2 H3)),
      fun σ3 H3 h => h, fun x H3 hy => ?_⟩
    have hd' := List.getElem?_eq_getElem hlt
    obtain ⟨e1, e2⟩ := w3 i x H3 _ hd' hy
    obtain ⟨ρ3, t1, t2⟩ := turn i _ ρ2 S2 hd' hi
    have b1' := b1.ex e1
    have b2' : SlOk X.K (O ++ O1 ++ O2) (vw c (O ++ O1 ++ O2) S2 H3) ρ2 σ' := by
      have := b2.mono (O' := []) (RX.vw_ex (c := c) (O := O ++ O1 ++ O2) (S := S2) e1)
      rw [List.append_nil] at this
      exact this
    have b3' := b3.trans (RX.vw_ex (c := c) (O := O ++ O1 ++ O2) (S := S2) e1)
    refine t1.go e2 b2' fun σ4 s4 _ => ?_
    refine t2 σ4 H3 _ b1' s4 _ ?_
    have q2 := q1.step b3'
    have again : ∀ {ρ5 S5 σ5 H5 O5}, IN I (i + 1) ρ5 S5 → Hs X.K c (O ++ O1 ++ O2 ++ O5) S5 H5 → SlOk X.K (O ++ O1 ++ O2 ++ O5) (vw c (O ++ O1 ++ O2 ++ O5) S5 H5) ρ5 σ5 → RX (vw c (O ++ O1 ++ O2) S2 H3) (vw c (O ++ O1 ++ O2 ++ O5) S5 H5) →
        ∃ m', m' < m ∧ (i + 1 + m' = ys.length ∧ ∃ ρ2 S2 O2, I (i + 1) ρ2 S2 ∧ Hs X.K c (O ++ O1 ++ O2) S2 H5 ∧ SlOk X.K (O ++ O1 ++ O2) (vw c (O ++ O1 ++ O2) S2 H5) ρ2 σ5 ∧ RX (vw c (O ++ O1) S1 H1) (vw c (O ++ O1 ++ O2) S2 H5)) := fun {ρ5 S5 σ5 H5 O5} g1 g2 g3 g4 => by
      rw [List.append_assoc (O ++ O1)] at g2 g3 g4
      exact ⟨m - 1, by omega, by omega, down g1 g2 g3 (b3'.trans g4)⟩
    exact ⟨fun ρ5 S5 σ5 H5 O5 g1 g2 g3 g4 => again g1 g2 g3 g4, q2.rt, fun ρ5 S5 σ5 H5 O5 g1 g2 g3 g4 => q2.nx ρ5 S5 σ5 H5 O5 g1 g2 g3 g4, fun ρ5 S5 σ5 H5 O5 g1 g2 g3 g4 => again g1 g2 g3 g4⟩
  · have ei : i = ys.length := by omega
    subst ei
    refine .inl ⟨w2, ?_⟩
    exact q1.nx ρ2 S2 σ' H' O2 (hd ρ2 S2 hi) b1 b2 b3

theorem ds_for {T : Tg} {iter : Expr} {body : List Stmt} {ys : List Dat} (hI : DI X c ρ S tg iter ys S1) (hg : PG X tg (T.g X.K)) (I : Nat → List Sl → List Ct → Prop) (hS : ∀ i ρ' S', I i ρ' S' → S1.length ≤ S'.length) (h0 : IN I 0 ρ S1)
    (turn : ∀ i d ρ' S', ys[i]? = some d → I i ρ' S' → ∃ ρ2, T.St d ρ' ρ2 ∧ DSs X c ρ2 S' body { D with nx := IN I (i + 1), ct := IN I (i + 1), bk := D.nx }) (hd : ∀ ρ' S', I ys.length ρ' S' → D.nx ρ' S')
    (hp : PassesOwn (model X.prog X.w) X.A X.env X.xe := by exact PassesOwn.never) (hc : X.calm = true := by rfl) (hs0 : ∀ x, foldedSetIterable iter X.env x = pure x := by intro _; rfl) : DS X c ρ S (.For tg iter body [] pos) D := by
  obtain ⟨wi, pi, di⟩ := hI
  exact ds_of (ps_for hp hc pi hg pss_tW hs0) fun σ H O hs sl E q => for_read hs sl (di σ H O hs sl) I hS h0 turn hd q

/-! ### while -/
theorem ds_while {body : List Stmt} (I : Nat → List Sl → List Ct → Prop) (n0 : Nat) (hS : ∀ i ρ' S', I i ρ' S' → S.length ≤ S'.length) (h0 : I n0 ρ S)
    (turn : ∀ n ρ' S', I n ρ' S' → ∃ k S'', DT X c ρ' S' e k S'' ∧ (k = true → DSs X c ρ' S'' body { D with nx := fun ρ3 S3 => ∃ m, m < n ∧ IN I m ρ3 S3, ct := fun ρ3 S3 => ∃ m, m < n ∧ IN I m ρ3 S3, bk := D.nx }) ∧ (k = false → D.nx ρ' S''))
    (hp : PassesOwn (model X.prog X.w) X.A X.env X.xe := by exact PassesOwn.never) : DS X c ρ S (.While e body [] pos) D := by
  refine ds_of (ps_while hp pt_tW pss_tW) fun σ H O hs sl E q => ?_
  refine ⟨fun n σ' H' => ∃ ρ2 S2 O2, I n ρ2 S2 ∧ Hs X.K c (O ++ O2) S2 H' ∧ SlOk X.K (O ++ O2) (vw c (O ++ O2) S2 H') ρ2 σ' ∧ RX (vw c O S H) (vw c (O ++ O2) S2 H'),
    ⟨n0, ρ, S, [], h0, by rw [List.append_nil]; exact hs, by rw [List.append_nil]; exact sl, by rw [List.append_nil]; exact RX.refl _⟩, fun n σ' H' hW => ?_⟩
  obtain ⟨ρ2, S2, O2, hi, b1, b2, b3⟩ := hW
  obtain ⟨k, S3, t0, t1, t2⟩ := turn n ρ2 S2 hi
  refine t0 σ' H' _ b1 b2 _ fun H3 O3 c1 c2 => ?_
  have q2 := (q.step b3).step c2
  cases k with
  | false =>
    rw [if_neg Bool.false_ne_true]
    exact q2.nx.here (t2 rfl) c1 (b2.mono c2)
  | true =>
    rw [if_pos rfl]
    refine ⟨fun σ4 H4 => ∃ m, m < n ∧ ∃ ρ2 S2 O2, I m ρ2 S2 ∧ Hs X.K c (O ++ O2) S2 H4 ∧ SlOk X.K (O ++ O2) (vw c (O ++ O2) S2 H4) ρ2 σ4 ∧ RX (vw c O S H) (vw c (O ++ O2) S2 H4), fun σ4 H4 h => h, ?_⟩
    refine t1 rfl σ' H3 _ c1 (b2.mono c2) _ ?_
    have again : ∀ {ρ5 S5 σ5 H5 O5}, (∃ m, m < n ∧ IN I m ρ5 S5) → Hs X.K c (O ++ O2 ++ O3 ++ O5) S5 H5 → SlOk X.K (O ++ O2 ++ O3 ++ O5) (vw c (O ++ O2 ++ O3 ++ O5) S5 H5) ρ5 σ5 → RX (vw c (O ++ O2 ++ O3) S3 H3) (vw c (O ++ O2 ++ O3 ++ O5) S5 H5) →
        ∃ m, m < n ∧ ∃ ρ2 S2 O2, I m ρ2 S2 ∧ Hs X.K c (O ++ O2) S2 H5 ∧ SlOk X.K (O ++ O2) (vw c (O ++ O2) S2 H5) ρ2 σ5 ∧ RX (vw c O S H) (vw c (O ++ O2) S2 H5) := fun {ρ5 S5 σ5 H5 O5} g1 g2 g3 g4 => by
      obtain ⟨m, hm, ρ6, S6, ⟨le, T, eT⟩, hi6⟩ := g1
      subst eT
      have hl : S6.length ≤ (O ++ O2 ++ O3 ++ O5).length := by rw [g2.len, List.length_append]; omega
      have h1 : O.length ≤ S6.length := by rw [hs.len]; exact hS m ρ6 S6 hi6
      have e1 : (O ++ O2 ++ O3 ++ O5).take S6.length = O ++ (O2 ++ O3 ++ O5).take (S6.length - O.length) := by
        rw [show O ++ O2 ++ O3 ++ O5 = O ++ (O2 ++ O3 ++ O5) by simp, List.take_append, List.take_of_length_le h1]
      refine ⟨m, hm, ρ6, S6, (O2 ++ O3 ++ O5).take (S6.length - O.length), hi6, ?_⟩
      rw [← e1]
      exact ⟨g2.take, g3.take le hl, ((b3.trans c2).trans g4).trans RX.take⟩
    exact ⟨fun ρ5 S5 σ5 H5 O5 g1 g2 g3 g4 => again g1 g2 g3 g4, q2.rt, fun ρ5 S5 σ5 H5 O5 g1 g2 g3 g4 => q2.nx ρ5 S5 σ5 H5 O5 g1 g2 g3 g4, fun ρ5 S5 σ5 H5 O5 g1 g2 g3 g4 => again g1 g2 g3 g4⟩
end
end Tw
end
section
set_option Elab.async false
set_option linter.all false
set_option maxRecDepth 100000
set_option maxHeartbeats 1000000
/-! TwComp: list comprehensions by data. -/
namespace Tw
open PySem PySem.Spec PyProof.Rows L2
open Evl (Ex)

/-- the list D is being made: it stands still, nobody reads it -/
def cD (c : Cz) (D : Addr) (acc : List V) : Cz := ⟨fun H => c.φ H ∧ H D = some (.lst acc), fun a => c.N a || decide (a = D), fun a => c.B a || decide (a = D)⟩
section
variable {K : PySem.W.Frag} {c : Cz} {O : List Addr} {S : List Ct} {H : Hp} {D : Addr} {acc acc' : List V}
theorem cD_ok (h : c.Ok) : (cD c D acc).Ok := by
  refine ⟨fun H H' a e => ⟨h.ex H H' a.1 e, e D _ a.2⟩, fun H q a hq => ?_, fun p hp H o a => ?_, fun H q a hN xs hq => ?_⟩
  · obtain ⟨f1, f2⟩ := h.fr H q a.1 hq
    have ne : q ≠ D := fun z => by
      subst z
      have := a.2
      rw [hq] at this; cases this
    exact ⟨by show (c.N q || decide (q = D)) = false; rw [f1, decide_eq_false ne]; rfl, by show (c.B q || decide (q = D)) = false; rw [f2, decide_eq_false ne]; rfl⟩
  · have hp' : (c.B p || decide (p = D)) = false := hp
    rw [Bool.or_eq_false_iff, decide_eq_false_iff_not] at hp'
    exact ⟨h.up p hp'.1 H o a.1, by rw [upd_ne (Ne.symm hp'.2)]; exact a.2⟩
  · have hN' : (c.N q || decide (q = D)) = true := hN
    rw [Bool.or_eq_true, decide_eq_true_eq] at hN'
    rcases hN' with z | z
    · exact h.nt H q a.1 z xs hq
    · subst z
      have := a.2
      rw [hq] at this; cases this
theorem vw_cD (hO : D ∉ live O S) : ∀ a, vw (cD c D acc) O S H a = if a = D then none else vw c O S H a := fun a => by
  unfold vw
  have e : ((cD c D acc).N a = true ∨ a ∈ live O S) = ((c.N a = true ∨ a ∈ live O S) ∨ a = D) := by
    show ((c.N a || decide (a = D)) = true ∨ a ∈ live O S) = _
    rw [Bool.or_eq_true, decide_eq_true_eq]
    apply propext
    constructor
    · rintro ((z | z) | z)
      · exact .inl (.inl z)
      · exact .inr z
      · exact .inl (.inr z)
    · rintro ((z | z) | z)
      · exact .inl (.inl z)
      · exact .inr z
      · exact .inl (.inr z)
  simp only [e]
  by_cases h : a = D
  · subst h; simp
  · simp [h]
theorem vw_cD_new (h : Hs K c O S H) (hD : H D = none) {o : HO} : vw (cD c D acc) O S (upd H D o) = vw c O S H := by
  have hl : D ∉ live O S := fun z => by
    obtain ⟨u, e1, _⟩ := h.liveSome z
    rw [hD] at e1; cases e1
  funext a
  rw [vw_cD hl]
  unfold vw
  by_cases e : a = D
  · subst e
    rw [if_pos rfl]
    split
    · rfl
    · exact hD.symm
  · rw [if_neg e, upd_ne e]
theorem Hs.cd (h : Hs K c O S H) (hD : H D = none) : Hs K (cD c D acc) O S (upd H D (.lst acc)) := by
  have ev := vw_cD_new (acc := acc) (o := .lst acc) h hD
  have ne : ∀ (i : Nat) (p : Addr) (t : Ct), O[i]? = some p → S[i]? = some t → t.live = true → p ≠ D := fun i p t h1 h2 h3 z => by
    obtain ⟨u, e1, _⟩ := (h.cell i p t h1 h2).some h3
    rw [z, hD] at e1; cases e1
  refine ⟨cD_ok h.ok, ⟨h.ok.up D (h.ok.fr H D h.ph hD).2 H _ h.ph, upd_same⟩, h.len, h.nd, fun i p t h1 h2 => ?_, fun i p t h1 h2 h3 => ?_⟩
  · rw [ev]
    exact (h.cell i p t h1 h2).mono (RX.refl _) fun hl => upd_ne (ne i p t h1 h2 hl)
  · obtain ⟨o1, o2⟩ := h.own i p t h1 h2 h3
    exact ⟨by show (c.N p || decide (p = D)) = false; rw [o1, decide_eq_false (ne i p t h1 h2 h3)]; rfl, by show (c.B p || decide (p = D)) = false; rw [o2, decide_eq_false (ne i p t h1 h2 h3)]; rfl⟩
theorem Hs.cdNe (h : Hs K (cD c D acc) O S H) {i : Nat} {p : Addr} {t : Ct} (h1 : O[i]? = some p) (h2 : S[i]? = some t) (h3 : t.live = true) : p ≠ D := fun z => by
  have := (h.own i p t h1 h2 h3).1
  have this' : (c.N p || decide (p = D)) = false := this
  rw [z, decide_eq_true rfl, Bool.or_true] at this'
  cases this'
theorem Hs.cdLive (h : Hs K (cD c D acc) O S H) : D ∉ live O S := fun z => by
  obtain ⟨i, t, h1, h2, h3⟩ := mem_live.mp z
  exact h.cdNe h1 h2 h3 rfl
theorem vw_cD_set (h : Hs K (cD c D acc) O S H) {o : HO} : vw (cD c D acc') O S (upd H D o) = vw (cD c D acc) O S H := by
  funext a
  rw [vw_cD h.cdLive, vw_cD h.cdLive]
  by_cases e : a = D
  · rw [if_pos e, if_pos e]
  · rw [if_neg e, if_neg e]
    unfold vw
    rw [upd_ne e]
theorem Hs.cdSet (h : Hs K (cD c D acc) O S H) (ok : c.Ok) (fr : c.B D = false) : Hs K (cD c D acc') O S (upd H D (.lst acc')) := by
  have ev := vw_cD_set (acc' := acc') (o := .lst acc') h
  refine ⟨cD_ok ok, ⟨ok.up D fr H _ h.ph.1, upd_same⟩, h.len, h.nd, fun i p t h1 h2 => ?_, h.own⟩
  rw [ev]
  exact (h.cell i p t h1 h2).mono (RX.refl _) fun hl => upd_ne (h.cdNe h1 h2 hl)
theorem RX.cd (h : Hs K (cD c D acc) O S H) : RX (vw (cD c D acc) O S H) (vw c O S H) := RX.ex fun a o e => by
  rw [vw_cD h.cdLive] at e
  split at e
  · cases e
  · exact e
theorem Hs.cdEnd (h : Hs K (cD c D acc) O S H) (ok : c.Ok) : Hs K c O S H := by
  refine ⟨ok, h.ph.1, h.len, h.nd, fun i p t h1 h2 => (h.cell i p t h1 h2).mono (RX.cd h) fun _ => rfl, fun i p t h1 h2 h3 => ?_⟩
  obtain ⟨o1, o2⟩ := h.own i p t h1 h2 h3
  have o1' : (c.N p || decide (p = D)) = false := o1
  have o2' : (c.B p || decide (p = D)) = false := o2
  rw [Bool.or_eq_false_iff] at o1' o2'
  exact ⟨o1'.1, o2'.1⟩
theorem Hs.cdAt (h : Hs K (cD c D acc) O S H) (hN : c.N D = false) : vw c O S H D = some (.lst acc) := by
  rw [vw_of hN h.cdLive]
  exact h.ph.2

/-! ### slots of a block -/
def wipeR (ρ : List Sl) : List Nat → List Sl
  | [] => ρ
  | v :: vs => (wipeR ρ vs).set v .un
theorem SlOk.wipe {O : List Addr} {Hm : Hp} {ρ : List Sl} {σ : L2.St} (h : SlOk K O Hm ρ σ) : ∀ vs : List Nat, SlOk K O Hm (wipeR ρ vs) (L2.wipe σ vs)
  | [] => h
  | v :: vs => by
    have ih := SlOk.wipe h vs
    refine ⟨by show ((L2.wipe σ vs).set v none).length = ((wipeR ρ vs).set v .un).length; rw [List.length_set, List.length_set]; exact ih.len, fun i r h1 h2 => ?_⟩
    have h1' : ((wipeR ρ vs).set v .un)[i]? = some r := h1
    show ∃ w, ((L2.wipe σ vs).set v none)[i]? = some (some w) ∧ _
    by_cases e : v = i
    · subst e
      have hl := (List.getElem?_eq_some_iff.mp h1').1
      rw [List.length_set] at hl
      rw [List.getElem?_set_self hl] at h1'
      cases h1'
      exact absurd rfl h2
    · rw [List.getElem?_set_ne e] at h1' ⊢
      exact ih.at' i r h1' h2
theorem wipe_get (σ : L2.St) (i : Nat) : ∀ vs : List Nat, (L2.wipe σ vs)[i]? = if i ∈ vs then (σ[i]?).map (fun _ => none) else σ[i]?
  | [] => by simp [L2.wipe]
  | v :: vs => by
    have ih := wipe_get σ i vs
    show ((L2.wipe σ vs).set v none)[i]? = _
    by_cases e : v = i
    · subst e
      rw [if_pos List.mem_cons_self, List.getElem?_set_self', ih]
      split <;> cases σ[v]? <;> rfl
    · rw [List.getElem?_set_ne e, ih]
      by_cases h : i ∈ vs
      · rw [if_pos h, if_pos (List.mem_cons_of_mem _ h)]
      · rw [if_neg h, if_neg (by
          intro z
          rcases List.mem_cons.mp z with z | z
          · exact e z.symm
          · exact h z)]
theorem wipe_wipe (σ : L2.St) (vs : List Nat) : L2.wipe (L2.wipe σ vs) vs = L2.wipe σ vs := by
  apply List.ext_getElem?
  intro i
  rw [wipe_get, wipe_get]
  split
  · cases σ[i]? <;> rfl
  · rfl
end

/-! ### the comprehension -/
section
variable {X : Cx} {c : Cz} {ρ : List Sl} {S S1 S2 : List Ct} {e a b tg iter elt : Expr} {r : Sl} {pos spos : Pos} {scope : Scope} {own : List (Str × Nat)} {T : Tg} {ys : List Dat}
theorem de_forget {x : Dat} {S' Tl : List Ct} (h : DE X c ρ S e (.d x) (S' ++ Tl)) (hS : S.length ≤ S'.length) : DE X c ρ S e (.d x) S' := fun σ H O hs sl Q q => h σ H O hs sl Q fun v H' O' a1 a2 a3 => by
  have h1 : O.length ≤ S'.length := by rw [hs.len]; exact hS
  have e1 : (O ++ O').take S'.length = O ++ O'.take (S'.length - O.length) := by rw [List.take_append, List.take_of_length_le h1]
  have b1 := a1.take
  have b2 := a2.trans (RX.take (c := c) (O := O ++ O') (S := S') (T := Tl) (H := H'))
  have a3' : At X.K _ v x := a3
  have b3 := At.mono (RX.take (c := c) (O := O ++ O') (S := S') (T := Tl) (H := H')) a3'
  rw [e1] at b1 b2 b3
  exact q v H' _ b1 b2 b3
/-- an element, in whatever block -/
def EltP (X : Cx) (scope : Scope) (P : Cx → Prop) : Prop := ∀ (s : Shared) (H : Hp) (C : Addr) (cl : List (Str × Addr)) (fp : List Addr), P (X.blk s H scope (compEnvC scope cl C X.env) fp)
def tElt (X : Cx) (scope : Scope) (elt : Expr) : TE := fun σ H Q => EltP X scope fun Y => tW Y elt σ H Q
def tTst (X : Cx) (scope : Scope) (ifs : List Expr) : TT := fun σ H Q => EltP X scope fun Y => ∀ pins s, Inv Y pins σ H s →
  wpAny (model Y.prog Y.w) Y.A (forIn ifs true fun c r => if r = true then do let ok ← isTrue c Y.env (eval c Y.env); pure (ForInStep.yield ok) else pure (ForInStep.yield r)) (TP Y pins σ Q) Y.xe s
/-- what a comprehension comes to: the turn i begins with the cells Sf i, is kept where pf i, its element is f i -/
structure LcOk (X : Cx) (c : Cz) (ρ : List Sl) (elt : Expr) (ifs : List Expr) (scope : Scope) (own : List (Str × Nat)) (T : Tg) (ys : List Dat) (Sf : Nat → List Ct) (pf : Nat → Bool) (f : Nat → Dat) : Prop where
  len : ys.length ≤ 100000
  tgt : ∀ i ∈ T.own, i ∈ own.map (·.2)
  mono : ∀ i, (Sf 0).length ≤ (Sf i).length
  turn : ∀ i d, ys[i]? = some d → ∃ ρ2, T.St d (wipeR ρ (own.map (·.2))) ρ2 ∧ ∀ c : Cz, DnT X.K c (tTst X scope ifs) ρ2 (Sf i) (pf i) (Sf i) ∧ (pf i = true → Dn X.K c (tElt X scope elt) ρ2 (Sf i) (.d (f i)) (Sf (i + 1))) ∧ (pf i = false → Sf (i + 1) = Sf i)
def kept (pf : Nat → Bool) (f : Nat → Dat) (n : Nat) : List Dat := ((List.range n).filter pf).map f
theorem kept_yes {pf : Nat → Bool} {f : Nat → Dat} {n : Nat} (h : pf n = true) : kept pf f (n + 1) = kept pf f n ++ [f n] := by
  unfold kept
  rw [List.range_succ, List.filter_append, List.map_append, List.filter_cons, if_pos h]
  rfl
theorem kept_no {pf : Nat → Bool} {f : Nat → Dat} {n : Nat} (h : pf n = false) : kept pf f (n + 1) = kept pf f n := by
  unfold kept
  rw [List.range_succ, List.filter_append, List.map_append, List.filter_cons, if_neg (by rw [h]; decide)]
  show _ ++ [] = _
  rw [List.append_nil]
theorem kept_len (pf : Nat → Bool) (f : Nat → Dat) (n : Nat) : (kept pf f n).length ≤ n := by
  unfold kept
  rw [List.length_map]
  have h := List.length_filter_le pf (List.range n)
  rw [List.length_range] at h
  exact h
theorem kept_all (f : Nat → Dat) (n : Nat) : kept (fun _ => true) f n = (List.range n).map f := by
  unfold kept
  rw [List.filter_eq_self.mpr]
  intro a _
  rfl
/-- the reading of a comprehension -/
theorem lc_read {ifs : List Expr} {Sf : Nat → List Ct} {pf : Nat → Bool} {f : Nat → Dat} {wi : TI} (L : LcOk X c ρ elt ifs scope own T ys Sf pf f)
    {σ : L2.St} {H : Hp} {O : List Addr} (hs : Hs X.K c O S H) (sl : SlOk X.K O (vw c O S H) ρ σ)
    (di : ∀ R : It → Hp → Prop, (∀ J H1 O1, Hs X.K c (O ++ O1) (Sf 0) H1 → RX (vw c O S H) (vw c (O ++ O1) (Sf 0) H1) → Walk X.K c J ys (O ++ O1) (Sf 0) H1 → R J H1) → wi σ H R) {Q : VK}
    (q : ∀ D acc H' O', Hs X.K (cD c D acc) (O ++ O') (Sf ys.length) H' → c.N D = false → c.B D = false → RX (vw c O S H) (vw (cD c D acc) (O ++ O') (Sf ys.length) H') → AtAll X.K (vw (cD c D acc) (O ++ O') (Sf ys.length) H') acc (kept pf f ys.length) → Q (.ref D) H') :
    tLc wi (T.g X.K) (tTst X scope ifs) (tElt X scope elt) (own.map (·.2)) σ H Q := by
  refine di _ fun J H1 O1 a1 a2 w => ?_
  intro D hD
  obtain ⟨fN, fB⟩ := a1.ok.fr H1 D a1.ph hD
  have v0 : vw (cD c D []) (O ++ O1) (Sf 0) (upd H1 D (.lst [])) = vw c (O ++ O1) (Sf 0) H1 := vw_cD_new a1 hD
  have sl1 : SlOk X.K (O ++ O1) (vw c (O ++ O1) (Sf 0) H1) ρ σ := sl.mono a2
  refine ⟨fun i m H' => i + m = ys.length ∧ ∃ acc O2, Hs X.K (cD c D acc) (O ++ O1 ++ O2) (Sf i) H' ∧ RX (vw c (O ++ O1) (Sf 0) H1) (vw (cD c D acc) (O ++ O1 ++ O2) (Sf i) H') ∧ AtAll X.K (vw (cD c D acc) (O ++ O1 ++ O2) (Sf i) H') acc (kept pf f i),
    ⟨ys.length, by omega, [], [], by rw [List.append_nil]; exact a1.cd hD, by rw [List.append_nil, v0]; exact RX.refl _, .nil⟩, fun i m H' hW => ?_⟩
  obtain ⟨em, acc, O2, b1, b2, b3⟩ := hW
  obtain ⟨w1, w2, w3⟩ := w (cD c D acc) (O ++ O1 ++ O2) (Sf i) H' (fun _ h => h.1) b1 b2
  by_cases hlt : i < ys.length
  · refine .inr ⟨w1 i hlt, fun H3 => ∃ m', m' < m ∧ (i + 1 + m' = ys.length ∧ ∃ acc O2, Hs X.K (cD c D acc) (O ++ O1 ++ O2) (Sf (i + 1)) H3 ∧ RX (vw c (O ++ O1) (Sf 0) H1) (vw (cD c D acc) (O ++ O1 ++ O2) (Sf (i + 1)) H3) ∧ AtAll X.K (vw (cD c D acc) (O ++ O1 ++ O2) (Sf (i + 1)) H3) acc (kept pf f (i + 1))),
      fun H3 h => h, fun x H3 hy => ?_⟩
    have hd' := List.getElem?_eq_getElem hlt
    obtain ⟨e1, e2⟩ := w3 i x H3 _ hd' hy
    have b1' := b1.ex e1
    have rx := RX.vw_ex (c := cD c D acc) (O := O ++ O1 ++ O2) (S := Sf i) e1
    have b2' := b2.trans rx
    have b3' := b3.mono rx
    have slw : SlOk X.K (O ++ O1 ++ O2) (vw (cD c D acc) (O ++ O1 ++ O2) (Sf i) H3) (wipeR ρ (own.map (·.2))) (L2.wipe σ (own.map (·.2))) := (sl1.mono (O' := O2) b2').wipe _
    obtain ⟨ρ2, t1, t2⟩ := L.turn i _ hd'
    obtain ⟨t3, t4, t5⟩ := t2 (cD c D acc)
    refine t1.go e2 slw fun σ4 s4 hw => ?_
    obtain ⟨g, eg, hg⟩ := hw
    refine ⟨by rw [eg, hg _ L.tgt, wipe_wipe], ?_⟩
    refine t3 σ4 H3 _ b1' s4 _ fun H4 O4 c1 c2 => ?_
    have lacc := b3'.length
    have lk := kept_len pf f i
    have hle := L.len
    cases hp : pf i with
    | false =>
      rw [if_neg Bool.false_ne_true]
      have b3'' := b3'.mono c2
      rw [← t5 hp] at c1 c2 b3''
      rw [t5 hp] at c2
      refine ⟨m - 1, by omega, by omega, acc, O2 ++ O4, ?_⟩
      rw [← List.append_assoc, kept_no hp]
      refine ⟨c1, b2'.trans ?_, b3''⟩
      rw [← t5 hp] at c2
      rw [t5 hp] at c2 ⊢
      exact c2
    | true =>
      rw [if_pos rfl]
      refine t4 hp σ4 H4 _ c1 (s4.mono c2) _ fun y H5 O5 d1 d2 d3 => ?_
      have d3' : At X.K _ y (f i) := d3
      refine ⟨acc, d1.ph.2, by rw [lacc]; exact Evl.sz_lt (by omega), ?_⟩
      have ev := vw_cD_set (acc' := acc ++ [y]) (o := .lst (acc ++ [y])) d1
      refine ⟨m - 1, by omega, by omega, acc ++ [y], O2 ++ O4 ++ O5, ?_⟩
      rw [show O ++ O1 ++ (O2 ++ O4 ++ O5) = O ++ O1 ++ O2 ++ O4 ++ O5 by simp, kept_yes hp, ev]
      exact ⟨d1.cdSet a1.ok fB, (b2'.trans c2).trans d2, ((b3'.mono c2).mono d2).append (.cons d3' .nil)⟩
  · have ei : i = ys.length := by omega
    subst ei
    refine .inl ⟨w2, ?_⟩
    have r1 : RX (vw c O S H) (vw (cD c D acc) (O ++ O1 ++ O2) (Sf ys.length) H') := a2.trans b2
    rw [List.append_assoc] at b1 r1 b3
    exact q D acc H' _ b1 fN fB r1 b3
/-- no tests: the elements are zs -/
structure LcM (X : Cx) (ρ : List Sl) (elt : Expr) (scope : Scope) (own : List (Str × Nat)) (T : Tg) (ys zs : List Dat) (Sf : Nat → List Ct) : Prop where
  len : ys.length ≤ 100000
  eq : zs.length = ys.length
  tgt : ∀ i ∈ T.own, i ∈ own.map (·.2)
  mono : ∀ i, (Sf 0).length ≤ (Sf i).length
  turn : ∀ i d z, ys[i]? = some d → zs[i]? = some z → ∃ ρ2, T.St d (wipeR ρ (own.map (·.2))) ρ2 ∧ ∀ c : Cz, EltP X scope fun Y => DE Y c ρ2 (Sf i) elt (.d z) (Sf (i + 1))
theorem dn_elt {x : Dat} (h : EltP X scope fun Y => DE Y c ρ S elt (.d x) S1) : Dn X.K c (tElt X scope elt) ρ S (.d x) S1 := fun σ H O hs sl Q q s0 H0 C cl fp => h s0 H0 C cl fp σ H O hs sl Q q
theorem dnt_tst : DnT X.K c (tTst X scope []) ρ S true S := fun σ H O hs sl Q q s0 H0 C cl fp pins s I => wpAny_tests_nil ⟨H, I, q H [] (by rw [List.append_nil]; exact hs) (by rw [List.append_nil]; exact RX.refl _)⟩
theorem dnt_tst1 {e : Expr} {k : Bool} (h : EltP X scope fun Y => DT Y c ρ S e k S) : DnT X.K c (tTst X scope [e]) ρ S k S := fun σ H O hs sl Q q s0 H0 C cl fp pins s I => wpAny_tests_one (h s0 H0 C cl fp σ H O hs sl Q q pins s I)
theorem LcM.ok {zs : List Dat} {Sf : Nat → List Ct} (L : LcM X ρ elt scope own T ys zs Sf) : LcOk X c ρ elt [] scope own T ys Sf (fun _ => true) (fun i => zs.getD i .non) := by
  refine ⟨L.len, L.tgt, L.mono, fun i d hd => ?_⟩
  have hi : i < zs.length := by
    rw [L.eq]
    exact (List.getElem?_eq_some_iff.mp hd).1
  have hz := List.getElem?_eq_getElem hi
  obtain ⟨ρ2, h1, h2⟩ := L.turn i d _ hd hz
  refine ⟨ρ2, h1, fun c => ⟨dnt_tst, fun _ => ?_, fun z => by cases z⟩⟩
  have e : zs.getD i .non = zs[i] := by rw [List.getD_eq_getElem?_getD, hz]; rfl
  show Dn X.K c _ _ _ (.d (zs.getD i .non)) _
  rw [e]
  exact dn_elt (h2 c)
theorem kept_zs (zs : List Dat) : kept (fun _ => true) (fun i => zs.getD i .non) zs.length = zs := by
  rw [kept_all]
  apply List.ext_getElem?
  intro i
  rw [List.getElem?_map]
  by_cases h : i < zs.length
  · rw [List.getElem?_range h, List.getElem?_eq_getElem h]
    show some (zs.getD i .non) = _
    rw [List.getD_eq_getElem?_getD, List.getElem?_eq_getElem h]
    rfl
  · rw [List.getElem?_eq_none (by rw [List.length_range]; omega), List.getElem?_eq_none (by omega)]
    rfl
theorem pe_elt {ifs : List Expr} : ∀ (s : Shared) (H : Hp) (C : Addr) (cl : List (Str × Addr)) (fp : List Addr), PE (X.blk s H scope (compEnvC scope cl C X.env) fp) elt (tElt X scope elt) := fun s0 H0 C cl fp => ⟨fun pins s σ H Q I h => h s0 H0 C cl fp pins s I⟩
theorem pts_elt {ifs : List Expr} : ∀ (s : Shared) (H : Hp) (C : Addr) (cl : List (Str × Addr)) (fp : List Addr), PTs (X.blk s H scope (compEnvC scope cl C X.env) fp) ifs (tTst X scope ifs) := fun s0 H0 C cl fp => ⟨fun pins s σ H Q I h => h s0 H0 C cl fp pins s I⟩
section
variable {zs : List Dat} {Sf : Nat → List Ct} {ifs : List Expr}
/-- the end of a comprehension, as data or as a list of one's own -/
theorem lc_dat {σ : L2.St} {H : Hp} {O : List Addr} {Q : VK} {n : Nat} {ds : List Dat} (hs : Hs X.K c O S H) (q : PostE X.K c O S H (Sf n) (.d (.lst ds)) Q) :
    ∀ D acc H' O', Hs X.K (cD c D acc) (O ++ O') (Sf n) H' → c.N D = false → c.B D = false → RX (vw c O S H) (vw (cD c D acc) (O ++ O') (Sf n) H') → AtAll X.K (vw (cD c D acc) (O ++ O') (Sf n) H') acc ds → Q (.ref D) H' := fun D acc H' O' a1 a2 a3 a4 a5 =>
  q (.ref D) H' O' (a1.cdEnd hs.ok) (a4.trans (RX.cd a1)) (.lst (.inl (.inl (a1.cdAt a2))) (a5.mono (RX.cd a1)))
theorem lc_own {σ : L2.St} {H : Hp} {O : List Addr} {Q : VK} {n : Nat} {ds : List Dat} (hs : Hs X.K c O S H) (q : PostE X.K c O S H (Sf n ++ [.l ds]) (.o (Sf n).length) Q) :
    ∀ D acc H' O', Hs X.K (cD c D acc) (O ++ O') (Sf n) H' → c.N D = false → c.B D = false → RX (vw c O S H) (vw (cD c D acc) (O ++ O') (Sf n) H') → AtAll X.K (vw (cD c D acc) (O ++ O') (Sf n) H') acc ds → Q (.ref D) H' := fun D acc H' O' a1 a2 a3 a4 a5 => by
  have e0 := a1.cdEnd hs.ok
  have hl := a1.cdLive
  have ev : vw c (O ++ O' ++ [D]) (Sf n ++ [.l ds]) H' = vw (cD c D acc) (O ++ O') (Sf n) H' := by
    funext a
    rw [vw_cD hl]
    have el : live (O ++ O' ++ [D]) (Sf n ++ [Ct.l ds]) = live (O ++ O') (Sf n) ++ [D] := by
      rw [live_append e0.len]
      rfl
    unfold vw
    rw [el]
    by_cases h : a = D
    · subst h; simp
    · simp [h]
  have ne : ∀ (i : Nat) (p : Addr) (t : Ct), (O ++ O')[i]? = some p → (Sf n)[i]? = some t → t.live = true → p ≠ D := fun i p t h1 h2 h3 => a1.cdNe h1 h2 h3
  have cases2 : ∀ (i : Nat) (p : Addr) (u : Ct), (O ++ O' ++ [D])[i]? = some p → (Sf n ++ [Ct.l ds])[i]? = some u → ((O ++ O')[i]? = some p ∧ (Sf n)[i]? = some u) ∨ (i = (O ++ O').length ∧ p = D ∧ u = .l ds) := fun i p u h1 h2 => by
    rcases get_app h1 with ⟨x1, x2⟩ | ⟨x1, x2⟩
    · rcases get_app h2 with ⟨y1, y2⟩ | ⟨y1, y2⟩
      · exact .inl ⟨x2, y2⟩
      · have := e0.len; omega
    · rcases get_app h2 with ⟨y1, y2⟩ | ⟨y1, y2⟩
      · have := e0.len; omega
      · exact .inr ⟨x1, x2, y2⟩
  refine q (.ref D) H' (O' ++ [D]) ?_ ?_ ⟨D, ?_, rfl⟩
  · rw [← List.append_assoc]
    refine ⟨e0.ok, e0.ph, by have := e0.len; simp only [List.length_append, List.length_singleton] at this ⊢; omega, fun i j p t u h1 h2 h3 h4 h5 h6 => ?_, fun i p t h1 h2 => ?_, fun i p t h1 h2 h3 => ?_⟩
    · rcases cases2 i p t h1 h2 with ⟨x1, x2⟩ | ⟨x1, x2, x3⟩
      · rcases cases2 j p u h4 h5 with ⟨y1, y2⟩ | ⟨y1, y2, y3⟩
        · exact e0.nd i j p t u x1 x2 h3 y1 y2 h6
        · exact absurd y2 (ne i p t x1 x2 h3)
      · rcases cases2 j p u h4 h5 with ⟨y1, y2⟩ | ⟨y1, y2, y3⟩
        · exact absurd x2 (ne j p u y1 y2 h6)
        · omega
    · rw [ev]
      rcases cases2 i p t h1 h2 with ⟨x1, x2⟩ | ⟨x1, x2, x3⟩
      · exact a1.cell i p t x1 x2
      · subst x2 x3
        exact ⟨acc, a1.ph.2, a5⟩
    · rcases cases2 i p t h1 h2 with ⟨x1, x2⟩ | ⟨x1, x2, x3⟩
      · exact e0.own i p t x1 x2 h3
      · subst x2
        exact ⟨a2, a3⟩
  · rw [← List.append_assoc, ev]
    exact a4
  · rw [← List.append_assoc, ← e0.len, List.getElem?_append_right (Nat.le_refl _), Nat.sub_self]
    rfl
theorem de_lc (zs : List Dat) (Sf : Nat → List Ct) (own : List (Str × Nat)) (T : Tg) (hI : DI X c ρ S tg iter ys (Sf 0)) (hN : X.N.Nodup) (ok : BlkOk X.N X.env.scope scope own) (hg : EltP X scope fun Y => PG Y tg (T.g Y.K)) (L : LcM X ρ elt scope own T ys zs Sf)
    (hc : X.calm = true := by rfl) (hs0 : ∀ x, foldedSetIterable iter X.env x = pure x := by intro _; rfl) : DE X c ρ S (.ListComp elt [⟨tg, iter, [], 0⟩] scope pos) (.d (.lst zs)) (Sf ys.length) := by
  obtain ⟨wi, pi, di⟩ := hI
  refine de_of (pe_lc (g := T.g X.K) hc hN pi ok (fun s H C cl fp => hg s H C cl fp) (pts_elt (ifs := [])) (pe_elt (ifs := [])) hs0) fun σ H O hs sl Q q => ?_
  have e := kept_zs zs
  rw [L.eq] at e
  refine lc_read L.ok hs sl (di σ H O hs sl) ?_
  rw [e]
  exact lc_dat (σ := σ) hs q
theorem de_lcO (zs : List Dat) (Sf : Nat → List Ct) (own : List (Str × Nat)) (T : Tg) (hI : DI X c ρ S tg iter ys (Sf 0)) (hN : X.N.Nodup) (ok : BlkOk X.N X.env.scope scope own) (hg : EltP X scope fun Y => PG Y tg (T.g Y.K)) (L : LcM X ρ elt scope own T ys zs Sf)
    (hc : X.calm = true := by rfl) (hs0 : ∀ x, foldedSetIterable iter X.env x = pure x := by intro _; rfl) : DE X c ρ S (.ListComp elt [⟨tg, iter, [], 0⟩] scope pos) (.o (Sf ys.length).length) (Sf ys.length ++ [.l zs]) := by
  obtain ⟨wi, pi, di⟩ := hI
  refine de_of (pe_lc (g := T.g X.K) hc hN pi ok (fun s H C cl fp => hg s H C cl fp) (pts_elt (ifs := [])) (pe_elt (ifs := [])) hs0) fun σ H O hs sl Q q => ?_
  have e := kept_zs zs
  rw [L.eq] at e
  refine lc_read L.ok hs sl (di σ H O hs sl) ?_
  rw [e]
  exact lc_own (σ := σ) hs q
/-- [x for x in xs if t(x)] and the like -/
theorem de_lcIf (pf : Nat → Bool) (f : Nat → Dat) (own : List (Str × Nat)) (T : Tg) (hI : DI X c ρ S tg iter ys S1) (hN : X.N.Nodup) (ok : BlkOk X.N X.env.scope scope own) (hg : EltP X scope fun Y => PG Y tg (T.g Y.K)) (L : LcOk X c ρ elt ifs scope own T ys (fun _ => S1) pf f)
    (hc : X.calm = true := by rfl) (hs0 : ∀ x, foldedSetIterable iter X.env x = pure x := by intro _; rfl) : DE X c ρ S (.ListComp elt [⟨tg, iter, ifs, 0⟩] scope pos) (.d (.lst (kept pf f ys.length))) S1 := by
  obtain ⟨wi, pi, di⟩ := hI
  refine de_of (pe_lc (g := T.g X.K) hc hN pi ok (fun s H C cl fp => hg s H C cl fp) pts_elt (pe_elt (ifs := ifs)) hs0) fun σ H O hs sl Q q => ?_
  refine lc_read L hs sl (di σ H O hs sl) ?_
  exact lc_dat (Sf := fun _ => S1) (n := ys.length) (σ := σ) hs q
variable {D : De}
theorem ds_setLc (j : Nat) (zs : List Dat) (Sf : Nat → List Ct) (own : List (Str × Nat)) (T : Tg) {y : Str} {py : Pos} (hsw : swapsWith (.ListComp elt [⟨tg, iter, [], 0⟩] scope pos) (some (.Name y py)) spos.line X.env = pure true) (hI : DI X c ρ S tg iter ys (Sf 0)) (hN : X.N.Nodup) (ok : BlkOk X.N X.env.scope scope own) (hg : EltP X scope fun Y => PG Y tg (T.g Y.K)) (L : LcM X ρ elt scope own T ys zs Sf)
    (hn : D.nx (ρ.set j (.d (.lst zs))) (Sf ys.length)) (hc : X.calm = true := by rfl) (hy : X.N[j]? = some y := by rfl) (hyl : X.env.scope.names.lookup y = some .local := by rfl) (hs0 : ∀ x, foldedSetIterable iter X.env x = pure x := by intro _; rfl) :
    DS X c ρ S (.Assign [.Name y py] (.ListComp elt [⟨tg, iter, [], 0⟩] scope pos) spos) D := by
  obtain ⟨wi, pi, di⟩ := hI
  refine ds_of (ps_setLc (g := T.g X.K) hc hN hy hyl hsw pi ok (fun s H C cl fp => hg s H C cl fp) (pts_elt (ifs := [])) (pe_elt (ifs := [])) hs0) fun σ H O hs sl E q => ?_
  have e := kept_zs zs
  rw [L.eq] at e
  refine lc_read L.ok hs sl (di σ H O hs sl) ?_
  rw [e]
  exact lc_dat (Sf := Sf) (n := ys.length) (σ := σ) (Q := fun v H' => E.nx (σ.set j (some v)) H') hs fun v H' O' a1 a2 a3 => q.nx _ _ _ H' O' hn a1 ((sl.mono a2).set j a3) a2
theorem ds_setLcO (j : Nat) (zs : List Dat) (Sf : Nat → List Ct) (own : List (Str × Nat)) (T : Tg) {y : Str} {py : Pos} (hsw : swapsWith (.ListComp elt [⟨tg, iter, [], 0⟩] scope pos) (some (.Name y py)) spos.line X.env = pure true) (hI : DI X c ρ S tg iter ys (Sf 0)) (hN : X.N.Nodup) (ok : BlkOk X.N X.env.scope scope own) (hg : EltP X scope fun Y => PG Y tg (T.g Y.K)) (L : LcM X ρ elt scope own T ys zs Sf)
    (hn : D.nx (ρ.set j (.o (Sf ys.length).length)) (Sf ys.length ++ [.l zs])) (hc : X.calm = true := by rfl) (hy : X.N[j]? = some y := by rfl) (hyl : X.env.scope.names.lookup y = some .local := by rfl) (hs0 : ∀ x, foldedSetIterable iter X.env x = pure x := by intro _; rfl) :
    DS X c ρ S (.Assign [.Name y py] (.ListComp elt [⟨tg, iter, [], 0⟩] scope pos) spos) D := by
  obtain ⟨wi, pi, di⟩ := hI
  refine ds_of (ps_setLc (g := T.g X.K) hc hN hy hyl hsw pi ok (fun s H C cl fp => hg s H C cl fp) (pts_elt (ifs := [])) (pe_elt (ifs := [])) hs0) fun σ H O hs sl E q => ?_
  have e := kept_zs zs
  rw [L.eq] at e
  refine lc_read L.ok hs sl (di σ H O hs sl) ?_
  rw [e]
  exact lc_own (Sf := Sf) (n := ys.length) (σ := σ) (Q := fun v H' => E.nx (σ.set j (some v)) H') hs fun v H' O' a1 a2 a3 => q.nx _ _ _ H' O' hn a1 ((sl.mono a2).set j a3) a2
end
end
end Tw
end
section
set_option Elab.async false
set_option linter.all false
set_option maxRecDepth 100000
set_option maxHeartbeats 1000000
/-! TwCall: calls of defs by their promises, built-ins, changes of own cells. -/
namespace Tw
open PySem PySem.Spec PyProof.Rows L2
open Evl (Ex)

/-! ### promises -/
/-- from a heap on: all that stands stays; N is hidden -/
def cB (H : Hp) (N : Addr → Bool) : Cz := ⟨fun H' => Ex H H', N, fun a => (H a).isSome⟩
theorem cB_ok {H : Hp} {N : Addr → Bool} (hN : ∀ a, N a = true → ∃ u, H a = some u ∧ ∀ xs, u ≠ .tup xs) : (cB H N).Ok := by
  have fr0 : ∀ H' q, Ex H H' → H' q = none → H q = none := fun H' q e hq => Evl.fresh_back e hq
  refine ⟨fun H1 H2 a e => Ex.trans a e, fun H1 q a hq => ?_, fun p hp H1 o a => ?_, fun H1 q a hn xs hq => ?_⟩
  · have h0 := fr0 H1 q a hq
    refine ⟨?_, by show (H q).isSome = false; rw [h0]; rfl⟩
    cases h : N q with
    | false => exact h
    | true =>
      obtain ⟨u, e, _⟩ := hN q h
      rw [h0] at e; cases e
  · have hp' : (H p).isSome = false := hp
    have h0 : H p = none := by
      cases q : H p with
      | none => rfl
      | some u => rw [q] at hp'; cases hp'
    exact Ex.mut a h0
  · obtain ⟨u, e, ne⟩ := hN q hn
    have := a q u e
    rw [hq] at this
    exact ne xs (Option.some.inj this).symm
/-- what is hidden to a callee -/
def hid (c : Cz) (O : List Addr) (S : List Ct) (H : Hp) : Addr → Bool := fun a => (H a).isSome && (vw c O S H a).isNone
/-- the view of a callee at its entry and at its end -/
def vN (N : Addr → Bool) (H : Hp) : Hp := fun a => if N a = true then none else H a
theorem vw_nil {c : Cz} {H : Hp} : vw c [] [] H = vN c.N H := by
  funext a
  unfold vw vN
  have e : (c.N a = true ∨ a ∈ live [] []) = (c.N a = true) := by
    apply propext
    constructor
    · rintro (h | h)
      · exact h
      · exact absurd h (by simp [live])
    · exact .inl
  simp only [e]
section
variable {K : PySem.W.Frag} {c : Cz} {O : List Addr} {S : List Ct} {H H' : Hp}
theorem Hs.hidOk (h : Hs K c O S H) : ∀ a, hid c O S H a = true → ∃ u, H a = some u ∧ ∀ xs, u ≠ .tup xs := fun a ha => by
  unfold hid at ha
  rw [Bool.and_eq_true] at ha
  obtain ⟨h1, h2⟩ := ha
  cases q : H a with
  | none => rw [q] at h1; cases h1
  | some u =>
    refine ⟨u, rfl, fun xs z => ?_⟩
    subst z
    rw [h.st q] at h2; cases h2
theorem RX.into : RX (vw c O S H) (vN (hid c O S H) H) := RX.ex fun a o h => by
  obtain ⟨h1, h2, h3⟩ := vw_some h
  unfold vN hid
  rw [if_neg (by rw [h]; simp)]
  exact h1
theorem RX.outOf (hs : Hs K c O S H) (e : Ex H H') : RX (vN (hid c O S H) H') (vw c O S H') := RX.ex fun a o h => by
  unfold vN at h
  split at h
  · cases h
  · rename_i n
    have hn : hid c O S H a = false := by simpa using n
    rw [vw_of]
    · exact h
    · cases q : c.N a with
      | false => rfl
      | true =>
        cases q2 : H a with
        | none =>
          have := (hs.ok.fr H a hs.ph q2).1
          rw [q] at this; cases this
        | some u =>
          unfold hid at hn
          rw [q2] at hn
          have : vw c O S H a = none := by unfold vw; rw [if_pos (.inl q)]
          rw [this] at hn
          cases hn
    · intro z
      obtain ⟨u, e1, _⟩ := hs.liveSome z
      unfold hid at hn
      rw [e1] at hn
      have : vw c O S H a = none := by unfold vw; rw [if_pos (.inr z)]
      rw [this] at hn
      cases hn
end
/-- the promise of a def that changes nothing: R says of which data which comes -/
def spP (K : PySem.W.Frag) (R : List Dat → Dat → Prop) : Sp := fun vs H Q _ => ∃ (N : Addr → Bool) (ds : List Dat) (r : Dat), (∀ a, N a = true → ∃ u, H a = some u ∧ ∀ xs, u ≠ .tup xs) ∧ AtAll K (vN N H) vs ds ∧ R ds r ∧ ∀ H' v, Ex H H' → At K (vN N H') v r → Q v H'
/-- the promise of a def that takes digits from a pile, its first argument -/
def spM (K : PySem.W.Frag) (R : Int → List Dat → Dat → Int → Prop) : Sp := fun vs H Q _ => ∃ (N : Addr → Bool) (p : Addr) (ws : List V) (n n' : Int) (ds : List Dat) (r : Dat), vs = .ref p :: ws ∧ H p = some (.lst [.int n]) ∧ N p = true ∧ (∀ a, N a = true → ∃ u, H a = some u ∧ ∀ xs, u ≠ .tup xs) ∧
  AtAll K (vN N H) ws ds ∧ R n ds r n' ∧ ∀ H' v, (∀ a o, a ≠ p → H a = some o → H' a = some o) → H' p = some (.lst [.int n']) → At K (vN N H') v r → Q v H'
/-- a def that stands as the module's x, and its promise -/
structure Cal (P : Program) (w : World) (K : PySem.W.Frag) (mg : Str → Option Value) (base : Heap) (k : Nat) (x : Str) (sp : Sp) : Prop where
  ex : ∃ f fd ps, FnOk P w K mg base CX0 k f fd ps sp ∧ mg x = some (.ref f) ∧ PySem.W.keepIn K (.ref f) = true ∧ Binds K fd ps []
section
variable {X : Cx} {c : Cz} {ρ : List Sl} {S S1 S2 : List Ct} {e : Expr} {es : List Expr} {rs : List Sl} {ds : List Dat} {d : Dat} {x : Str} {p pos : Pos} {k : Nat}
theorem de_call {R : List Dat → Dat → Prop} (C : Cal X.prog X.w X.K X.mg X.base k x (spP X.K R)) (hr : Room k X.A) (hA : DA X c ρ S (e :: es) rs S1) (hd : Dats rs ds) (hR : R ds d) (hx : X.xe = fun _ _ => False := by rfl) (hg : Gl X x := by rfl)
    (hdb : (x == ("__debug__" : Str)) = false := by decide) (he : starEach (e :: es) X.env = (false, eval e X.env) :: starEach es X.env := by rfl) (hpl : (backTo pos (starEach es X.env)).any (·.1) = false := by rfl) : DE X c ρ S (.Call (.Name x p) (e :: es) [] pos) (.d d) S1 := by
  obtain ⟨f, fd, ps, F, hm, hk, hb⟩ := C.ex
  refine de_of (pe_call F hr hg hm hk hb .nil (E := E0) pass0 pa_tW hdb he hpl) fun σ H O hs sl Q q => ?_
  refine hA σ H O hs sl _ fun vs H1 O1 a1 a2 a3 => ?_
  rw [hd.eq] at a3
  rw [List.append_nil]
  refine ⟨hid c (O ++ O1) S1 H1, ds, d, a1.hidOk, a3.all.mono RX.into, hR, fun H' v e1 e2 => ?_⟩
  exact q v H' O1 (a1.ex e1) (a2.trans (RX.vw_ex e1)) (At.mono (RX.outOf a1 e1) e2)
/-- a call that takes from a pile -/
theorem de_callM {R : Int → List Dat → Dat → Int → Prop} {i : Nat} {n n' : Int} (C : Cal X.prog X.w X.K X.mg X.base k x (spM X.K R)) (hr : Room k X.A) (hA : DA X c ρ S (e :: es) (.o i :: rs) S1) (hd : Dats rs ds) (hi : S1[i]? = some (.l [.int n])) (hR : R n ds d n') (hg : Gl X x := by rfl)
    (hdb : (x == ("__debug__" : Str)) = false := by decide) (he : starEach (e :: es) X.env = (false, eval e X.env) :: starEach es X.env := by rfl) (hpl : (backTo pos (starEach es X.env)).any (·.1) = false := by rfl) : DE X c ρ S (.Call (.Name x p) (e :: es) [] pos) (.d d) (S1.set i (.l [.int n'])) := by
  obtain ⟨f, fd, ps, F, hm, hk, hb⟩ := C.ex
  refine de_of (pe_call F hr hg hm hk hb .nil (E := E0) pass0 pa_tW hdb he hpl) fun σ H O hs sl Q q => ?_
  refine hA σ H O hs sl _ fun vs H1 O1 a1 a2 a3 => ?_
  obtain ⟨v0, ws, e1, ⟨pp, e2, e3⟩, a4⟩ := a3
  subst e3 e1
  rw [hd.eq] at a4
  rw [List.append_nil]
  obtain ⟨us, c1, c2⟩ := a1.cell i pp _ e2 hi
  have eu : us = [.int n] := by
    cases c2 with
    | cons x y =>
      cases x; cases y; rfl
  subst eu
  have hlive : pp ∈ live (O ++ O1) S1 := mem_live.mpr ⟨i, _, e2, hi, rfl⟩
  have hNp : hid c (O ++ O1) S1 H1 pp = true := by
    unfold hid
    rw [c1]
    have : vw c (O ++ O1) S1 H1 pp = none := by unfold vw; rw [if_pos (.inr hlive)]
    rw [this]; rfl
  refine ⟨hid c (O ++ O1) S1 H1, pp, ws, n, n', ds, d, rfl, c1, hNp, a1.hidOk, a4.all.mono RX.into, hR, fun H' v f1 f2 f3 => ?_⟩
  -- the heap is the old one but at the pile
  have hH : H' = upd H' pp (.lst [.int n']) := by
    funext a
    by_cases h : a = pp
    · subst h; rw [upd_same]; exact f2
    · rw [upd_ne h]
  have g0 : Ex (upd H1 pp (.lst [.int n'])) H' := fun a o h => by
    by_cases z : a = pp
    · subst z; rw [upd_same] at h; rw [f2]; exact h
    · rw [upd_ne z] at h; exact f1 a o z h
  have g1 : Hs X.K c (O ++ O1) (S1.set i (.l [.int n'])) (upd H1 pp (.lst [.int n'])) := a1.set e2 hi rfl rfl ⟨_, upd_same, .cons (.int n') .nil⟩
  have gv : vw c (O ++ O1) (S1.set i (.l [.int n'])) (upd H1 pp (.lst [.int n'])) = vw c (O ++ O1) S1 H1 := vw_set e2 hi rfl rfl
  have gx : RX (vw c (O ++ O1) S1 H1) (vw c (O ++ O1) (S1.set i (.l [.int n'])) H') := by
    have := RX.vw_ex (c := c) (O := O ++ O1) (S := S1.set i (.l [.int n'])) g0
    rw [gv] at this
    exact this
  refine q v H' O1 (g1.ex g0) (a2.trans gx) ?_
  have hh : hid c (O ++ O1) S1 H1 = hid c (O ++ O1) (S1.set i (.l [.int n'])) (upd H1 pp (.lst [.int n'])) := by
    funext a
    unfold hid
    rw [gv]
    by_cases z : a = pp
    · subst z; rw [upd_same, c1]; rfl
    · rw [upd_ne z]
  rw [hh] at f3
  exact At.mono (RX.outOf g1 g0) f3
end

/-! ### a def's promise from its body -/
abbrev BX (P : Program) (w : World) (K : PySem.W.Frag) (mg : Str → Option Value) (base : Heap) (N : List Str) (qual : Str) (st : Stmt) (f : Addr) (cdv : Value) (A : Around) (outer : List Env) (s : Shared) (H : Hp) (E : XK) : Cx := (cxOf CX0 P w K mg base N qual (defScope st) f cdv A outer s H E).nox
def slots0 (n : Nat) (ds : List Dat) : List Sl := ds.map .d ++ List.replicate (n - ds.length) .un
theorem start_ok {K : PySem.W.Frag} {Hm : Hp} {vs : List V} {N : List Str} {ds : List Dat} (h : AtAll K Hm vs ds) (hn : ds.length ≤ N.length) : SlOk K [] Hm (slots0 N.length ds) (L2.start N vs) := by
  have hl := h.length
  refine ⟨?_, fun i r h1 h2 => ?_⟩
  · unfold L2.start slots0
    simp only [List.length_append, List.length_map, List.length_replicate]
    omega
  · unfold slots0 at h1
    by_cases hi : i < ds.length
    · rw [List.getElem?_append_left (by rw [List.length_map]; exact hi), List.getElem?_map, List.getElem?_eq_getElem hi] at h1
      cases h1
      obtain ⟨v, e1, e2⟩ := h.get (List.getElem?_eq_getElem hi)
      refine ⟨v, ?_, e2⟩
      unfold L2.start
      rw [List.getElem?_append_left (by rw [List.length_map, hl]; exact hi), List.getElem?_map, e1]
      rfl
    · have h3 := (List.getElem?_eq_some_iff.mp h1).1
      rw [List.getElem?_append_right (by rw [List.length_map]; omega)] at h1
      have h4 := List.mem_of_getElem? h1
      exact absurd (List.eq_of_mem_replicate h4) h2
/-- the end of a body that hands back the data r -/
def Ret (r : Dat) : De := { nx := fun _ _ => r = .non, rt := fun z _ => z = .d r }
section
variable {P : Program} {w : World} {K : PySem.W.Frag} {mg : Str → Option Value} {base : Heap}
theorem cal_of {x : Str} {st : Stmt} {f : Addr} {fd : FuncData} {N ps : List Str} {k : Nat} {R : List Dat → Dat → Prop} (F : Fun K x x st f fd) (gm : mg x = some (.ref f)) (hb : Binds K fd ps []) (Sc : FnScope N ps (defScope st)) (hn : ps.length ≤ N.length) (hl : ∀ ds r, R ds r → ds.length = ps.length)
    (body : ∀ (cdv : Value) (A : Around) (outer : List Env) (s : Shared) (H : Hp) (E : XK), Room k (BX P w K mg base N x st f cdv A outer s H E).A → ∀ (c : Cz) (ds : List Dat) (r : Dat), R ds r → DSs (BX P w K mg base N x st f cdv A outer s H E) c (slots0 N.length ds) [] (defBody st) (Ret r)) :
    Cal P w K mg base (k + 1) x (spP K R) := by
  refine ⟨f, fd, ps, F.ok Sc (fun vs H Q E h => ?_) (fun cdv A outer s H vs Q E hr h => ?_), gm, F.kp, hb⟩
  · obtain ⟨Nn, ds, r, _, h2, h3, _⟩ := h
    rw [h2.length]
    exact hl ds r h3
  · obtain ⟨Nn, ds, r, h1, h2, h3, q⟩ := h
    refine ⟨_, pss_tW, ?_⟩
    have B := body cdv A outer s H E hr (cB H Nn) ds r h3
    have ok := cB_ok h1
    have hs : Hs K (cB H Nn) [] [] H := ⟨ok, Ex.refl H, rfl, fun i j p t u a => by simp at a, fun i p t a => by simp at a, fun i p t a => by simp at a⟩
    refine B (L2.start N vs) H [] hs ?_ _ ⟨fun ρ' S' σ' H' O' e1 a1 a2 a3 => ?_, fun z S' v H' O' e1 a1 a2 a3 => ?_, fun _ _ _ _ _ z => z.elim, fun _ _ _ _ _ z => z.elim⟩
    · have e0 : vw (cB H Nn) [] [] H = vN Nn H := vw_nil
      rw [e0]
      exact start_ok h2 (by rw [hl ds r h3]; exact hn)
    · have e1' : r = .non := e1
      subst e1'
      exact q H' .non a1.ph .non
    · have e1' : z = .d r := e1
      subst e1'
      refine q H' v a1.ph (At.mono (RX.ex fun a o h => ?_) (show At K _ v r from a3))
      obtain ⟨g1, g2, _⟩ := vw_some h
      have g2' : Nn a = false := g2
      unfold vN
      rw [if_neg (by rw [g2']; decide)]
      exact g1
/-- the pile's def: slot 0 holds the pile -/
def slotsM (n : Nat) (ds : List Dat) : List Sl := .o 0 :: slots0 (n - 1) ds
def RetM (r : Dat) (n : Int) : De := { nx := fun _ _ => False, rt := fun z S => z = .d r ∧ S[0]? = some (.l [.int n]) }
/-- all but the pile stays -/
def cM (H : Hp) (p : Addr) (N : Addr → Bool) : Cz := ⟨fun H' => ∀ a o, a ≠ p → H a = some o → H' a = some o, fun a => N a && !decide (a = p), fun a => (H a).isSome && !decide (a = p)⟩
theorem cM_ok {H : Hp} {p : Addr} {N : Addr → Bool} (hN : ∀ a, N a = true → ∃ u, H a = some u ∧ ∀ xs, u ≠ .tup xs) : (cM H p N).Ok := by
  refine ⟨fun H1 H2 a e b o ne h => e b o (a b o ne h), fun H1 q a hq => ?_, fun b hb H1 o a => ?_, fun H1 q a hn xs hq => ?_⟩
  · by_cases z : q = p
    · subst z
      exact ⟨by show (N q && !decide (q = q)) = false; simp, by show ((H q).isSome && !decide (q = q)) = false; simp⟩
    · have h0 : H q = none := by
        cases h : H q with
        | none => rfl
        | some u =>
          have := a q u z h
          rw [hq] at this; cases this
      refine ⟨?_, by show ((H q).isSome && !decide (q = p)) = false; rw [h0]; rfl⟩
      show (N q && !decide (q = p)) = false
      cases h : N q with
      | false => rfl
      | true =>
        obtain ⟨u, e, _⟩ := hN q h
        rw [h0] at e; cases e
  · intro d u ne h
    have hb' : ((H b).isSome && !decide (b = p)) = false := hb
    by_cases z : d = b
    · subst z
      rw [h, decide_eq_false ne] at hb'
      cases hb'
    · rw [upd_ne z]; exact a d u ne h
  · have hn' : (N q && !decide (q = p)) = true := hn
    rw [Bool.and_eq_true, Bool.not_eq_true', decide_eq_false_iff_not] at hn'
    obtain ⟨u, e, ne⟩ := hN q hn'.1
    have := a q u hn'.2 e
    rw [hq] at this
    exact ne xs (Option.some.inj this).symm
theorem cal_ofM {x : Str} {st : Stmt} {f : Addr} {fd : FuncData} {N ps : List Str} {k : Nat} {R : Int → List Dat → Dat → Int → Prop} (F : Fun K x x st f fd) (gm : mg x = some (.ref f)) (hb : Binds K fd ps []) (Sc : FnScope N ps (defScope st)) (hn : ps.length ≤ N.length) (hl : ∀ n ds r n', R n ds r n' → ds.length + 1 = ps.length)
    (body : ∀ (cdv : Value) (A : Around) (outer : List Env) (s : Shared) (H : Hp) (E : XK), Room k (BX P w K mg base N x st f cdv A outer s H E).A → ∀ (c : Cz) (n n' : Int) (ds : List Dat) (r : Dat), R n ds r n' → DSs (BX P w K mg base N x st f cdv A outer s H E) c (slotsM N.length ds) [.l [.int n]] (defBody st) (RetM r n')) :
    Cal P w K mg base (k + 1) x (spM K R) := by
  refine ⟨f, fd, ps, F.ok Sc (fun vs H Q E h => ?_) (fun cdv A outer s H vs Q E hr h => ?_), gm, F.kp, hb⟩
  · obtain ⟨Nn, p, ws, n, n', ds, r, e1, _, _, _, h2, h3, _⟩ := h
    rw [e1, List.length_cons, h2.length]
    exact hl n ds r n' h3
  · obtain ⟨Nn, p, ws, n, n', ds, r, e1, hp, hNp, h1, h2, h3, q⟩ := h
    subst e1
    refine ⟨_, pss_tW, ?_⟩
    have B := body cdv A outer s H E hr (cM H p Nn) n n' ds r h3
    have ok := cM_ok (p := p) h1
    have hv : vw (cM H p Nn) [p] [.l [.int n]] H = vN Nn H := by
      funext a
      unfold vw vN
      have e : ((cM H p Nn).N a = true ∨ a ∈ live [p] [Ct.l [.int n]]) = (Nn a = true) := by
        show ((Nn a && !decide (a = p)) = true ∨ a ∈ [p]) = _
        apply propext
        constructor
        · rintro (z | z)
          · rw [Bool.and_eq_true] at z; exact z.1
          · rw [List.mem_singleton] at z; rw [z]; exact hNp
        · intro z
          by_cases y : a = p
          · exact .inr (by rw [y]; exact List.mem_singleton_self p)
          · exact .inl (by rw [z, decide_eq_false y]; rfl)
      simp only [e]
    have hs : Hs K (cM H p Nn) [p] [.l [.int n]] H := by
      refine ⟨ok, fun a o _ h => h, rfl, fun i j b t u a1 a2 a3 a4 a5 a6 => ?_, fun i b t a1 a2 => ?_, fun i b t a1 a2 a3 => ?_⟩
      · have h1 := (List.getElem?_eq_some_iff.mp a1).1
        have h2 := (List.getElem?_eq_some_iff.mp a4).1
        simp at h1 h2
        omega
      · have h1 := (List.getElem?_eq_some_iff.mp a1).1
        have hi : i = 0 := by simp at h1; omega
        subst hi
        simp at a1 a2
        subst a1 a2
        exact ⟨_, hp, .cons (.int n) .nil⟩
      · have h1 := (List.getElem?_eq_some_iff.mp a1).1
        have hi : i = 0 := by simp at h1; omega
        subst hi
        simp at a1
        subst a1
        exact ⟨by show (Nn p && !decide (p = p)) = false; simp, by show ((H p).isSome && !decide (p = p)) = false; simp⟩
    have hps := hl n ds r n' h3
    refine B (L2.start N (.ref p :: ws)) H [p] hs ?_ _ ⟨fun ρ' S' σ' H' O' e1 a1 a2 a3 => e1.elim, fun z S' v H' O' e1 a1 a2 a3 => ?_, fun _ _ _ _ _ z => z.elim, fun _ _ _ _ _ z => z.elim⟩
    · rw [hv]
      cases N with
      | nil => rw [List.length_nil] at hn; omega
      | cons y N' =>
        have s0 := start_ok (N := N') h2 (by rw [List.length_cons] at hn; omega)
        have es : L2.start (y :: N') (.ref p :: ws) = some (.ref p) :: L2.start N' ws := by
          unfold L2.start
          rw [List.map_cons, List.cons_append, List.length_cons, List.length_cons, Nat.add_sub_add_right]
        rw [es]
        show SlOk K [p] _ (.o 0 :: slots0 ((y :: N').length - 1) ds) _
        rw [List.length_cons, Nat.add_sub_cancel]
        refine ⟨by rw [List.length_cons, List.length_cons, s0.len], fun i r' g1 g2 => ?_⟩
        cases i with
        | zero =>
          simp at g1
          subst g1
          exact ⟨.ref p, rfl, p, rfl, rfl⟩
        | succ i =>
          obtain ⟨v, k1, k2⟩ := s0.at' i r' (by simpa using g1) g2
          refine ⟨v, by simpa using k1, ?_⟩
          cases r' with
          | un => trivial
          | d x => exact k2
          | o j =>
            obtain ⟨b, z, _⟩ := k2
            simp at z
    · obtain ⟨e1', e2⟩ := (show z = .d r ∧ S'[0]? = some (.l [.int n']) from e1)
      subst e1'
      obtain ⟨us, c1, c2⟩ := a1.cell 0 p _ (by simp) e2
      have eu : us = [.int n'] := by
        cases c2 with
        | cons x y =>
          cases x; cases y; rfl
      subst eu
      refine q H' v a1.ph c1 (At.mono (RX.ex fun a o h => ?_) (show At K _ v r from a3))
      obtain ⟨g1, g2, g3⟩ := vw_some h
      have ne : a ≠ p := fun z => g3 (by rw [z]; exact mem_live.mpr ⟨0, _, by simp, e2, rfl⟩)
      have g2' : (Nn a && !decide (a = p)) = false := g2
      rw [decide_eq_false ne] at g2'
      unfold vN
      rw [if_neg (by intro z; rw [z] at g2'; cases g2')]
      exact g1
end

/-! ### built-ins by name -/
section
variable {X : Cx} {c : Cz} {ρ : List Sl} {S S1 S2 S3 : List Ct} {e a b o : Expr} {es : List Expr} {r ra rb rz : Sl} {rs : List Sl} {p pos pos' apos cpos : Pos} {x : Str} {i : Int}
def DoA (K : PySem.W.Frag) (c : Cz) (g : List V → Hp → VK → Prop) (S : List Ct) (rs : List Sl) (rz : Sl) (S' : List Ct) : Prop :=
  ∀ vs H O, Hs K c O S H → VsOk K O (vw c O S H) rs vs → ∀ Q, PostE K c O S H S' rz Q → g vs H Q
theorem de_callB {id : String} {g : List V → Hp → VK → Prop} (hc : CallR X (.builtin id) g) (hm : X.mg x = none) (hv : bootBuiltins x = some (.builtin id)) (hA : DA X c ρ S (e :: es) rs S1) (h : DoA X.K c g S1 rs rz S2) (hg : Gl X x := by rfl) (hn : x ≠ "__name__" := by decide) (hdb : (x == ("__debug__" : Str)) = false := by decide)
    (he : starEach (e :: es) X.env = (false, eval e X.env) :: starEach es X.env := by rfl) (hpl : (backTo pos (starEach es X.env)).any (·.1) = false := by rfl) : DE X c ρ S (.Call (.Name x p) (e :: es) [] pos) rz S2 :=
  de_of (pe_callB hc hg hm hv pa_tW hn hdb he hpl) fun σ H O hs sl Q q => hA σ H O hs sl _ fun vs H1 O1 a1 a2 a3 => h vs H1 _ a1 a3 Q (q.step a2)
theorem de_callTy {T : String} {g : List V → Hp → VK → Prop} (hc : CallR X (.type T) g) (hm : X.mg x = none) (hv : bootBuiltins x = some (.type T)) (hA : DA X c ρ S (e :: es) rs S1) (h : DoA X.K c g S1 rs rz S2) (hg : Gl X x := by rfl) (hn : x ≠ "__name__" := by decide) (hdb : (x == ("__debug__" : Str)) = false := by decide)
    (he : starEach (e :: es) X.env = (false, eval e X.env) :: starEach es X.env := by rfl) (hpl : (backTo pos (starEach es X.env)).any (·.1) = false := by rfl) : DE X c ρ S (.Call (.Name x p) (e :: es) [] pos) rz S2 :=
  de_of (pe_callTy hc hg hm hv pa_tW hn hdb he hpl) fun σ H O hs sl Q q => hA σ H O hs sl _ fun vs H1 O1 a1 a2 a3 => h vs H1 _ a1 a3 Q (q.step a2)
theorem VsOk.one {K : PySem.W.Frag} {O : List Addr} {Hm : Hp} {vs : List V} (h : VsOk K O Hm [r] vs) : ∃ v, vs = [v] ∧ VOk K O Hm r v := by
  obtain ⟨v, ws, e1, h1, h2⟩ := h
  have h2' : ws = [] := h2
  subst h2'
  exact ⟨v, e1, h1⟩
theorem VsOk.two {K : PySem.W.Frag} {O : List Addr} {Hm : Hp} {vs : List V} (h : VsOk K O Hm [ra, rb] vs) : ∃ v w, vs = [v, w] ∧ VOk K O Hm ra v ∧ VOk K O Hm rb w := by
  obtain ⟨v, ws, e1, h1, h2⟩ := h
  obtain ⟨w, e2, h3⟩ := h2.one
  subst e2
  exact ⟨v, w, e1, h1, h3⟩
theorem de_abs (hm : X.mg "abs" = none) (h : DA X c ρ S (e :: es) [.d (.int i)] S1) (hg : Gl X "abs" := by rfl) (he : starEach (e :: es) X.env = (false, eval e X.env) :: starEach es X.env := by rfl) (hpl : (backTo pos (starEach es X.env)).any (·.1) = false := by rfl) :
    DE X c ρ S (.Call (.Name "abs" p) (e :: es) [] pos) (.d (.int (i.natAbs : Nat))) S1 := de_callB call_abs hm (by decide +kernel) h (fun vs H O hs hv Q q => by
  obtain ⟨v, e1, h1⟩ := hv.one
  cases h1
  refine ⟨i, e1, ?_⟩
  have ei : (if i < 0 then -i else i) = ((i.natAbs : Nat) : Int) := by split <;> omega
  rw [ei]
  exact q.here hs (.int _)) hg (he := he) (hpl := hpl)
/-- len -/
def lenD : Dat → Option Nat
  | .lst ds => some ds.length
  | .tup ds => some ds.length
  | .st ns => some ns.length
  | _ => none
theorem de_len {d : Dat} {n : Nat} (hm : X.mg "len" = none) (h : DA X c ρ S (e :: es) [.d d] S1) (hl : lenD d = some n) (hg : Gl X "len" := by rfl) (he : starEach (e :: es) X.env = (false, eval e X.env) :: starEach es X.env := by rfl) (hpl : (backTo pos (starEach es X.env)).any (·.1) = false := by rfl) :
    DE X c ρ S (.Call (.Name "len" p) (e :: es) [] pos) (.d (.int (n : Nat))) S1 := de_callB call_len hm PySem.boot_len h (fun vs H O hs hv Q q => by
  obtain ⟨v, e1, h1⟩ := hv.one
  have h1' : At X.K _ v d := h1
  refine ⟨v, n, e1, ?_, q.here hs (.int _)⟩
  cases h1' with
  | lst a1 a2 => cases hl; exact .inl ⟨_, vw_le.l a1, a2.length.symm⟩
  | tup a1 a2 => cases hl; exact .inr ⟨_, vw_le.t a1, a2.length.symm⟩
  | st a1 => cases hl; exact .inr ⟨_, .inl (.inl (vw_le.tp _ _ a1)), by rw [List.length_map]⟩
  | _ => cases hl) hg (he := he) (hpl := hpl)
theorem de_lenO {k : Nat} {ds : List Dat} (hm : X.mg "len" = none) (h : DA X c ρ S (e :: es) [.o k] S1) (hk : S1[k]? = some (.l ds)) (hg : Gl X "len" := by rfl) (he : starEach (e :: es) X.env = (false, eval e X.env) :: starEach es X.env := by rfl) (hpl : (backTo pos (starEach es X.env)).any (·.1) = false := by rfl) :
    DE X c ρ S (.Call (.Name "len" p) (e :: es) [] pos) (.d (.int (ds.length : Nat))) S1 := de_callB call_len hm PySem.boot_len h (fun vs H O hs hv Q q => by
  obtain ⟨v, e1, ⟨pp, e2, e3⟩⟩ := hv.one
  subst e3
  obtain ⟨us, c1, c2⟩ := hs.cell k pp _ e2 hk
  exact ⟨_, ds.length, e1, .inl ⟨us, .inl (.inl c1), c2.length.symm⟩, q.here hs (.int _)⟩) hg (he := he) (hpl := hpl)
/-- len of a dict with keys that are states -/
def rLenTR : List V → Hp → VK → Prop := fun xs H Q => ∃ (p : Addr) (kvs : List (List Key × V)), xs = [.ref p] ∧ Rd H p (.dT kvs) ∧ Q (.int ((kvs.length : Nat) : Int)) H
theorem call_len_dTR : CallR X (.builtin "len") rLenTR := by
  intro pins s σ H xs us Q I r h
  obtain ⟨p, kvs, rfl, hp, q⟩ := h
  obtain ⟨u, rfl, rx⟩ := vals1 r
  cases rx
  obtain ⟨z, hd, ks, rel, dd⟩ := dt_rd I.hok hp
  have hl : kvs.length = ks.length := Paired.length rel
  refine call_len_dictH hd dd (by have := line63; omega) ?_
  rw [← hl]
  exact ⟨.int _, H, (I.tok _).tok _, ⟨_, rfl⟩, q⟩
theorem de_lenM {kvs : List (List Int × Dat)} (hm : X.mg "len" = none) (h : DA X c ρ S (e :: es) [.d (.dic kvs)] S1) (hg : Gl X "len" := by rfl) (he : starEach (e :: es) X.env = (false, eval e X.env) :: starEach es X.env := by rfl) (hpl : (backTo pos (starEach es X.env)).any (·.1) = false := by rfl) :
    DE X c ρ S (.Call (.Name "len" p) (e :: es) [] pos) (.d (.int (kvs.length : Nat))) S1 := de_callB call_len_dTR hm PySem.boot_len h (fun vs H O hs hv Q q => by
  obtain ⟨v, e1, h1⟩ := hv.one
  have h1' : At X.K _ v (.dic kvs) := h1
  cases h1' with
  | dic a1 a2 =>
    refine ⟨_, _, e1, vw_le.rd _ _ a1, ?_⟩
    rw [a2.length]
    exact q.here hs (.int _)) hg (he := he) (hpl := hpl)
theorem de_lenMo {k : Nat} {kvs : List (List Int × Dat)} (hm : X.mg "len" = none) (h : DA X c ρ S (e :: es) [.o k] S1) (hk : S1[k]? = some (.m kvs)) (hg : Gl X "len" := by rfl) (he : starEach (e :: es) X.env = (false, eval e X.env) :: starEach es X.env := by rfl) (hpl : (backTo pos (starEach es X.env)).any (·.1) = false := by rfl) :
    DE X c ρ S (.Call (.Name "len" p) (e :: es) [] pos) (.d (.int (kvs.length : Nat))) S1 := de_callB call_len_dTR hm PySem.boot_len h (fun vs H O hs hv Q q => by
  obtain ⟨v, e1, ⟨pp, e2, e3⟩⟩ := hv.one
  subst e3
  obtain ⟨us, c1, c2⟩ := hs.cell k pp _ e2 hk
  refine ⟨_, _, e1, .inl c1, ?_⟩
  rw [c2.length]
  exact q.here hs (.int _)) hg (he := he) (hpl := hpl)
theorem atall_bl {K : PySem.W.Frag} {H : Hp} {vs : List V} {bs : List Bool} (h : AtAll K H vs (bs.map .bl)) : vs = bs.map V.bl := by
  induction bs generalizing vs with
  | nil => cases h; rfl
  | cons b bs ih =>
    cases h with
    | cons x y => cases x; rw [ih y]; rfl
theorem atall_int {K : PySem.W.Frag} {H : Hp} {vs : List V} {ns : List Int} (h : AtAll K H vs (ns.map .int)) : vs = ns.map V.int := by
  induction ns generalizing vs with
  | nil => cases h; rfl
  | cons b bs ih =>
    cases h with
    | cons x y => cases x; rw [ih y]; rfl
theorem de_all {bs : List Bool} (hm : X.mg "all" = none) (h : DA X c ρ S (e :: es) [.d (.lst (bs.map .bl))] S1) (hc : X.calm = true := by rfl) (hg : Gl X "all" := by rfl) (he : starEach (e :: es) X.env = (false, eval e X.env) :: starEach es X.env := by rfl) (hpl : (backTo pos (starEach es X.env)).any (·.1) = false := by rfl) :
    DE X c ρ S (.Call (.Name "all" p) (e :: es) [] pos) (.d (.bl (bs.all id))) S1 := de_callB (cr_all hc) hm (by decide +kernel) h (fun vs H O hs hv Q q => by
  obtain ⟨v, e1, h1⟩ := hv.one
  have h1' : At X.K _ v (.lst (bs.map .bl)) := h1
  cases h1' with
  | lst a1 a2 =>
    rw [atall_bl a2] at a1
    exact ⟨_, bs, e1, vw_le.l a1, q.here hs (.bl _)⟩) hg (he := he) (hpl := hpl)
theorem de_any {bs : List Bool} (hm : X.mg "any" = none) (h : DA X c ρ S (e :: es) [.d (.lst (bs.map .bl))] S1) (hc : X.calm = true := by rfl) (hg : Gl X "any" := by rfl) (he : starEach (e :: es) X.env = (false, eval e X.env) :: starEach es X.env := by rfl) (hpl : (backTo pos (starEach es X.env)).any (·.1) = false := by rfl) :
    DE X c ρ S (.Call (.Name "any" p) (e :: es) [] pos) (.d (.bl (bs.any id))) S1 := de_callB (cr_any hc) hm (by decide +kernel) h (fun vs H O hs hv Q q => by
  obtain ⟨v, e1, h1⟩ := hv.one
  have h1' : At X.K _ v (.lst (bs.map .bl)) := h1
  cases h1' with
  | lst a1 a2 =>
    rw [atall_bl a2] at a1
    exact ⟨_, bs, e1, vw_le.l a1, q.here hs (.bl _)⟩) hg (he := he) (hpl := hpl)
theorem de_sum {ns : List Int} (hm : X.mg "sum" = none) (h : DA X c ρ S (e :: es) [.d (.lst (ns.map .int))] S1) (hc : X.calm = true := by rfl) (hg : Gl X "sum" := by rfl) (he : starEach (e :: es) X.env = (false, eval e X.env) :: starEach es X.env := by rfl) (hpl : (backTo pos (starEach es X.env)).any (·.1) = false := by rfl) :
    DE X c ρ S (.Call (.Name "sum" p) (e :: es) [] pos) (.d (.int ns.sum)) S1 := de_callB (cr_sum hc) hm (by decide +kernel) h (fun vs H O hs hv Q q => by
  obtain ⟨v, e1, h1⟩ := hv.one
  have h1' : At X.K _ v (.lst (ns.map .int)) := h1
  cases h1' with
  | lst a1 a2 =>
    rw [atall_int a2] at a1
    exact ⟨_, ns, e1, vw_le.l a1, q.here hs (.int _)⟩) hg (he := he) (hpl := hpl)

/-! ### isinstance -/
def tyD : Dat → String
  | .non => "NoneType" | .bl _ => "bool" | .int _ => "int" | .str _ => "str" | .tup _ => "tuple" | .st _ => "tuple" | .lst _ => "list" | .dic _ => "dict"
theorem kit_dat {pins : List (Addr × Obj)} {σ : L2.St} {H Hm : Hp} {s : Shared} {v : V} {u : Value} {d : Dat} (I : Inv X pins σ H s) (rv : RelV v u) (rx : RX Hm H) (h : At X.K Hm v d) : ∃ P : Heap → Prop, PySem.W.KitX X.K u (.type (tyD d)) P ∧ P s.heap ∧ u ≠ .builtin "__main__.__loader__#opaque" := by
  cases h with
  | non => cases (show u = Value.none from rv); exact ⟨_, PySem.W.kitx_none, True.intro, fun z => nomatch z⟩
  | bl y => cases (show u = Value.bool y from rv); exact ⟨_, PySem.W.kitx_bool, True.intro, fun z => nomatch z⟩
  | int i => obtain ⟨t, q⟩ := (show ∃ t, u = Value.int i t from rv); cases q; exact ⟨_, PySem.W.kitx_int, True.intro, fun z => nomatch z⟩
  | str y => obtain ⟨t, q⟩ := (show ∃ t, u = Value.str y t from rv); cases q; exact ⟨_, PySem.W.kitx_str, True.intro, fun z => nomatch z⟩
  | tup a1 a2 =>
    cases (show u = Value.ref _ from rv)
    obtain ⟨its, r1, ⟨o, h1, h2, _⟩, _⟩ := I.tuple (rx.t a1)
    exact ⟨_, PySem.W.kitx_tuple, ⟨o, h1, h2⟩, fun z => nomatch z⟩
  | st a1 =>
    cases (show u = Value.ref _ from rv)
    obtain ⟨its, r1, ⟨o, h1, h2, _⟩, _⟩ := I.tuple (.inl (.inl (rx.tp _ _ a1)))
    exact ⟨_, PySem.W.kitx_tuple, ⟨o, h1, h2⟩, fun z => nomatch z⟩
  | lst a1 a2 =>
    cases (show u = Value.ref _ from rv)
    obtain ⟨its, r1, ⟨o, n, h1, h2, _⟩, _⟩ := I.list (rx.l a1)
    exact ⟨_, PySem.W.kitx_list, ⟨o, h1, h2⟩, fun z => nomatch z⟩
  | dic a1 a2 =>
    cases (show u = Value.ref _ from rv)
    obtain ⟨_, _, xs, _, o, es, ep, h1, h2, _⟩ := (rx.rd _ _ a1).ok I.hok
    exact ⟨_, PySem.W.kitx_dict, ⟨o, h1, h2.1⟩, fun z => nomatch z⟩
def rIsD (K : PySem.W.Frag) : List V → Hp → VK → Prop := fun xs H Q => ∃ (v : V) (n : String) (Hm : Hp) (d : Dat) (b : Bool), xs = [v, .ty n] ∧ RX Hm H ∧ At K Hm v d ∧ kitB (tyD d) n = some b ∧ Q (.bl b) H
theorem call_isD : CallR X (.builtin "isinstance") (rIsD X.K) := by
  intro pins s σ H xs us Q I r h
  obtain ⟨x, n, Hm, d, b, rfl, rx, hd, e, q⟩ := h
  obtain ⟨u1, u2, rfl, r1, r2⟩ := vals2 r
  have e2 : u2 = Value.type n := r2
  subst e2
  obtain ⟨P, Z, p, hx⟩ := kit_dat I r1 rx hd
  exact PySem.W.kia_one Z I.kIn p (kit_ty e) hx fun tk => ⟨.bl b, H, I.tok tk, rfl, q⟩
/-- isinstance(x, T), T a built-in class by its name -/
theorem de_isi {d : Dat} {T : Str} {n : String} {k : Bool} {pT : Pos} (hm : X.mg "isinstance" = none) (hmT : X.mg T = none) (h : DE X c ρ S a (.d d) S1) (hb : kitB (tyD d) n = some k) (hT : bootBuiltins T = some (.type n) := by decide +kernel) (hg : Gl X "isinstance" := by rfl) (hgT : Gl X T := by rfl) (hnT : T ≠ "__name__" := by decide) (hdT : (T == ("__debug__" : Str)) = false := by decide)
    (he : starEach [a, .Name T pT] X.env = (false, eval a X.env) :: starEach [.Name T pT] X.env := by rfl) (he2 : starEach [.Name T pT] X.env = (false, eval (.Name T pT) X.env) :: starEach [] X.env := by rfl) (hpl : (backTo pos (starEach [.Name T pT] X.env)).any (·.1) = false := by rfl) :
    DE X c ρ S (.Call (.Name "isinstance" p) [a, .Name T pT] [] pos) (.d (.bl k)) S1 :=
  de_of (pe_callB call_isD hg hm (by decide +kernel) (pa_cons pe_tW (pa_cons (pe_bltn (v := .ty n) hgT hmT hT rfl hnT hdT) pa_nil he2) he) (he := he) (hpl := hpl)) fun σ H O hs sl Q q => h σ H O hs sl _ fun v H' O' a1 a2 a3 =>
    ⟨v, n, _, d, k, rfl, vw_le, a3, hb, q _ H' O' a1 a2 (.bl k)⟩

/-! ### changes of own cells -/
/-- xs.append(e) -/
theorem de_append {k : Nat} {ds : List Dat} {d : Dat} (ho : DE X c ρ S o (.o k) S1) (he : DE X c ρ S1 e (.d d) S2) (hk1 : ∃ es, S1[k]? = some (.l es)) (hk : S2[k]? = some (.l ds)) (hz : ds.length < 100000)
    (hbase : attributeBase o "append" X.env (eval o X.env) = eval o X.env := by rfl)
    (hfew : ((backTo cpos (starEach [e] X.env)).all (fun x => !x.1) && (backToKw cpos (keywordEach [] X.env)).all (fun x => x.1.isSome) && decide (([e] : List Expr).length + ([] : List Keyword).length + (if ([] : List Keyword).isEmpty then 0 else 1) < 30)) = true := by rfl)
    (hline : (apos.endLine == cpos.line) = true := by rfl) (hs0 : starEach [e] X.env = (false, eval e X.env) :: starEach [] X.env := by rfl) (hplain : (backTo cpos (starEach [] X.env)).any (·.1) = false := by rfl) :
    DE X c ρ S (.Call (.Attribute o "append" apos) [e] [] cpos) (.d .non) (S2.set k (.l (ds ++ [d]))) :=
  de_of (pe_bm PySem.F.plainAttrs_list PySem.F.slot_list_append PySem.F.type_list_append mt_append pe_tW (pa_cons pe_tW pa_nil hs0) hbase hfew hline hs0 hplain) fun σ H O hs sl Q q => ho σ H O hs sl _ fun v H1 O1 a1 a2 a3 => by
    obtain ⟨pp, e2, e3⟩ := a3
    subst e3
    obtain ⟨es', hk1⟩ := hk1
    obtain ⟨us, c1, c2⟩ := a1.cell k pp _ e2 hk1
    refine ⟨.inl ⟨rfl, us, .inl (.inl c1)⟩, ?_⟩
    refine he σ H1 _ a1 (sl.mono a2) _ fun w H2 O2 b1 b2 b3 => ?_
    have e4 : (O ++ O1 ++ O2)[k]? = some pp := by rw [List.getElem?_append_left (List.getElem?_eq_some_iff.mp e2).1]; exact e2
    obtain ⟨us2, d1, d2⟩ := b1.cell k pp _ e4 hk
    refine ⟨pp, us2, w, rfl, rfl, d1, by rw [d2.length]; exact Evl.sz_lt hz, ?_⟩
    have g1 : Hs X.K c (O ++ O1 ++ O2) (S2.set k (.l (ds ++ [d]))) (upd H2 pp (.lst (us2 ++ [w]))) := b1.set e4 hk rfl rfl ⟨_, upd_same, d2.append (.cons b3 .nil)⟩
    have gv : vw c (O ++ O1 ++ O2) (S2.set k (.l (ds ++ [d]))) (upd H2 pp (.lst (us2 ++ [w]))) = vw c (O ++ O1 ++ O2) S2 H2 := vw_set e4 hk rfl rfl
    have q2 := (q.step a2).step b2
    exact q2.go g1 (by rw [gv]; exact RX.refl _) .non
/-- xs[i] = e -/
theorem ds_setL {D : De} {k : Nat} {ds : List Dat} {d : Dat} {j : Nat} (he : DE X c ρ S e (.d d) S1) (ho : DE X c ρ S1 a (.o k) S1) (hi : DE X c ρ S1 b (.d (.int i)) S1) (hk : S1[k]? = some (.l ds)) (hj : ixN ds.length i = some j) (hn : D.nx ρ (S1.set k (.l (ds.set j d))))
    (ha : ∀ v, assign (.Subscript a b pos') X.env v = (do
      let ov ← holding [v] (eval a X.env)
      let iv ← holding [v, ov] (eval b X.env)
      standAt pos'
      holding [v, ov, iv] (setItem ov iv v)
      release [v, ov, iv] []) := by intro _; rfl)
    (hs0 : swapsWithSole [.Subscript a b pos'] e pos.line X.env = pure false := by rfl) (hw : swappedStores [.Subscript a b pos'] e X.env = pure none := by rfl) (h1 : (assignEach [.Subscript a b pos'] X.env).map (·.2) = [assign (.Subscript a b pos') X.env] := by rfl) :
    DS X c ρ S (.Assign [.Subscript a b pos'] e pos) D :=
  ds_of (ps_asg pe_tW (pg_sub pe_tW pe_tW set_list ha) hs0 hw h1) fun σ H O hs sl E q => he σ H O hs sl _ fun v H1 O1 a1 a2 a3 => by
    refine ho σ H1 _ a1 (sl.mono a2) _ fun w H2 O2 b1 b2 b3 => ?_
    obtain ⟨pp, e2, e3⟩ := b3
    subst e3
    refine hi σ H2 _ b1 ((sl.mono a2).mono b2) _ fun u H3 O3 c1 c2 c3 => ?_
    cases c3
    have e4 : (O ++ O1 ++ O2 ++ O3)[k]? = some pp := by rw [List.getElem?_append_left (List.getElem?_eq_some_iff.mp e2).1]; exact e2
    obtain ⟨us, d1, d2⟩ := c1.cell k pp _ e4 hk
    refine ⟨pp, us, i, j, rfl, rfl, d1, by rw [d2.length]; exact hj, ?_⟩
    have a3' : At X.K _ v d := a3
    have gd := At.mono c2 (At.mono b2 a3')
    have g1 : Hs X.K c (O ++ O1 ++ O2 ++ O3) (S1.set k (.l (ds.set j d))) (upd H3 pp (.lst (us.set j v))) := c1.set e4 hk rfl rfl ⟨_, upd_same, d2.set gd j⟩
    have gv : vw c (O ++ O1 ++ O2 ++ O3) (S1.set k (.l (ds.set j d))) (upd H3 pp (.lst (us.set j v))) = vw c (O ++ O1 ++ O2 ++ O3) S1 H3 := vw_set e4 hk rfl rfl
    have q2 := ((q.step a2).step b2).step c2
    have s2 := ((sl.mono (O' := O1) a2).mono (O' := O2) b2).mono (O' := O3) c2
    exact q2.nx.go hn g1 (by rw [gv]; exact s2) (by rw [gv]; exact RX.refl _)
end
end Tw
end
section
set_option Elab.async false
set_option linter.all false
set_option maxRecDepth 100000
set_option maxHeartbeats 1000000
/-! TwText: the text by places (printed by gen.py). -/
namespace Tw
open PySem PySem.Spec PyProof.Rows L2
def topS (i : Nat) : Stmt := PySem.Challenge.pw_turnworth_k96_whole_a_judge_of_worths.main.body.getD i (.Pass ⟨0, 0, 0, 0⟩)
abbrev s_common_of : Stmt := topS 7
abbrev N_common_of : List Str := ["one", "other"]
abbrev P_common_of : List Str := ["one", "other"]
theorem sc_common_of : FnScope N_common_of P_common_of (defScope s_common_of) := ⟨rfl, rfl, rfl, by decide +kernel, rfl, by decide +kernel, by decide +kernel⟩
abbrev s_is_whole : Stmt := topS 8
abbrev N_is_whole : List Str := ["thing"]
abbrev P_is_whole : List Str := ["thing"]
theorem sc_is_whole : FnScope N_is_whole P_is_whole (defScope s_is_whole) := ⟨rfl, rfl, rfl, by decide +kernel, rfl, by decide +kernel, by decide +kernel⟩
abbrev s_is_fraction : Stmt := topS 9
abbrev N_is_fraction : List Str := ["thing"]
abbrev P_is_fraction : List Str := ["thing"]
theorem sc_is_fraction : FnScope N_is_fraction P_is_fraction (defScope s_is_fraction) := ⟨rfl, rfl, rfl, by decide +kernel, rfl, by decide +kernel, by decide +kernel⟩
abbrev s_fraction_of : Stmt := topS 10
abbrev N_fraction_of : List Str := ["top", "bottom", "by"]
abbrev P_fraction_of : List Str := ["top", "bottom"]
theorem sc_fraction_of : FnScope N_fraction_of P_fraction_of (defScope s_fraction_of) := ⟨rfl, rfl, rfl, by decide +kernel, rfl, by decide +kernel, by decide +kernel⟩
abbrev s_frac_sum : Stmt := topS 11
abbrev N_frac_sum : List Str := ["one", "other"]
abbrev P_frac_sum : List Str := ["one", "other"]
theorem sc_frac_sum : FnScope N_frac_sum P_frac_sum (defScope s_frac_sum) := ⟨rfl, rfl, rfl, by decide +kernel, rfl, by decide +kernel, by decide +kernel⟩
abbrev s_frac_less : Stmt := topS 12
abbrev N_frac_less : List Str := ["one", "other"]
abbrev P_frac_less : List Str := ["one", "other"]
theorem sc_frac_less : FnScope N_frac_less P_frac_less (defScope s_frac_less) := ⟨rfl, rfl, rfl, by decide +kernel, rfl, by decide +kernel, by decide +kernel⟩
abbrev s_frac_times : Stmt := topS 13
abbrev N_frac_times : List Str := ["one", "other"]
abbrev P_frac_times : List Str := ["one", "other"]
theorem sc_frac_times : FnScope N_frac_times P_frac_times (defScope s_frac_times) := ⟨rfl, rfl, rfl, by decide +kernel, rfl, by decide +kernel, by decide +kernel⟩
abbrev s_frac_by : Stmt := topS 14
abbrev N_frac_by : List Str := ["one", "other"]
abbrev P_frac_by : List Str := ["one", "other"]
theorem sc_frac_by : FnScope N_frac_by P_frac_by (defScope s_frac_by) := ⟨rfl, rfl, rfl, by decide +kernel, rfl, by decide +kernel, by decide +kernel⟩
abbrev s_frac_below : Stmt := topS 15
abbrev N_frac_below : List Str := ["one", "other"]
abbrev P_frac_below : List Str := ["one", "other"]
theorem sc_frac_below : FnScope N_frac_below P_frac_below (defScope s_frac_below) := ⟨rfl, rfl, rfl, by decide +kernel, rfl, by decide +kernel, by decide +kernel⟩
abbrev s_is_move : Stmt := topS 19
abbrev N_is_move : List Str := ["thing", "many", "last"]
abbrev P_is_move : List Str := ["thing", "many", "last"]
theorem sc_is_move : FnScope N_is_move P_is_move (defScope s_is_move) := ⟨rfl, rfl, rfl, by decide +kernel, rfl, by decide +kernel, by decide +kernel⟩
abbrev s_are_moves : Stmt := topS 20
abbrev N_are_moves : List Str := ["thing", "many", "total", "last", "move"]
abbrev P_are_moves : List Str := ["thing", "many"]
theorem sc_are_moves : FnScope N_are_moves P_are_moves (defScope s_are_moves) := ⟨rfl, rfl, rfl, by decide +kernel, rfl, by decide +kernel, by decide +kernel⟩
abbrev s_is_stand : Stmt := topS 21
abbrev N_is_stand : List Str := ["thing", "many"]
abbrev P_is_stand : List Str := ["thing", "many"]
theorem sc_is_stand : FnScope N_is_stand P_is_stand (defScope s_is_stand) := ⟨rfl, rfl, rfl, by decide +kernel, rfl, by decide +kernel, by decide +kernel⟩
abbrev s_is_bench : Stmt := topS 22
abbrev N_is_bench : List Str := ["thing", "stand"]
abbrev P_is_bench : List Str := ["thing"]
theorem sc_is_bench : FnScope N_is_bench P_is_bench (defScope s_is_bench) := ⟨rfl, rfl, rfl, by decide +kernel, rfl, by decide +kernel, by decide +kernel⟩
abbrev s_is_part : Stmt := topS 23
abbrev N_is_part : List Str := ["thing"]
abbrev P_is_part : List Str := ["thing"]
theorem sc_is_part : FnScope N_is_part P_is_part (defScope s_is_part) := ⟨rfl, rfl, rfl, by decide +kernel, rfl, by decide +kernel, by decide +kernel⟩
abbrev s_is_book : Stmt := topS 27
abbrev N_is_book : List Str := ["thing", "bench"]
abbrev P_is_book : List Str := ["thing"]
theorem sc_is_book : FnScope N_is_book P_is_book (defScope s_is_book) := ⟨rfl, rfl, rfl, by decide +kernel, rfl, by decide +kernel, by decide +kernel⟩
abbrev s_all_states : Stmt := topS 28
abbrev N_all_states : List Str := ["book", "found", "bench", "longer", "state", "stand"]
abbrev P_all_states : List Str := ["book"]
theorem sc_all_states : FnScope N_all_states P_all_states (defScope s_all_states) := ⟨rfl, rfl, rfl, by decide +kernel, rfl, by decide +kernel, by decide +kernel⟩
abbrev s_look_at_book : Stmt := topS 29
abbrev N_look_at_book : List Str := ["book", "many", "bench"]
abbrev P_look_at_book : List Str := ["book"]
theorem sc_look_at_book : FnScope N_look_at_book P_look_at_book (defScope s_look_at_book) := ⟨rfl, rfl, rfl, by decide +kernel, rfl, by decide +kernel, by decide +kernel⟩
abbrev s_shared_by : Stmt := topS 31
abbrev N_shared_by : List Str := ["one", "other"]
abbrev P_shared_by : List Str := ["one", "other"]
theorem sc_shared_by : FnScope N_shared_by P_shared_by (defScope s_shared_by) := ⟨rfl, rfl, rfl, by decide +kernel, rfl, by decide +kernel, by decide +kernel⟩
abbrev s_made_whole : Stmt := topS 32
abbrev N_made_whole : List Str := ["row", "times", "top", "bottom"]
abbrev P_made_whole : List Str := ["row"]
theorem sc_made_whole : FnScope N_made_whole P_made_whole (defScope s_made_whole) := ⟨rfl, rfl, rfl, by decide +kernel, rfl, by decide +kernel, by decide +kernel⟩
abbrev s_pivot_at : Stmt := topS 33
abbrev N_pivot_at : List Str := ["table", "place", "number"]
abbrev P_pivot_at : List Str := ["table", "place"]
theorem sc_pivot_at : FnScope N_pivot_at P_pivot_at (defScope s_pivot_at) := ⟨rfl, rfl, rfl, by decide +kernel, rfl, by decide +kernel, by decide +kernel⟩
abbrev s_cleared : Stmt := topS 34
abbrev N_cleared : List Str := ["table", "place", "ahead", "row", "found", "number", "other", "a", "b"]
abbrev P_cleared : List Str := ["table", "place", "ahead"]
theorem sc_cleared : FnScope N_cleared P_cleared (defScope s_cleared) := ⟨rfl, rfl, rfl, by decide +kernel, rfl, by decide +kernel, by decide +kernel⟩
abbrev s_solved_rows : Stmt := topS 35
abbrev N_solved_rows : List Str := ["rows", "sums", "table", "ahead", "place", "number", "row", "total"]
abbrev P_solved_rows : List Str := ["rows", "sums"]
theorem sc_solved_rows : FnScope N_solved_rows P_solved_rows (defScope s_solved_rows) := ⟨rfl, rfl, rfl, by decide +kernel, rfl, by decide +kernel, by decide +kernel⟩
abbrev s_went_on : Stmt := topS 39
abbrev N_went_on : List Str := ["bench", "part", "some", "rows", "number", "stand", "row", "chance", "to", "place", "gain", "moves"]
abbrev P_went_on : List Str := ["bench", "part", "some"]
theorem sc_went_on : FnScope N_went_on P_went_on (defScope s_went_on) := ⟨rfl, rfl, rfl, by decide +kernel, rfl, by decide +kernel, by decide +kernel⟩
abbrev s_quotients : Stmt := topS 41
abbrev N_quotients : List Str := ["bench", "part", "some", "earned", "tries", "one", "other"]
abbrev P_quotients : List Str := ["bench", "part", "some"]
theorem sc_quotients : FnScope N_quotients P_quotients (defScope s_quotients) := ⟨rfl, rfl, rfl, by decide +kernel, rfl, by decide +kernel, by decide +kernel⟩
abbrev s_greatest_of : Stmt := topS 42
abbrev N_greatest_of : List Str := ["found", "rest", "best", "stand"]
abbrev P_greatest_of : List Str := ["found", "rest"]
theorem sc_greatest_of : FnScope N_greatest_of P_greatest_of (defScope s_greatest_of) := ⟨rfl, rfl, rfl, by decide +kernel, rfl, by decide +kernel, by decide +kernel⟩
abbrev s_indices_found : Stmt := topS 43
abbrev N_indices_found : List Str := ["bench", "part", "indices", "some", "rest", "found", "best", "stand"]
abbrev P_indices_found : List Str := ["bench", "part"]
theorem sc_indices_found : FnScope N_indices_found P_indices_found (defScope s_indices_found) := ⟨rfl, rfl, rfl, by decide +kernel, rfl, by decide +kernel, by decide +kernel⟩
abbrev s_is_bench_number : Stmt := topS 46
abbrev N_is_bench_number : List Str := ["book", "thing"]
abbrev P_is_bench_number : List Str := ["book", "thing"]
theorem sc_is_bench_number : FnScope N_is_bench_number P_is_bench_number (defScope s_is_bench_number) := ⟨rfl, rfl, rfl, by decide +kernel, rfl, by decide +kernel, by decide +kernel⟩
abbrev s_has_states : Stmt := topS 47
abbrev N_has_states : List Str := ["book", "thing", "states", "state"]
abbrev P_has_states : List Str := ["book", "thing"]
theorem sc_has_states : FnScope N_has_states P_has_states (defScope s_has_states) := ⟨rfl, rfl, rfl, by decide +kernel, rfl, by decide +kernel, by decide +kernel⟩
abbrev s_is_plan : Stmt := topS 48
abbrev N_is_plan : List Str := ["book", "thing", "bench"]
abbrev P_is_plan : List Str := ["book", "thing"]
theorem sc_is_plan : FnScope N_is_plan P_is_plan (defScope s_is_plan) := ⟨rfl, rfl, rfl, by decide +kernel, rfl, by decide +kernel, by decide +kernel⟩
abbrev s_look_at_plan : Stmt := topS 49
abbrev N_look_at_plan : List Str := ["book", "plan"]
abbrev P_look_at_plan : List Str := ["book", "plan"]
theorem sc_look_at_plan : FnScope N_look_at_plan P_look_at_plan (defScope s_look_at_plan) := ⟨rfl, rfl, rfl, by decide +kernel, rfl, by decide +kernel, by decide +kernel⟩
abbrev s_moved_to : Stmt := topS 50
abbrev N_moved_to : List Str := ["state", "bench", "to"]
abbrev P_moved_to : List Str := ["state", "bench", "to"]
theorem sc_moved_to : FnScope N_moved_to P_moved_to (defScope s_moved_to) := ⟨rfl, rfl, rfl, by decide +kernel, rfl, by decide +kernel, by decide +kernel⟩
abbrev s_tried_worth : Stmt := topS 51
abbrev N_tried_worth : List Str := ["book", "state", "bench", "worths", "gain", "moves", "total", "chance", "to"]
abbrev P_tried_worth : List Str := ["book", "state", "bench", "worths"]
theorem sc_tried_worth : FnScope N_tried_worth P_tried_worth (defScope s_tried_worth) := ⟨rfl, rfl, rfl, by decide +kernel, rfl, by decide +kernel, by decide +kernel⟩
abbrev s_worths_by : Stmt := topS 52
abbrev N_worths_by : List Str := ["book", "plan", "states", "places", "place", "state", "rows", "sums", "gain", "moves", "row", "chance", "to", "behind", "one"]
abbrev P_worths_by : List Str := ["book", "plan"]
theorem sc_worths_by : FnScope N_worths_by P_worths_by (defScope s_worths_by) := ⟨rfl, rfl, rfl, by decide +kernel, rfl, by decide +kernel, by decide +kernel⟩
abbrev s_plan_worths : Stmt := topS 53
abbrev N_plan_worths : List Str := ["book", "plan"]
abbrev P_plan_worths : List Str := ["book", "plan"]
theorem sc_plan_worths : FnScope N_plan_worths P_plan_worths (defScope s_plan_worths) := ⟨rfl, rfl, rfl, by decide +kernel, rfl, by decide +kernel, by decide +kernel⟩
abbrev s_book_indices : Stmt := topS 55
abbrev N_book_indices : List Str := ["book", "bench"]
abbrev P_book_indices : List Str := ["book"]
theorem sc_book_indices : FnScope N_book_indices P_book_indices (defScope s_book_indices) := ⟨rfl, rfl, rfl, by decide +kernel, rfl, by decide +kernel, by decide +kernel⟩
abbrev s_greatest_bench : Stmt := topS 56
abbrev N_greatest_bench : List Str := ["indices", "state", "best", "bench"]
abbrev P_greatest_bench : List Str := ["indices", "state"]
theorem sc_greatest_bench : FnScope N_greatest_bench P_greatest_bench (defScope s_greatest_bench) := ⟨rfl, rfl, rfl, by decide +kernel, rfl, by decide +kernel, by decide +kernel⟩
abbrev s_plan_by_indices : Stmt := topS 57
abbrev N_plan_by_indices : List Str := ["book", "indices", "found", "state"]
abbrev P_plan_by_indices : List Str := ["book"]
theorem sc_plan_by_indices : FnScope N_plan_by_indices P_plan_by_indices (defScope s_plan_by_indices) := ⟨rfl, rfl, rfl, by decide +kernel, rfl, by decide +kernel, by decide +kernel⟩
abbrev s_greatest_plan : Stmt := topS 58
abbrev N_greatest_plan : List Str := ["book"]
abbrev P_greatest_plan : List Str := ["book"]
theorem sc_greatest_plan : FnScope N_greatest_plan P_greatest_plan (defScope s_greatest_plan) := ⟨rfl, rfl, rfl, by decide +kernel, rfl, by decide +kernel, by decide +kernel⟩
abbrev s_best_worths : Stmt := topS 59
abbrev N_best_worths : List Str := ["book"]
abbrev P_best_worths : List Str := ["book"]
theorem sc_best_worths : FnScope N_best_worths P_best_worths (defScope s_best_worths) := ⟨rfl, rfl, rfl, by decide +kernel, rfl, by decide +kernel, by decide +kernel⟩
abbrev s_best_paper : Stmt := topS 61
abbrev N_best_paper : List Str := ["book"]
abbrev P_best_paper : List Str := ["book"]
theorem sc_best_paper : FnScope N_best_paper P_best_paper (defScope s_best_paper) := ⟨rfl, rfl, rfl, by decide +kernel, rfl, by decide +kernel, by decide +kernel⟩
abbrev s_are_worths : Stmt := topS 62
abbrev N_are_worths : List Str := ["book", "thing", "worth"]
abbrev P_are_worths : List Str := ["book", "thing"]
theorem sc_are_worths : FnScope N_are_worths P_are_worths (defScope s_are_worths) := ⟨rfl, rfl, rfl, by decide +kernel, rfl, by decide +kernel, by decide +kernel⟩
abbrev s_holds_at : Stmt := topS 63
abbrev N_holds_at : List Str := ["book", "state", "plan", "worths", "bench"]
abbrev P_holds_at : List Str := ["book", "state", "plan", "worths"]
theorem sc_holds_at : FnScope N_holds_at P_holds_at (defScope s_holds_at) := ⟨rfl, rfl, rfl, by decide +kernel, rfl, by decide +kernel, by decide +kernel⟩
abbrev s_judge_worths : Stmt := topS 64
abbrev N_judge_worths : List Str := ["book", "paper", "plan", "worths", "state"]
abbrev P_judge_worths : List Str := ["book", "paper"]
theorem sc_judge_worths : FnScope N_judge_worths P_judge_worths (defScope s_judge_worths) := ⟨rfl, rfl, rfl, by decide +kernel, rfl, by decide +kernel, by decide +kernel⟩
abbrev s__law_cell : Stmt := topS 66
abbrev N__law_cell : List Str := ["_law_script", "_law_k", "_law_cell_here", "_law_number", "_law_found", "_law_turn"]
abbrev P__law_cell : List Str := ["_law_script", "_law_k"]
theorem sc__law_cell : FnScope N__law_cell P__law_cell (defScope s__law_cell) := ⟨rfl, rfl, rfl, by decide +kernel, rfl, by decide +kernel, by decide +kernel⟩
abbrev s__law_take : Stmt := topS 67
abbrev N__law_take : List Str := ["_law_pile", "_law_size", "_law_digit"]
abbrev P__law_take : List Str := ["_law_pile", "_law_size"]
theorem sc__law_take : FnScope N__law_take P__law_take (defScope s__law_take) := ⟨rfl, rfl, rfl, by decide +kernel, rfl, by decide +kernel, by decide +kernel⟩
abbrev s__law_shared : Stmt := topS 68
abbrev N__law_shared : List Str := ["_law_one", "_law_other"]
abbrev P__law_shared : List Str := ["_law_one", "_law_other"]
theorem sc__law_shared : FnScope N__law_shared P__law_shared (defScope s__law_shared) := ⟨rfl, rfl, rfl, by decide +kernel, rfl, by decide +kernel, by decide +kernel⟩
abbrev s__law_frac : Stmt := topS 69
abbrev N__law_frac : List Str := ["_law_top", "_law_bottom", "_law_by_here"]
abbrev P__law_frac : List Str := ["_law_top", "_law_bottom"]
theorem sc__law_frac : FnScope N__law_frac P__law_frac (defScope s__law_frac) := ⟨rfl, rfl, rfl, by decide +kernel, rfl, by decide +kernel, by decide +kernel⟩
abbrev s__law_plus : Stmt := topS 70
abbrev N__law_plus : List Str := ["_law_one", "_law_other"]
abbrev P__law_plus : List Str := ["_law_one", "_law_other"]
theorem sc__law_plus : FnScope N__law_plus P__law_plus (defScope s__law_plus) := ⟨rfl, rfl, rfl, by decide +kernel, rfl, by decide +kernel, by decide +kernel⟩
abbrev s__law_by : Stmt := topS 71
abbrev N__law_by : List Str := ["_law_one", "_law_other"]
abbrev P__law_by : List Str := ["_law_one", "_law_other"]
theorem sc__law_by : FnScope N__law_by P__law_by (defScope s__law_by) := ⟨rfl, rfl, rfl, by decide +kernel, rfl, by decide +kernel, by decide +kernel⟩
abbrev s__law_gain : Stmt := topS 72
abbrev N__law_gain : List Str := ["_law_pile", "_law_top"]
abbrev P__law_gain : List Str := ["_law_pile"]
theorem sc__law_gain : FnScope N__law_gain P__law_gain (defScope s__law_gain) := ⟨rfl, rfl, rfl, by decide +kernel, rfl, by decide +kernel, by decide +kernel⟩
abbrev s__law_part : Stmt := topS 73
abbrev N__law_part : List Str := ["_law_cell_here", "_law_pile", "_law_bottom"]
abbrev P__law_part : List Str := ["_law_cell_here"]
theorem sc__law_part : FnScope N__law_part P__law_part (defScope s__law_part) := ⟨rfl, rfl, rfl, by decide +kernel, rfl, by decide +kernel, by decide +kernel⟩
abbrev s__law_stand : Stmt := topS 74
abbrev N__law_stand : List Str := ["_law_pile", "_law_size", "_law_gain_here", "_law_ends", "_law_stand_here", "_law_weights", "_law_chances", "_law_weight", "_law_chance"]
abbrev P__law_stand : List Str := ["_law_pile", "_law_size"]
theorem sc__law_stand : FnScope N__law_stand P__law_stand (defScope s__law_stand) := ⟨rfl, rfl, rfl, by decide +kernel, rfl, by decide +kernel, by decide +kernel⟩
abbrev s__law_bench : Stmt := topS 75
abbrev N__law_bench : List Str := ["_law_script", "_law_start", "_law_most", "_law_size", "_law_k"]
abbrev P__law_bench : List Str := ["_law_script", "_law_start", "_law_most"]
theorem sc__law_bench : FnScope N__law_bench P__law_bench (defScope s__law_bench) := ⟨rfl, rfl, rfl, by decide +kernel, rfl, by decide +kernel, by decide +kernel⟩
abbrev s__law_copied : Stmt := topS 76
abbrev N__law_copied : List Str := ["_law_bench_here", "_law_gain_here", "_law_moves"]
abbrev P__law_copied : List Str := ["_law_bench_here"]
theorem sc__law_copied : FnScope N__law_copied P__law_copied (defScope s__law_copied) := ⟨rfl, rfl, rfl, by decide +kernel, rfl, by decide +kernel, by decide +kernel⟩
abbrev s__law_book : Stmt := topS 77
abbrev N__law_book : List Str := ["_law_script", "_law_start", "_law_sizes_here", "_law_benches", "_law_size"]
abbrev P__law_book : List Str := ["_law_script", "_law_start", "_law_sizes_here"]
theorem sc__law_book : FnScope N__law_book P__law_book (defScope s__law_book) := ⟨rfl, rfl, rfl, by decide +kernel, rfl, by decide +kernel, by decide +kernel⟩
abbrev s__law_book_copied : Stmt := topS 78
abbrev N__law_book_copied : List Str := ["_law_book_here", "_law_bench_here"]
abbrev P__law_book_copied : List Str := ["_law_book_here"]
theorem sc__law_book_copied : FnScope N__law_book_copied P__law_book_copied (defScope s__law_book_copied) := ⟨rfl, rfl, rfl, by decide +kernel, rfl, by decide +kernel, by decide +kernel⟩
abbrev s__law_states : Stmt := topS 79
abbrev N__law_states : List Str := ["_law_book_here", "_law_found", "_law_bench_here", "_law_longer", "_law_state", "_law_stand_here"]
abbrev P__law_states : List Str := ["_law_book_here"]
theorem sc__law_states : FnScope N__law_states P__law_states (defScope s__law_states) := ⟨rfl, rfl, rfl, by decide +kernel, rfl, by decide +kernel, by decide +kernel⟩
abbrev s__law_tried : Stmt := topS 80
abbrev N__law_tried : List Str := ["_law_book_here", "_law_state", "_law_bench_here", "_law_worths", "_law_gain_here", "_law_moves", "_law_total", "_law_chance", "_law_stand_here"]
abbrev P__law_tried : List Str := ["_law_book_here", "_law_state", "_law_bench_here", "_law_worths"]
theorem sc__law_tried : FnScope N__law_tried P__law_tried (defScope s__law_tried) := ⟨rfl, rfl, rfl, by decide +kernel, rfl, by decide +kernel, by decide +kernel⟩
abbrev s__law_below : Stmt := topS 81
abbrev N__law_below : List Str := ["_law_one", "_law_other"]
abbrev P__law_below : List Str := ["_law_one", "_law_other"]
theorem sc__law_below : FnScope N__law_below P__law_below (defScope s__law_below) := ⟨rfl, rfl, rfl, by decide +kernel, rfl, by decide +kernel, by decide +kernel⟩
abbrev s__law_plan : Stmt := topS 82
abbrev N__law_plan : List Str := ["_law_script", "_law_start", "_law_book_here", "_law_pile", "_law_found", "_law_state"]
abbrev P__law_plan : List Str := ["_law_script", "_law_start", "_law_book_here"]
theorem sc__law_plan : FnScope N__law_plan P__law_plan (defScope s__law_plan) := ⟨rfl, rfl, rfl, by decide +kernel, rfl, by decide +kernel, by decide +kernel⟩
abbrev s__law_is_fraction : Stmt := topS 83
abbrev N__law_is_fraction : List Str := ["_law_thing", "_law_number"]
abbrev P__law_is_fraction : List Str := ["_law_thing"]
theorem sc__law_is_fraction : FnScope N__law_is_fraction P__law_is_fraction (defScope s__law_is_fraction) := ⟨rfl, rfl, rfl, by decide +kernel, rfl, by decide +kernel, by decide +kernel⟩
abbrev s__law_are_worths : Stmt := topS 84
abbrev N__law_are_worths : List Str := ["_law_found", "_law_book_here", "_law_state"]
abbrev P__law_are_worths : List Str := ["_law_found", "_law_book_here"]
theorem sc__law_are_worths : FnScope N__law_are_worths P__law_are_worths (defScope s__law_are_worths) := ⟨rfl, rfl, rfl, by decide +kernel, rfl, by decide +kernel, by decide +kernel⟩
abbrev s__law_sizes : Stmt := topS 85
abbrev N__law_sizes : List Str := ["_law_cell_here", "_law_some"]
abbrev P__law_sizes : List Str := ["_law_cell_here"]
theorem sc__law_sizes : FnScope N__law_sizes P__law_sizes (defScope s__law_sizes) := ⟨rfl, rfl, rfl, by decide +kernel, rfl, by decide +kernel, by decide +kernel⟩
abbrev s__law_bent_worths : Stmt := topS 86
abbrev N__law_bent_worths : List Str := ["_law_book_here", "_law_paper", "_law_number", "_law_worths", "_law_state", "_law_way", "_law_one", "_law_some"]
abbrev P__law_bent_worths : List Str := ["_law_book_here", "_law_paper", "_law_number"]
theorem sc__law_bent_worths : FnScope N__law_bent_worths P__law_bent_worths (defScope s__law_bent_worths) := ⟨rfl, rfl, rfl, by decide +kernel, rfl, by decide +kernel, by decide +kernel⟩
abbrev s__law_bent_plan : Stmt := topS 87
abbrev N__law_bent_plan : List Str := ["_law_book_here", "_law_paper", "_law_number", "_law_plan_here", "_law_state", "_law_way"]
abbrev P__law_bent_plan : List Str := ["_law_book_here", "_law_paper", "_law_number"]
theorem sc__law_bent_plan : FnScope N__law_bent_plan P__law_bent_plan (defScope s__law_bent_plan) := ⟨rfl, rfl, rfl, by decide +kernel, rfl, by decide +kernel, by decide +kernel⟩
abbrev s__law_bent : Stmt := topS 88
abbrev N__law_bent : List Str := ["_law_book_here", "_law_paper", "_law_number", "_law_way"]
abbrev P__law_bent : List Str := ["_law_book_here", "_law_paper", "_law_number"]
theorem sc__law_bent : FnScope N__law_bent P__law_bent (defScope s__law_bent) := ⟨rfl, rfl, rfl, by decide +kernel, rfl, by decide +kernel, by decide +kernel⟩
abbrev s__law_shows : Stmt := topS 89
abbrev N__law_shows : List Str := ["_law_book_here", "_law_paper", "_law_plan_here", "_law_worths", "_law_state", "_law_bench_here", "_law_tries", "_law_other", "_law_one"]
abbrev P__law_shows : List Str := ["_law_book_here", "_law_paper"]
theorem sc__law_shows : FnScope N__law_shows P__law_shows (defScope s__law_shows) := ⟨rfl, rfl, rfl, by decide +kernel, rfl, by decide +kernel, by decide +kernel⟩
abbrev s_law : Stmt := topS 90
abbrev N_law : List Str := ["_law_script", "_law_book_here", "_law_handed", "_law_paper", "_law_k", "_law_bent_here", "_law_kept", "_law_found"]
abbrev P_law : List Str := ["_law_script"]
theorem sc_law : FnScope N_law P_law (defScope s_law) := ⟨rfl, rfl, rfl, by decide +kernel, rfl, by decide +kernel, by decide +kernel⟩
end Tw
end
section
/-! TwNum: whole numbers and fractions as the program has them; plain Lean. -/
set_option autoImplicit false
set_option linter.all false
namespace Tw
def cg (a b : Int) : Int := (Int.gcd a b : Int)
theorem cg_pos {a b : Int} (h : b ≠ 0) : 0 < cg a b := by
  have h1 := Int.gcd_pos_of_ne_zero_right a h
  unfold cg
  omega
theorem cg_zero (a : Int) : cg a 0 = (a.natAbs : Nat) := by
  unfold cg
  rw [Int.gcd_zero_right]
theorem cg_step (a b : Int) : cg b (a % b) = cg a b := by
  unfold cg
  rw [Int.emod_def, Int.gcd_sub_mul_left_right, Int.gcd_comm]
abbrev Fr := Int × Int
def nf (t b : Int) : Fr := (t / cg t b, b / cg t b)
def fAdd (p q : Fr) : Fr := nf (p.1 * q.2 + q.1 * p.2) (p.2 * q.2)
def fSub (p q : Fr) : Fr := nf (p.1 * q.2 - q.1 * p.2) (p.2 * q.2)
def fMul (p q : Fr) : Fr := nf (p.1 * q.1) (p.2 * q.2)
def fDiv (p q : Fr) : Fr := nf (p.1 * q.2) (p.2 * q.1)
def fLt (p q : Fr) : Bool := decide (p.1 * q.2 < q.1 * p.2)
/-- a fraction with top and bottom of less than n bits -/
structure Fb (n : Nat) (p : Fr) : Prop where
  pos : 1 ≤ p.2
  top : p.1.natAbs < 2 ^ n
  bot : p.2.natAbs < 2 ^ n
/-- in lowest terms -/
def Low (p : Fr) : Prop := 1 ≤ p.2 ∧ cg p.1 p.2 = 1
theorem cg_ex (t b : Int) (hb : 0 < b) : ∃ g u v : Int, 0 < g ∧ cg t b = g ∧ t = g * u ∧ b = g * v ∧ 0 < v ∧ nf t b = (u, v) ∧ cg u v = 1 := by
  have hg := cg_pos (a := t) (b := b) (by omega)
  obtain ⟨u, hu⟩ : cg t b ∣ t := Int.gcd_dvd_left t b
  obtain ⟨v, hv⟩ : cg t b ∣ b := Int.gcd_dvd_right t b
  generalize hgd : cg t b = g at hg hu hv
  subst hu hv
  have e1 : g * u / g = u := Int.mul_ediv_cancel_left u (by omega)
  have e2 : g * v / g = v := Int.mul_ediv_cancel_left v (by omega)
  have pv : 0 < v := by
    rcases Int.lt_trichotomy v 0 with h | h | h
    · have := Int.mul_neg_of_pos_of_neg hg h
      omega
    · rw [h] at hb; simp at hb
    · exact h
  refine ⟨g, u, v, hg, rfl, rfl, rfl, pv, by unfold nf; rw [hgd, e1, e2], ?_⟩
  have h1 : g = g * cg u v := by
    conv => lhs; rw [← hgd]
    unfold cg
    rw [Int.gcd_mul_left, Int.natCast_mul, Int.natAbs_of_nonneg (by omega)]
  have h2 : g * 1 = g * cg u v := by rw [Int.mul_one]; exact h1
  exact (Int.eq_of_mul_eq_mul_left (by omega) h2).symm
theorem nf_low {t b : Int} (hb : 0 < b) : Low (nf t b) := by
  obtain ⟨g, u, v, h1, h2, h3, h4, h5, h6, h7⟩ := cg_ex t b hb
  rw [h6]
  exact ⟨by show 1 ≤ v; omega, h7⟩
theorem abs_mul_le {g u : Int} (hg : 0 < g) : u.natAbs ≤ (g * u).natAbs := by
  rw [Int.natAbs_mul]
  exact Nat.le_mul_of_pos_left _ (by omega)
theorem nf_top {t b : Int} (hb : 0 < b) : (nf t b).1.natAbs ≤ t.natAbs := by
  obtain ⟨g, u, v, h1, h2, h3, h4, h5, h6, h7⟩ := cg_ex t b hb
  rw [h6]
  conv => rhs; rw [h3]
  exact abs_mul_le h1
theorem nf_bot {t b : Int} (hb : 0 < b) : (nf t b).2.natAbs ≤ b.natAbs := by
  obtain ⟨g, u, v, h1, h2, h3, h4, h5, h6, h7⟩ := cg_ex t b hb
  rw [h6]
  conv => rhs; rw [h4]
  exact abs_mul_le h1
theorem cg_abs {t b : Int} (hb : b ≠ 0) : (cg t b).natAbs ≤ b.natAbs := by
  unfold cg
  rw [Int.natAbs_natCast]
  exact Int.gcd_le_natAbs_right t hb
theorem pow_mono {a b : Nat} (h : a ≤ b) : 2 ^ a ≤ 2 ^ b := Nat.pow_le_pow_right (by decide) h
theorem mul_bits {i j : Int} {a b : Nat} (ha : i.natAbs < 2 ^ a) (hb : j.natAbs < 2 ^ b) : (i * j).natAbs < 2 ^ (a + b) := by
  rw [Int.natAbs_mul, Nat.pow_add]
  exact Nat.mul_lt_mul'' ha hb
theorem add_bits {i j : Int} {a : Nat} (ha : i.natAbs < 2 ^ a) (hb : j.natAbs < 2 ^ a) : (i + j).natAbs < 2 ^ (a + 1) := by
  rw [Nat.pow_succ]
  omega
theorem sub_bits {i j : Int} {a : Nat} (ha : i.natAbs < 2 ^ a) (hb : j.natAbs < 2 ^ a) : (i - j).natAbs < 2 ^ (a + 1) := by
  rw [Nat.pow_succ]
  omega
theorem Fb.mono {n m : Nat} {p : Fr} (h : Fb n p) (e : n ≤ m) : Fb m p := ⟨h.pos, Nat.lt_of_lt_of_le h.top (pow_mono e), Nat.lt_of_lt_of_le h.bot (pow_mono e)⟩
theorem Fb.nf {t b : Int} {n : Nat} (hb : 0 < b) (h1 : t.natAbs < 2 ^ n) (h2 : b.natAbs < 2 ^ n) : Fb n (nf t b) := ⟨(nf_low hb).1, Nat.lt_of_le_of_lt (nf_top hb) h1, Nat.lt_of_le_of_lt (nf_bot hb) h2⟩
theorem mul_pos' {a b : Int} (ha : 1 ≤ a) (hb : 1 ≤ b) : 0 < a * b := Int.mul_pos (by omega) (by omega)
theorem Fb.add {n m : Nat} {p q : Fr} (h1 : Fb n p) (h2 : Fb m q) : Fb (n + m + 1) (fAdd p q) := by
  refine Fb.nf (mul_pos' h1.pos h2.pos) (add_bits (mul_bits h1.top h2.bot) ?_) (Nat.lt_of_lt_of_le (mul_bits h1.bot h2.bot) (pow_mono (by omega)))
  rw [Nat.add_comm n m]
  exact mul_bits h2.top h1.bot
theorem Fb.sub {n m : Nat} {p q : Fr} (h1 : Fb n p) (h2 : Fb m q) : Fb (n + m + 1) (fSub p q) := by
  refine Fb.nf (mul_pos' h1.pos h2.pos) (sub_bits (mul_bits h1.top h2.bot) ?_) (Nat.lt_of_lt_of_le (mul_bits h1.bot h2.bot) (pow_mono (by omega)))
  rw [Nat.add_comm n m]
  exact mul_bits h2.top h1.bot
theorem Fb.mul {n m : Nat} {p q : Fr} (h1 : Fb n p) (h2 : Fb m q) : Fb (n + m) (fMul p q) := Fb.nf (mul_pos' h1.pos h2.pos) (mul_bits h1.top h2.top) (mul_bits h1.bot h2.bot)
theorem Fb.div {n m : Nat} {p q : Fr} (h1 : Fb n p) (h2 : Fb m q) (hq : 0 < q.1) : Fb (n + m) (fDiv p q) := Fb.nf (mul_pos' h1.pos (by omega)) (mul_bits h1.top h2.bot) (mul_bits h1.bot h2.top)
end Tw
end
local macro_rules
  | `(tactic| walk_at "side") => `(tactic| first | assumption | omega | decide | rfl)
local macro_rules
  | `(tactic| walk_at "op") => `(tactic| first
    | exact Tw.od_add | exact Tw.od_sub | exact Tw.od_eq | exact Tw.od_ne | exact Tw.od_lt | exact Tw.od_le | exact Tw.od_gt | exact Tw.od_ge
    | exact Tw.od_mod (by walk_at "side") | exact Tw.od_mul (by walk_at "side") | exact Tw.od_div (by walk_at "side") | exact Tw.od_mulS (by walk_at "side")
    | exact Tw.od_catS (by walk_at "side") | exact Tw.od_catL (by walk_at "side") | exact Tw.od_isNi)
local macro_rules
  | `(tactic| walk_at "ix") => `(tactic| first
    | exact Tw.ix_t (Tw.atI_at 0 rfl) | exact Tw.ix_t (Tw.atI_at 1 rfl) | exact Tw.ix_t (Tw.atI_at 2 rfl) | exact Tw.ix_s (by walk_at "side") | exact Tw.ix_l (by walk_at "side") | exact Tw.ix_o rfl (by walk_at "side"))
local macro_rules
  | `(tactic| walk_at "dats") => `(tactic| first | exact .nil | exact .cons (.nil) | exact .cons (.cons (.nil)) | exact .cons (.cons (.cons (.nil))) | exact .cons (.cons (.cons (.cons (.nil)))) | exact .cons (.cons (.cons (.cons (.cons (.nil))))) | exact .cons (.cons (.cons (.cons (.cons (.cons (.nil)))))) | exact .cons (.cons (.cons (.cons (.cons (.cons (.cons (.nil))))))))
local macro_rules
  | `(tactic| walk_at "le") => `(tactic| exact Nat.le_of_ble_eq_true rfl)
local macro_rules
  | `(tactic| walk_at "lel") => `(tactic| repeat (first | exact trivial | (refine And.intro (Or.inl (And.intro rfl trivial)) ?_) | (refine And.intro (Or.inl (And.intro rfl (Nat.le_of_ble_eq_true rfl))) ?_) | (refine And.intro (Or.inr rfl) ?_)))
section
set_option Elab.async false
set_option linter.all false
set_option maxRecDepth 100000
set_option maxHeartbeats 1000000
namespace Tw
open PySem PySem.Spec PyProof.Rows L2
open Evl (Ex)
def frD (p : Fr) : Dat := .tup [.int p.1, .int p.2]
/-- a def of the text as it stands, with the way its arguments bind -/
structure FT (K : PySem.W.Frag) (mg : Str → Option Value) (x : Str) (st : Stmt) (ps : List Str) : Prop where
  ex : ∃ f fd, Fun K x x st f fd ∧ mg x = some (.ref f) ∧ Binds K fd ps []
/-- the built-in names are the built-ins' -/
structure Zb (mg : Str → Option Value) : Prop where
  len : mg "len" = none
  isinstance : mg "isinstance" = none
  int : mg "int" = none
  bool : mg "bool" = none
  tuple : mg "tuple" = none
  list : mg "list" = none
  dict : mg "dict" = none
  str : mg "str" = none
  abs : mg "abs" = none
  all : mg "all" = none
  any : mg "any" = none
  sum : mg "sum" = none
  range : mg "range" = none
  enumerate : mg "enumerate" = none
  zip : mg "zip" = none
  sorted : mg "sorted" = none
def isIntT : Dat → Bool
  | .int _ => true
  | .bl _ => true
  | _ => false
def isBlT : Dat → Bool
  | .bl _ => true
  | _ => false
def isTupT : Dat → Bool
  | .tup _ => true
  | .st _ => true
  | _ => false
def isLstT : Dat → Bool
  | .lst _ => true
  | _ => false
def isDicT : Dat → Bool
  | .dic _ => true
  | _ => false
theorem kit_int (d : Dat) : kitB (tyD d) "int" = some (isIntT d) := by cases d <;> (simp only [tyD, isIntT, isBlT, isTupT, isLstT, isDicT]; decide +kernel)
theorem kit_bool (d : Dat) : kitB (tyD d) "bool" = some (isBlT d) := by cases d <;> (simp only [tyD, isIntT, isBlT, isTupT, isLstT, isDicT]; decide +kernel)
theorem kit_tuple (d : Dat) : kitB (tyD d) "tuple" = some (isTupT d) := by cases d <;> (simp only [tyD, isIntT, isBlT, isTupT, isLstT, isDicT]; decide +kernel)
theorem kit_list (d : Dat) : kitB (tyD d) "list" = some (isLstT d) := by cases d <;> (simp only [tyD, isIntT, isBlT, isTupT, isLstT, isDicT]; decide +kernel)
theorem kit_dict (d : Dat) : kitB (tyD d) "dict" = some (isDicT d) := by cases d <;> (simp only [tyD, isIntT, isBlT, isTupT, isLstT, isDicT]; decide +kernel)
theorem boot_int' : bootBuiltins "int" = some (.type "int") := by decide +kernel
theorem boot_bool' : bootBuiltins "bool" = some (.type "bool") := by decide +kernel
theorem boot_tuple' : bootBuiltins "tuple" = some (.type "tuple") := by decide +kernel
theorem boot_list' : bootBuiltins "list" = some (.type "list") := by decide +kernel
theorem boot_dict' : bootBuiltins "dict" = some (.type "dict") := by decide +kernel
section
variable {P : Program} {w : World} {K : PySem.W.Frag} {mg : Str → Option Value} {base : Heap}
def R_gcd (ds : List Dat) (r : Dat) : Prop := ∃ a b : Int, 0 ≤ b ∧ ds = [.int a, .int b] ∧ r = .int (cg a b)
theorem ok_common_of (F : FT K mg "common_of" s_common_of P_common_of) (z : Zb mg) : Cal P w K mg base 1 "common_of" (spP K R_gcd) := by
  obtain ⟨f, fd, F, gm, hb⟩ := F.ex
  refine cal_of F gm hb sc_common_of (by decide) (fun ds r ⟨a, b, _, h, _⟩ => by rw [h]; rfl) fun cdv A outer s H E hr c ds r hR => ?_
  obtain ⟨a, b, h0, rfl, rfl⟩ := hR
  refine dss_cut (fun ρ S => ∃ a', ρ = [.d (.int a'), .d (.int 0)] ∧ S = [] ∧ cg a' 0 = cg a b) (ds_while (fun n ρ S => ∃ a' b' : Int, ρ = [.d (.int a'), .d (.int b')] ∧ S = [] ∧ 0 ≤ b' ∧ cg a' b' = cg a b ∧ n = b'.toNat) b.toNat ?_ ⟨a, b, rfl, rfl, h0, rfl, rfl⟩ ?_) ?_
  · rintro n ρ S ⟨a', b', _, rfl, _⟩; exact Nat.le_refl _
  · rintro n ρ S ⟨a', b', rfl, rfl, h1, h2, h3⟩
    refine ⟨_, _, dt_cmp (de_var 1 rfl) de_int od_ne, fun hk => ?_, fun hk => ?_⟩
    · have hb' : b' ≠ 0 := by simpa using hk
      refine dss_cons (ds_par 0 1 (by decide) (da_cons (de_var 1 rfl) (da_cons (de_bin (de_var 0 rfl) (de_var 1 rfl) (od_mod (by omega))) da_nil)) ?_ sc_common_of.nd)
      refine dss_nil ⟨(a' % b').toNat, ?_, _, _, ⟨Le.refl (by intro r hr; simp at hr; rcases hr with rfl | rfl <;> trivial), [], rfl⟩, b', a' % b', rfl, rfl, Int.emod_nonneg _ hb', by rw [cg_step]; exact h2, rfl⟩
      have := Int.emod_lt_of_pos a' (show 0 < b' by omega)
      have := Int.emod_nonneg a' hb'
      omega
    · have hb' : b' = 0 := by simpa using hk
      subst hb'
      exact ⟨a', rfl, rfl, h2⟩
  · rintro ρ S ⟨a', rfl, rfl, h⟩
    refine dss_cons (ds_ret (de_abs z.abs (da_cons (de_var 0 rfl) da_nil)) ?_)
    rw [← h, cg_zero]
    rfl
theorem ok_shared_by (F : FT K mg "shared_by" s_shared_by P_shared_by) (z : Zb mg) : Cal P w K mg base 1 "shared_by" (spP K R_gcd) := by
  obtain ⟨f, fd, F, gm, hb⟩ := F.ex
  refine cal_of F gm hb sc_shared_by (by decide) (fun ds r ⟨a, b, _, h, _⟩ => by rw [h]; rfl) fun cdv A outer s H E hr c ds r hR => ?_
  obtain ⟨a, b, h0, rfl, rfl⟩ := hR
  refine dss_cut (fun ρ S => ∃ a', ρ = [.d (.int a'), .d (.int 0)] ∧ S = [] ∧ cg a' 0 = cg a b) (ds_while (fun n ρ S => ∃ a' b' : Int, ρ = [.d (.int a'), .d (.int b')] ∧ S = [] ∧ 0 ≤ b' ∧ cg a' b' = cg a b ∧ n = b'.toNat) b.toNat ?_ ⟨a, b, rfl, rfl, h0, rfl, rfl⟩ ?_) ?_
  · rintro n ρ S ⟨a', b', _, rfl, _⟩; exact Nat.le_refl _
  · rintro n ρ S ⟨a', b', rfl, rfl, h1, h2, h3⟩
    refine ⟨_, _, dt_cmp (de_var 1 rfl) de_int od_ne, fun hk => ?_, fun hk => ?_⟩
    · have hb' : b' ≠ 0 := by simpa using hk
      refine dss_cons (ds_par 0 1 (by decide) (da_cons (de_var 1 rfl) (da_cons (de_bin (de_var 0 rfl) (de_var 1 rfl) (od_mod (by omega))) da_nil)) ?_ sc_shared_by.nd)
      refine dss_nil ⟨(a' % b').toNat, ?_, _, _, ⟨Le.refl (by intro r hr; simp at hr; rcases hr with rfl | rfl <;> trivial), [], rfl⟩, b', a' % b', rfl, rfl, Int.emod_nonneg _ hb', by rw [cg_step]; exact h2, rfl⟩
      have := Int.emod_lt_of_pos a' (show 0 < b' by omega)
      have := Int.emod_nonneg a' hb'
      omega
    · have hb' : b' = 0 := by simpa using hk
      subst hb'
      exact ⟨a', rfl, rfl, h2⟩
  · rintro ρ S ⟨a', rfl, rfl, h⟩
    refine dss_cons (ds_ret (de_abs z.abs (da_cons (de_var 0 rfl) da_nil)) ?_)
    rw [← h, cg_zero]
    rfl
theorem ok_law_shared (F : FT K mg "_law_shared" s__law_shared P__law_shared) (z : Zb mg) : Cal P w K mg base 1 "_law_shared" (spP K R_gcd) := by
  obtain ⟨f, fd, F, gm, hb⟩ := F.ex
  refine cal_of F gm hb sc__law_shared (by decide) (fun ds r ⟨a, b, _, h, _⟩ => by rw [h]; rfl) fun cdv A outer s H E hr c ds r hR => ?_
  obtain ⟨a, b, h0, rfl, rfl⟩ := hR
  refine dss_cut (fun ρ S => ∃ a', ρ = [.d (.int a'), .d (.int 0)] ∧ S = [] ∧ cg a' 0 = cg a b) (ds_while (fun n ρ S => ∃ a' b' : Int, ρ = [.d (.int a'), .d (.int b')] ∧ S = [] ∧ 0 ≤ b' ∧ cg a' b' = cg a b ∧ n = b'.toNat) b.toNat ?_ ⟨a, b, rfl, rfl, h0, rfl, rfl⟩ ?_) ?_
  · rintro n ρ S ⟨a', b', _, rfl, _⟩; exact Nat.le_refl _
  · rintro n ρ S ⟨a', b', rfl, rfl, h1, h2, h3⟩
    refine ⟨_, _, dt_cmp (de_var 1 rfl) de_int od_ne, fun hk => ?_, fun hk => ?_⟩
    · have hb' : b' ≠ 0 := by simpa using hk
      refine dss_cons (ds_par 0 1 (by decide) (da_cons (de_var 1 rfl) (da_cons (de_bin (de_var 0 rfl) (de_var 1 rfl) (od_mod (by omega))) da_nil)) ?_ sc__law_shared.nd)
      refine dss_nil ⟨(a' % b').toNat, ?_, _, _, ⟨Le.refl (by intro r hr; simp at hr; rcases hr with rfl | rfl <;> trivial), [], rfl⟩, b', a' % b', rfl, rfl, Int.emod_nonneg _ hb', by rw [cg_step]; exact h2, rfl⟩
      have := Int.emod_lt_of_pos a' (show 0 < b' by omega)
      have := Int.emod_nonneg a' hb'
      omega
    · have hb' : b' = 0 := by simpa using hk
      subst hb'
      exact ⟨a', rfl, rfl, h2⟩
  · rintro ρ S ⟨a', rfl, rfl, h⟩
    refine dss_cons (ds_ret (de_abs z.abs (da_cons (de_var 0 rfl) da_nil)) ?_)
    rw [← h, cg_zero]
    rfl

/-! ### fraction_of and its kin -/
def R_nf (ds : List Dat) (r : Dat) : Prop := ∃ t b : Int, 0 < b ∧ b.natAbs < 2 ^ 9000 ∧ ds = [.int t, .int b] ∧ r = frD (nf t b)
theorem cg_div {t b : Int} (h0 : 0 < b) (hb : b.natAbs < 2 ^ 9000) : ∀ i, CDivW i (cg t b) := fun i => wide_div (cg_pos (by omega)) (Nat.lt_of_le_of_lt (cg_abs (by omega)) hb) (by decide) (by decide)
theorem ok_fraction_of (F : FT K mg "fraction_of" s_fraction_of P_fraction_of) (c_common_of : Cal P w K mg base 1 "common_of" (spP K R_gcd)) : Cal P w K mg base 2 "fraction_of" (spP K R_nf) := by
  obtain ⟨f, fd, F, gm, hb⟩ := F.ex
  refine cal_of F gm hb sc_fraction_of (by decide) (fun ds r ⟨a, b, _, _, h, _⟩ => by rw [h]; rfl) fun cdv A outer s H E hr c ds r hR => ?_
  obtain ⟨t, b, h0, hb, rfl, rfl⟩ := hR
  have hd := cg_div (t := t) h0 hb
  refine dss_cons (ds_if (dt_cmp (de_var 1 rfl) de_int (by walk_at "op")) (fun hk => ?_) fun hk => ?_)   -- bottom == 0
  · have := of_decide_eq_true hk
    omega
  refine dss_nil ?_
  refine dss_cons (ds_set 2 (de_call c_common_of (hr.mono (by decide)) (da_cons (de_var 0 rfl) (da_cons (de_var 1 rfl) da_nil)) (by walk_at "dats") ⟨t, b, by omega, rfl, rfl⟩) ?_ sc_fraction_of.nd)
  refine dss_cons (ds_if (dt_cmp (de_var 1 rfl) de_int (by walk_at "op")) (fun hk => ?_) fun hk => ?_)   -- bottom < 0
  · have := of_decide_eq_true hk
    omega
  refine dss_nil ?_
  refine dss_cons (ds_ret (de_tup (da_cons (de_bin (de_var 0 rfl) (de_var 2 rfl) (od_div (hd _))) (da_cons (de_bin (de_var 1 rfl) (de_var 2 rfl) (od_div (hd _))) da_nil)) (by walk_at "dats") (by walk_at "le")) ?_)
  rfl
theorem ok_law_frac (F : FT K mg "_law_frac" s__law_frac P__law_frac) (c__law_shared : Cal P w K mg base 1 "_law_shared" (spP K R_gcd)) : Cal P w K mg base 2 "_law_frac" (spP K R_nf) := by
  obtain ⟨f, fd, F, gm, hb⟩ := F.ex
  refine cal_of F gm hb sc__law_frac (by decide) (fun ds r ⟨a, b, _, _, h, _⟩ => by rw [h]; rfl) fun cdv A outer s H E hr c ds r hR => ?_
  obtain ⟨t, b, h0, hb, rfl, rfl⟩ := hR
  have hd := cg_div (t := t) h0 hb
  refine dss_cons (ds_set 2 (de_call c__law_shared (hr.mono (by decide)) (da_cons (de_var 0 rfl) (da_cons (de_var 1 rfl) da_nil)) (by walk_at "dats") ⟨t, b, by omega, rfl, rfl⟩) ?_ sc__law_frac.nd)
  refine dss_cons (ds_if (dt_cmp (de_var 1 rfl) de_int (by walk_at "op")) (fun hk => ?_) fun hk => ?_)   -- bottom < 0
  · have := of_decide_eq_true hk
    omega
  refine dss_nil ?_
  refine dss_cons (ds_ret (de_tup (da_cons (de_bin (de_var 0 rfl) (de_var 2 rfl) (od_div (hd _))) (da_cons (de_bin (de_var 1 rfl) (de_var 2 rfl) (od_div (hd _))) da_nil)) (by walk_at "dats") (by walk_at "le")) ?_)
  rfl
/-- an operation on two fractions -/
def R_fr (g : Fr → Fr → Fr) (ds : List Dat) (r : Dat) : Prop := ∃ (p q : Fr) (n m : Nat), Fb n p ∧ Fb m q ∧ 0 < n ∧ 0 < m ∧ n + m ≤ 8000 ∧ ds = [frD p, frD q] ∧ r = frD (g p q)
theorem Fb.bits {p q : Fr} {n m : Nat} (h1 : Fb n p) (h2 : Fb m q) (h3 : 0 < n) (h4 : 0 < m) (h5 : n + m ≤ 8000) : CMulW p.1 q.2 ∧ CMulW q.1 p.2 ∧ CMulW p.2 q.2 ∧ CMulW p.1 q.1 ∧ 0 < p.2 * q.2 ∧ (p.2 * q.2).natAbs < 2 ^ 9000 :=
  ⟨wide_mul h1.top h2.bot h3 h4 (by omega), wide_mul h2.top h1.bot h4 h3 (by omega), wide_mul h1.bot h2.bot h3 h4 (by omega), wide_mul h1.top h2.top h3 h4 (by omega), mul_pos' h1.pos h2.pos, Nat.lt_of_lt_of_le (mul_bits h1.bot h2.bot) (pow_mono (by omega))⟩
theorem ok_frac_sum (F : FT K mg "frac_sum" s_frac_sum P_frac_sum) (c_fraction_of : Cal P w K mg base 2 "fraction_of" (spP K R_nf)) : Cal P w K mg base 3 "frac_sum" (spP K (R_fr fAdd)) := by
  obtain ⟨f, fd, F, gm, hb⟩ := F.ex
  refine cal_of F gm hb sc_frac_sum (by decide) (fun ds r ⟨_, _, _, _, _, _, _, _, _, h, _⟩ => by rw [h]; rfl) fun cdv A outer s H E hr c ds r hR => ?_
  obtain ⟨p, q, n, m, h1, h2, h3, h4, h5, rfl, rfl⟩ := hR
  obtain ⟨b1, b2, b3, b4, b5, b6⟩ := h1.bits h2 h3 h4 h5
  refine dss_cons (ds_ret (de_call c_fraction_of (hr.mono (by decide)) (da_cons (de_bin (de_bin (de_ix (de_var 0 rfl) de_int (ix_t (atI_at 0 rfl))) (de_ix (de_var 1 rfl) de_int (ix_t (atI_at 1 rfl))) (od_mul b1)) (de_bin (de_ix (de_var 1 rfl) de_int (ix_t (atI_at 0 rfl))) (de_ix (de_var 0 rfl) de_int (ix_t (atI_at 1 rfl))) (od_mul b2)) od_add) (da_cons (de_bin (de_ix (de_var 0 rfl) de_int (ix_t (atI_at 1 rfl))) (de_ix (de_var 1 rfl) de_int (ix_t (atI_at 1 rfl))) (od_mul b3)) da_nil)) (by walk_at "dats") ⟨_, _, b5, b6, rfl, rfl⟩) ?_)
  rfl
theorem ok_frac_less (F : FT K mg "frac_less" s_frac_less P_frac_less) (c_fraction_of : Cal P w K mg base 2 "fraction_of" (spP K R_nf)) : Cal P w K mg base 3 "frac_less" (spP K (R_fr fSub)) := by
  obtain ⟨f, fd, F, gm, hb⟩ := F.ex
  refine cal_of F gm hb sc_frac_less (by decide) (fun ds r ⟨_, _, _, _, _, _, _, _, _, h, _⟩ => by rw [h]; rfl) fun cdv A outer s H E hr c ds r hR => ?_
  obtain ⟨p, q, n, m, h1, h2, h3, h4, h5, rfl, rfl⟩ := hR
  obtain ⟨b1, b2, b3, b4, b5, b6⟩ := h1.bits h2 h3 h4 h5
  refine dss_cons (ds_ret (de_call c_fraction_of (hr.mono (by decide)) (da_cons (de_bin (de_bin (de_ix (de_var 0 rfl) de_int (ix_t (atI_at 0 rfl))) (de_ix (de_var 1 rfl) de_int (ix_t (atI_at 1 rfl))) (od_mul b1)) (de_bin (de_ix (de_var 1 rfl) de_int (ix_t (atI_at 0 rfl))) (de_ix (de_var 0 rfl) de_int (ix_t (atI_at 1 rfl))) (od_mul b2)) od_sub) (da_cons (de_bin (de_ix (de_var 0 rfl) de_int (ix_t (atI_at 1 rfl))) (de_ix (de_var 1 rfl) de_int (ix_t (atI_at 1 rfl))) (od_mul b3)) da_nil)) (by walk_at "dats") ⟨_, _, b5, b6, rfl, rfl⟩) ?_)
  rfl
theorem ok_frac_times (F : FT K mg "frac_times" s_frac_times P_frac_times) (c_fraction_of : Cal P w K mg base 2 "fraction_of" (spP K R_nf)) : Cal P w K mg base 3 "frac_times" (spP K (R_fr fMul)) := by
  obtain ⟨f, fd, F, gm, hb⟩ := F.ex
  refine cal_of F gm hb sc_frac_times (by decide) (fun ds r ⟨_, _, _, _, _, _, _, _, _, h, _⟩ => by rw [h]; rfl) fun cdv A outer s H E hr c ds r hR => ?_
  obtain ⟨p, q, n, m, h1, h2, h3, h4, h5, rfl, rfl⟩ := hR
  obtain ⟨b1, b2, b3, b4, b5, b6⟩ := h1.bits h2 h3 h4 h5
  refine dss_cons (ds_ret (de_call c_fraction_of (hr.mono (by decide)) (da_cons (de_bin (de_ix (de_var 0 rfl) de_int (ix_t (atI_at 0 rfl))) (de_ix (de_var 1 rfl) de_int (ix_t (atI_at 0 rfl))) (od_mul b4)) (da_cons (de_bin (de_ix (de_var 0 rfl) de_int (ix_t (atI_at 1 rfl))) (de_ix (de_var 1 rfl) de_int (ix_t (atI_at 1 rfl))) (od_mul b3)) da_nil)) (by walk_at "dats") ⟨_, _, b5, b6, rfl, rfl⟩) ?_)
  rfl
theorem ok_law_plus (F : FT K mg "_law_plus" s__law_plus P__law_plus) (c__law_frac : Cal P w K mg base 2 "_law_frac" (spP K R_nf)) : Cal P w K mg base 3 "_law_plus" (spP K (R_fr fAdd)) := by
  obtain ⟨f, fd, F, gm, hb⟩ := F.ex
  refine cal_of F gm hb sc__law_plus (by decide) (fun ds r ⟨_, _, _, _, _, _, _, _, _, h, _⟩ => by rw [h]; rfl) fun cdv A outer s H E hr c ds r hR => ?_
  obtain ⟨p, q, n, m, h1, h2, h3, h4, h5, rfl, rfl⟩ := hR
  obtain ⟨b1, b2, b3, b4, b5, b6⟩ := h1.bits h2 h3 h4 h5
  refine dss_cons (ds_ret (de_call c__law_frac (hr.mono (by decide)) (da_cons (de_bin (de_bin (de_ix (de_var 0 rfl) de_int (ix_t (atI_at 0 rfl))) (de_ix (de_var 1 rfl) de_int (ix_t (atI_at 1 rfl))) (od_mul b1)) (de_bin (de_ix (de_var 1 rfl) de_int (ix_t (atI_at 0 rfl))) (de_ix (de_var 0 rfl) de_int (ix_t (atI_at 1 rfl))) (od_mul b2)) od_add) (da_cons (de_bin (de_ix (de_var 0 rfl) de_int (ix_t (atI_at 1 rfl))) (de_ix (de_var 1 rfl) de_int (ix_t (atI_at 1 rfl))) (od_mul b3)) da_nil)) (by walk_at "dats") ⟨_, _, b5, b6, rfl, rfl⟩) ?_)
  rfl
theorem ok_law_by (F : FT K mg "_law_by" s__law_by P__law_by) (c__law_frac : Cal P w K mg base 2 "_law_frac" (spP K R_nf)) : Cal P w K mg base 3 "_law_by" (spP K (R_fr fMul)) := by
  obtain ⟨f, fd, F, gm, hb⟩ := F.ex
  refine cal_of F gm hb sc__law_by (by decide) (fun ds r ⟨_, _, _, _, _, _, _, _, _, h, _⟩ => by rw [h]; rfl) fun cdv A outer s H E hr c ds r hR => ?_
  obtain ⟨p, q, n, m, h1, h2, h3, h4, h5, rfl, rfl⟩ := hR
  obtain ⟨b1, b2, b3, b4, b5, b6⟩ := h1.bits h2 h3 h4 h5
  refine dss_cons (ds_ret (de_call c__law_frac (hr.mono (by decide)) (da_cons (de_bin (de_ix (de_var 0 rfl) de_int (ix_t (atI_at 0 rfl))) (de_ix (de_var 1 rfl) de_int (ix_t (atI_at 0 rfl))) (od_mul b4)) (da_cons (de_bin (de_ix (de_var 0 rfl) de_int (ix_t (atI_at 1 rfl))) (de_ix (de_var 1 rfl) de_int (ix_t (atI_at 1 rfl))) (od_mul b3)) da_nil)) (by walk_at "dats") ⟨_, _, b5, b6, rfl, rfl⟩) ?_)
  rfl
/-- the quotient, by a fraction above 0 -/
def R_by (ds : List Dat) (r : Dat) : Prop := ∃ (p q : Fr) (n m : Nat), Fb n p ∧ Fb m q ∧ 0 < q.1 ∧ 0 < n ∧ 0 < m ∧ n + m ≤ 8000 ∧ ds = [frD p, frD q] ∧ r = frD (fDiv p q)
theorem ok_frac_by (F : FT K mg "frac_by" s_frac_by P_frac_by) (c_fraction_of : Cal P w K mg base 2 "fraction_of" (spP K R_nf)) : Cal P w K mg base 3 "frac_by" (spP K R_by) := by
  obtain ⟨f, fd, F, gm, hb⟩ := F.ex
  refine cal_of F gm hb sc_frac_by (by decide) (fun ds r ⟨_, _, _, _, _, _, _, _, _, _, h, _⟩ => by rw [h]; rfl) fun cdv A outer s H E hr c ds r hR => ?_
  obtain ⟨p, q, n, m, h1, h2, hq, h3, h4, h5, rfl, rfl⟩ := hR
  have b1 : CMulW p.1 q.2 := wide_mul h1.top h2.bot h3 h4 (by omega)
  have b2 : CMulW p.2 q.1 := wide_mul h1.bot h2.top h3 h4 (by omega)
  refine dss_cons (ds_if (dt_cmp (de_ix (de_var 1 rfl) de_int (ix_t (atI_at 0 rfl))) de_int od_eq) (fun hk => ?_) fun hk => ?_)
  · have := of_decide_eq_true hk
    omega
  refine dss_nil ?_
  refine dss_cons (ds_ret (de_call c_fraction_of (hr.mono (by decide)) (da_cons (de_bin (de_ix (de_var 0 rfl) de_int (ix_t (atI_at 0 rfl))) (de_ix (de_var 1 rfl) de_int (ix_t (atI_at 1 rfl))) (od_mul b1)) (da_cons (de_bin (de_ix (de_var 0 rfl) de_int (ix_t (atI_at 1 rfl))) (de_ix (de_var 1 rfl) de_int (ix_t (atI_at 0 rfl))) (od_mul b2)) da_nil)) (by walk_at "dats") ⟨_, _, mul_pos' h1.pos (by omega), Nat.lt_of_lt_of_le (mul_bits h1.bot h2.top) (pow_mono (by omega)), rfl, rfl⟩) ?_)
  rfl
def R_below (ds : List Dat) (r : Dat) : Prop := ∃ (p q : Fr) (n m : Nat), Fb n p ∧ Fb m q ∧ 0 < n ∧ 0 < m ∧ n + m ≤ 8000 ∧ ds = [frD p, frD q] ∧ r = .bl (fLt p q)
theorem ok_frac_below (F : FT K mg "frac_below" s_frac_below P_frac_below) : Cal P w K mg base 1 "frac_below" (spP K R_below) := by
  obtain ⟨f, fd, F, gm, hb⟩ := F.ex
  refine cal_of F gm hb sc_frac_below (by decide) (fun ds r ⟨_, _, _, _, _, _, _, _, _, h, _⟩ => by rw [h]; rfl) fun cdv A outer s H E hr c ds r hR => ?_
  obtain ⟨p, q, n, m, h1, h2, h3, h4, h5, rfl, rfl⟩ := hR
  obtain ⟨b1, b2, b3, b4, b5, b6⟩ := h1.bits h2 h3 h4 h5
  refine dss_cons (ds_ret (de_cmp (de_bin (de_ix (de_var 0 rfl) de_int (ix_t (atI_at 0 rfl))) (de_ix (de_var 1 rfl) de_int (ix_t (atI_at 1 rfl))) (od_mul b1)) (de_bin (de_ix (de_var 1 rfl) de_int (ix_t (atI_at 0 rfl))) (de_ix (de_var 0 rfl) de_int (ix_t (atI_at 1 rfl))) (od_mul b2)) od_lt) ?_)
  rfl
theorem ok_law_below (F : FT K mg "_law_below" s__law_below P__law_below) : Cal P w K mg base 1 "_law_below" (spP K R_below) := by
  obtain ⟨f, fd, F, gm, hb⟩ := F.ex
  refine cal_of F gm hb sc__law_below (by decide) (fun ds r ⟨_, _, _, _, _, _, _, _, _, h, _⟩ => by rw [h]; rfl) fun cdv A outer s H E hr c ds r hR => ?_
  obtain ⟨p, q, n, m, h1, h2, h3, h4, h5, rfl, rfl⟩ := hR
  obtain ⟨b1, b2, b3, b4, b5, b6⟩ := h1.bits h2 h3 h4 h5
  refine dss_cons (ds_ret (de_cmp (de_bin (de_ix (de_var 0 rfl) de_int (ix_t (atI_at 0 rfl))) (de_ix (de_var 1 rfl) de_int (ix_t (atI_at 1 rfl))) (od_mul b1)) (de_bin (de_ix (de_var 1 rfl) de_int (ix_t (atI_at 0 rfl))) (de_ix (de_var 0 rfl) de_int (ix_t (atI_at 1 rfl))) (od_mul b2)) od_lt) ?_)
  rfl

/-! ### what is a fraction -/
def isInt : Dat → Bool
  | .int _ => true
  | _ => false
def isFrD : Dat → Bool
  | .tup [.int a, .int b] => decide (1 ≤ b) && decide (cg a b = 1)
  | _ => false
def R_is_whole (ds : List Dat) (r : Dat) : Prop := ∃ d, ds = [d] ∧ r = .bl (isInt d)
theorem ok_is_whole (F : FT K mg "is_whole" s_is_whole P_is_whole) (z : Zb mg) : Cal P w K mg base 1 "is_whole" (spP K R_is_whole) := by
  obtain ⟨f, fd, F, gm, hb⟩ := F.ex
  refine cal_of F gm hb sc_is_whole (by decide) (fun ds r ⟨_, h, _⟩ => by rw [h]; rfl) fun cdv A outer s H E hr c ds r hR => ?_
  obtain ⟨d, rfl, rfl⟩ := hR
  refine dss_cons (ds_ret (de_and (de_isi z.isinstance z.int (de_var 0 rfl) (kit_int d) boot_int') fun hk => (de_one (de_not (de_isi z.isinstance z.bool (de_var 0 rfl) (kit_bool d) boot_bool')))) ?_)
  cases d <;> rfl
end
end Tw
end
section
/-! TwSpec: benches, books, states in plain Lean. -/
set_option autoImplicit false
set_option linter.all false
namespace Tw
abbrev Move := Fr × Nat
abbrev Stand := Fr × List Move
abbrev Bench := List Stand
abbrev Book := Fr × List Bench
def sumTo (ms : List Move) : Fr := ms.foldl (fun t m => fAdd t m.1) (0, 1)
structure MovesOk (n : Nat) (ms : List Move) : Prop where
  low : ∀ m ∈ ms, Low m.1 ∧ 0 < m.1.1 ∧ Fb 5 m.1
  rise : (ms.map (·.2)).Pairwise (· < ·)
  lt : ∀ m ∈ ms, m.2 < n
  sum : sumTo ms = (1, 1)
  few : ms.length ≤ 5
structure StandOk (n : Nat) (s : Stand) : Prop where
  low : Low s.1
  fb : Fb 4 s.1
  mv : MovesOk n s.2
structure BenchOk (b : Bench) : Prop where
  pos : 1 ≤ b.length
  few : b.length ≤ 5
  st : ∀ s ∈ b, StandOk b.length s
structure PartOk (p : Fr) : Prop where
  low : Low p
  fb : Fb 4 p
  pos : 0 < p.1
  lt : p.1 < p.2
def sizes (k : Book) : List Nat := k.2.map (·.length)
def many (k : Book) : Nat := (sizes k).foldl (· * ·) 1
structure BookOk (k : Book) : Prop where
  part : PartOk k.1
  pos : 1 ≤ k.2.length
  few : k.2.length ≤ 3
  bn : ∀ b ∈ k.2, BenchOk b
  many : many k ≤ 64
/-- all states, lesser ones first -/
def statesOf : List Nat → List (List Int) := fun l => l.foldl (fun found n => found.flatMap fun s => (List.range n).map fun (j : Nat) => s ++ [(j : Int)]) [[]]
theorem statesOf_len (l : List Nat) : (statesOf l).length = l.foldl (· * ·) 1 := by
  have h : ∀ (l : List Nat) (acc : List (List Int)), (l.foldl (fun found n => found.flatMap fun s => (List.range n).map fun (j : Nat) => s ++ [(j : Int)]) acc).length = l.foldl (· * ·) acc.length := by
    intro l
    induction l with
    | nil => intro acc; rfl
    | cons n l ih =>
      intro acc
      rw [List.foldl_cons, List.foldl_cons, ih]
      congr 1
      rw [List.length_flatMap]
      have : (List.map (fun s => ((List.range n).map fun (j : Nat) => s ++ [(j : Int)]).length) acc) = List.replicate acc.length n := by
        rw [List.eq_replicate_iff]
        refine ⟨by rw [List.length_map], ?_⟩
        intro x hx
        obtain ⟨s, _, rfl⟩ := List.mem_map.mp hx
        rw [List.length_map, List.length_range]
      rw [this, List.sum_replicate_nat]
  exact h l [[]]
theorem pairs_fb {t : Fr} {n : Nat} : ∀ {ms : List Move} (_ : ∀ m ∈ ms, Fb 5 m.1) {t : Fr} {n : Nat} (_ : Fb n t), Fb (n + 6 * ms.length) (ms.foldl (fun t m => fAdd t m.1) t)
  | [], _, t, n, ht => ht
  | m :: ms, h, t, n, ht => by
    have h1 := Fb.add ht (h m List.mem_cons_self)
    have h2 := pairs_fb (t := t) (n := n) (fun m hm => h m (List.mem_cons_of_mem _ hm)) h1
    rw [List.foldl_cons]
    refine h2.mono ?_
    rw [List.length_cons]
    omega
end Tw
end
section
set_option Elab.async false
set_option linter.all false
set_option maxRecDepth 100000
set_option maxHeartbeats 1000000
namespace Tw
open PySem PySem.Spec PyProof.Rows L2
open Evl (Ex)
def moveD (m : Move) : Dat := .tup [frD m.1, .int (m.2 : Nat)]
def movesD (ms : List Move) : Dat := .lst (ms.map moveD)
def standD (s : Stand) : Dat := .tup [frD s.1, movesD s.2]
def benchD (b : Bench) : Dat := .lst (b.map standD)
def bookD (k : Book) : Dat := .tup [frD k.1, .lst (k.2.map benchD)]
def isSt : Dat → Bool
  | .st _ => true
  | _ => false
theorem isFr_low {p : Fr} (h : Low p) : isFrD (frD p) = true := by
  show (decide (1 ≤ p.2) && decide (cg p.1 p.2 = 1)) = true
  rw [decide_eq_true h.1, decide_eq_true h.2]
  rfl
theorem isInt_get {d : Dat} (h : isInt d = true) : ∃ i, d = .int i := by
  cases d <;> first | exact ⟨_, rfl⟩ | cases h
theorem isFr_not {x y : Dat} (h : (isInt x && isInt y) = false) : isFrD (.tup [x, y]) = false := by
  cases x <;> cases y <;> first | rfl | cases h
theorem isFr_len {ds : List Dat} (h : ds.length ≠ 2) : isFrD (.tup ds) = false := by
  match ds, h with
  | [], _ => rfl
  | [_], _ => simp [isFrD]
  | [_, _], h => exact absurd rfl h
  | _ :: _ :: _ :: _, _ => simp [isFrD]
theorem ff {p : Prop} (h : false = true) : p := absurd h (by decide)
theorem tf {p : Prop} (h : true = false) : p := absurd h (by decide)
section
variable {P : Program} {w : World} {K : PySem.W.Frag} {mg : Str → Option Value} {base : Heap}
def R_is_fraction (ds : List Dat) (r : Dat) : Prop := ∃ d, ds = [d] ∧ isSt d = false ∧ r = .bl (isFrD d)
theorem len2 {ds : List Dat} (h : ds.length = 2) : ∃ x y, ds = [x, y] := by
  match ds, h with
  | [x, y], _ => exact ⟨x, y, rfl⟩
theorem ok_is_fraction (F : FT K mg "is_fraction" s_is_fraction P_is_fraction) (z : Zb mg) (c_common_of : Cal P w K mg base 1 "common_of" (spP K R_gcd)) (c_is_whole : Cal P w K mg base 1 "is_whole" (spP K R_is_whole)) : Cal P w K mg base 2 "is_fraction" (spP K R_is_fraction) := by
  obtain ⟨f, fd, F, gm, hb⟩ := F.ex
  refine cal_of F gm hb sc_is_fraction (by decide) (fun ds r ⟨_, h, _⟩ => by rw [h]; rfl) fun cdv A outer s H E hr c ds r hR => ?_
  obtain ⟨d, rfl, hst, rfl⟩ := hR
  cases ht : isTupT d with
  | false =>
    have e : isFrD d = false := by cases d <;> first | rfl | cases ht
    refine dss_cons (ds_if (dw_dt (dw_or (k2 := false) (dt_not (dt_val (de_isi z.isinstance z.tuple (de_var 0 rfl) (kit_tuple d) boot_tuple'))) fun hk => absurd hk (by rw [ht]; decide))) (fun hk => ?_) fun hk => ?_)
    · refine dss_cons (ds_ret de_bl ?_)
      rw [e]; rfl
    · rw [ht] at hk; cases hk
  | true =>
    obtain ⟨ds, rfl⟩ : ∃ ds, d = .tup ds := by cases d <;> first | exact ⟨_, rfl⟩ | (cases hst; done) | (cases ht; done)
    by_cases hl : ds.length = 2
    · obtain ⟨x, y, rfl⟩ := len2 hl
      refine dss_cons (ds_if (dw_dt (dw_or (dt_not (dt_val (de_isi z.isinstance z.tuple (de_var 0 rfl) (kit_tuple _) boot_tuple'))) fun hk => (dw_or (dt_cmp (de_len z.len (da_cons (de_var 0 rfl) da_nil) rfl) de_int od_ne) fun hk => (dw_or (dt_not (dt_val (de_call c_is_whole (hr.mono (by decide)) (da_cons (de_ix (de_var 0 rfl) de_int (ix_t (atI_at 0 rfl))) da_nil) (by walk_at "dats") ⟨x, rfl, rfl⟩))) fun hk => (dw_or1 (dt_not (dt_val (de_call c_is_whole (hr.mono (by decide)) (da_cons (de_ix (de_var 0 rfl) de_int (ix_t (atI_at 1 rfl))) da_nil) (by walk_at "dats") ⟨y, rfl, rfl⟩)))))))) (fun hk => ?_) fun hk => ?_)
      · refine dss_cons (ds_ret de_bl ?_)
        rw [isFr_not (by cases hx : isInt x <;> cases hy : isInt y <;> first | rfl | (rw [hx, hy] at hk; exact ff hk))]
        rfl
      · have hx : isInt x = true := by cases hx : isInt x <;> first | rfl | (rw [hx] at hk; simp at hk)
        have hy : isInt y = true := by cases hy : isInt y <;> first | rfl | (rw [hy] at hk; simp at hk)
        obtain ⟨a, rfl⟩ := isInt_get hx
        obtain ⟨b, rfl⟩ := isInt_get hy
        refine dss_nil ?_
        refine dss_cons (ds_ret (de_and (de_cmp (de_ix (de_var 0 rfl) de_int (ix_t (atI_at 1 rfl))) de_int od_ge) fun hk => (de_one (de_cmp (de_call c_common_of (hr.mono (by decide)) (da_cons (de_ix (de_var 0 rfl) de_int (ix_t (atI_at 0 rfl))) (da_cons (de_ix (de_var 0 rfl) de_int (ix_t (atI_at 1 rfl))) da_nil)) (by walk_at "dats") ⟨a, b, by have := of_decide_eq_true hk; omega, rfl, rfl⟩) de_int od_eq))) ?_)
        rfl
    · have e : isFrD (.tup ds) = false := isFr_len hl
      have hk1 : decide (((ds.length : Nat) : Int) = 2) = false := decide_eq_false (by omega)
      refine dss_cons (ds_if (dw_dt (dw_or (dt_not (dt_val (de_isi z.isinstance z.tuple (de_var 0 rfl) (kit_tuple _) boot_tuple'))) fun hk => (dw_or (k2 := false) (dt_cmp (de_len z.len (da_cons (de_var 0 rfl) da_nil) rfl) de_int od_ne) fun hk => absurd hk (by rw [hk1]; decide)))) (fun hk => ?_) fun hk => ?_)
      · refine dss_cons (ds_ret de_bl ?_)
        rw [e]; rfl
      · rw [hk1] at hk
        simp at hk
def R_is_move (ds : List Dat) (r : Dat) : Prop := ∃ (m : Move) (n : Nat) (last : Int), Low m.1 ∧ 0 < m.1.1 ∧ last < (m.2 : Nat) ∧ m.2 < n ∧ ds = [moveD m, .int (n : Nat), .int last] ∧ r = .bl true
theorem ok_is_move (F : FT K mg "is_move" s_is_move P_is_move) (z : Zb mg) (c_is_fraction : Cal P w K mg base 2 "is_fraction" (spP K R_is_fraction)) (c_is_whole : Cal P w K mg base 1 "is_whole" (spP K R_is_whole)) : Cal P w K mg base 3 "is_move" (spP K R_is_move) := by
  obtain ⟨f, fd, F, gm, hb⟩ := F.ex
  refine cal_of F gm hb sc_is_move (by decide) (fun ds r ⟨_, _, _, _, _, _, _, h, _⟩ => by rw [h]; rfl) fun cdv A outer s H E hr c ds r hR => ?_
  obtain ⟨m, n, last, h1, h2, h3, h4, rfl, rfl⟩ := hR
  have e1 := isFr_low h1
  refine dss_cons (ds_if (dw_dt (dw_or (dt_not (dt_val (de_isi z.isinstance z.tuple (de_var 0 rfl) (kit_tuple _) boot_tuple'))) fun hk => (dw_or (dt_cmp (de_len z.len (da_cons (de_var 0 rfl) da_nil) rfl) de_int od_ne) fun hk => (dw_or (dt_not (dt_val (de_call c_is_fraction (hr.mono (by decide)) (da_cons (de_ix (de_var 0 rfl) de_int (ix_t (atI_at 0 rfl))) da_nil) (by walk_at "dats") ⟨frD m.1, rfl, rfl, rfl⟩))) fun hk => (dw_or1 (dt_not (dt_val (de_call c_is_whole (hr.mono (by decide)) (da_cons (de_ix (de_var 0 rfl) de_int (ix_t (atI_at 1 rfl))) da_nil) (by walk_at "dats") ⟨_, rfl, rfl⟩)))))))) (fun hk => ?_) fun hk => ?_)
  · rw [e1] at hk; exact ff hk
  refine dss_nil ?_
  refine dss_cons (ds_ret (de_and (de_cmp (de_ix (de_ix (de_var 0 rfl) de_int (ix_t (atI_at 0 rfl))) de_int (ix_t (ds := [.int m.1.1, .int m.1.2]) (atI_at 0 rfl))) de_int od_gt) fun hk => (de_and (de_cmp (de_ix (de_var 0 rfl) de_int (ix_t (atI_at 1 rfl))) (de_var 2 rfl) od_gt) fun hk => (de_one (de_cmp (de_ix (de_var 0 rfl) de_int (ix_t (atI_at 1 rfl))) (de_var 1 rfl) od_lt)))) ?_)
  have d1 : decide (0 < m.1.1) = true := decide_eq_true h2
  have d2 : decide (last < ((m.2 : Nat) : Int)) = true := decide_eq_true h3
  have d3 : decide (((m.2 : Nat) : Int) < ((n : Nat) : Int)) = true := decide_eq_true (by omega)
  rw [d1, d2, d3]
  rfl
def R_are_moves (ds : List Dat) (r : Dat) : Prop := ∃ (ms : List Move) (n : Nat), MovesOk n ms ∧ ds = [movesD ms, .int (n : Nat)] ∧ r = .bl true
def lastOf (ms : List Move) : Int := (ms.map fun m => ((m.2 : Nat) : Int)).getLast?.getD (-1)
theorem eqv_ints (a b c d : Int) : PyData.eqv (py (.tup [.int a, .int b])) (py (.tup [.int c, .int d])) = (a == c && b == d) := by
  simp [py, pyAll, PyData.eqv, PyData.eqvAll]
theorem shaped_fr (a b : Int) : SeqAt.shaped (py (.tup [.int a, .int b])) = true := rfl
theorem ok_are_moves (F : FT K mg "are_moves" s_are_moves P_are_moves) (z : Zb mg) (c_is_move : Cal P w K mg base 3 "is_move" (spP K R_is_move)) (c_frac_sum : Cal P w K mg base 3 "frac_sum" (spP K (R_fr fAdd))) (g_WHOLE : GC K mg "WHOLE" (frD (1, 1))) : Cal P w K mg base 4 "are_moves" (spP K R_are_moves) := by
  obtain ⟨f, fd, F, gm, hb⟩ := F.ex
  refine cal_of F gm hb sc_are_moves (by decide) (fun ds r ⟨_, _, _, h, _⟩ => by rw [h]; rfl) fun cdv A outer s H E hr c ds r hR => ?_
  obtain ⟨ms, n, hm, rfl, rfl⟩ := hR
  refine dss_cons (ds_if (dt_not (dt_val (de_isi z.isinstance z.list (de_var 0 rfl) (kit_list _) boot_list'))) (fun hk => ff hk) fun hk => ?_)
  refine dss_nil ?_
  refine dss_cons (ds_set 2 (de_tup (da_cons de_int (da_cons de_int da_nil)) (by walk_at "dats") (by walk_at "le")) ?_ sc_are_moves.nd)
  refine dss_cons (ds_set 3 (de_neg de_int) ?_ sc_are_moves.nd)
  refine dss_cut (fun ρ S => ∃ l, ρ = [.d (movesD ms), .d (.int (n : Nat)), .d (frD (1, 1)), l, .un] ∧ S = []) (ds_for (T := .one 4) (di_list (de_var 0 rfl)) (pg_name sc_are_moves.nd rfl (.inl rfl)) (fun i ρ S => ∃ (t : Fr) (last : Int), ρ = [.d (movesD ms), .d (.int (n : Nat)), .d (frD t), .d (.int last), .un] ∧ S = [] ∧ t = sumTo (ms.take i) ∧ Fb (1 + 6 * i) t ∧ ∀ (m : Move), ms[i]? = some m → last < (m.2 : Nat)) ?_ ?_ ?_ ?_) ?_
  · rintro i ρ S ⟨t, l, rfl, rfl, _⟩; exact Nat.le_refl _
  · exact ⟨_, _, ⟨by walk_at "lel", [], rfl⟩, (0, 1), -1, rfl, rfl, rfl, ⟨by decide, by decide, by decide⟩, fun m _ => by omega⟩
  · rintro i d ρ S hd ⟨t, last, rfl, rfl, ht, hf, hl⟩
    rw [List.getElem?_map] at hd
    cases hm' : ms[i]? with
    | none => rw [hm'] at hd; cases hd
    | some m =>
      rw [hm'] at hd
      have hd' : moveD m = d := Option.some.inj hd
      subst hd'
      have mem : m ∈ ms := List.mem_of_getElem? hm'
      obtain ⟨l1, l2, l3⟩ := hm.low m mem
      have hi := (List.getElem?_eq_some_iff.mp hm').1
      have few := hm.few
      refine ⟨_, .one, ?_⟩
      refine dss_cons (ds_if (dt_not (dt_val (de_call c_is_move (hr.mono (by decide)) (da_cons (de_var 4 rfl) (da_cons (de_var 1 rfl) (da_cons (de_var 3 rfl) da_nil))) (by walk_at "dats") ⟨m, n, last, l1, l2, hl m hm', hm.lt m mem, rfl, rfl⟩))) (fun hk => ff hk) fun hk => ?_)
      refine dss_nil ?_
      refine dss_cons (ds_set 2 (de_call c_frac_sum (hr.mono (by decide)) (da_cons (de_var 2 rfl) (da_cons (de_ix (de_var 4 rfl) de_int (ix_t (atI_at 0 rfl))) da_nil)) (by walk_at "dats") ⟨t, m.1, _, _, hf, l3, by omega, by decide, by omega, rfl, rfl⟩) ?_ sc_are_moves.nd)
      refine dss_cons (ds_set 3 (de_ix (de_var 4 rfl) de_int (ix_t (atI_at 1 rfl))) ?_ sc_are_moves.nd)
      refine dss_nil ⟨_, _, ⟨by walk_at "lel", [], rfl⟩, fAdd t m.1, (m.2 : Nat), rfl, rfl, ?_, ?_, fun m2 hm2 => ?_⟩
      · rw [ht, List.take_add_one, hm']
        unfold sumTo
        rw [List.foldl_append]
        rfl
      · have := hf.add l3
        refine this.mono (by omega)
      · have h1 := (List.getElem?_eq_some_iff.mp hm2).1
        have hp := List.pairwise_iff_getElem.mp hm.rise i (i + 1) (by rw [List.length_map]; omega) (by rw [List.length_map]; omega) (by omega)
        rw [List.getElem_map, List.getElem_map] at hp
        have e1 : ms[i] = m := by
          have := List.getElem?_eq_getElem hi
          rw [hm'] at this
          exact (Option.some.inj this).symm
        have e2 : ms[i + 1] = m2 := by
          have := List.getElem?_eq_getElem h1
          rw [hm2] at this
          exact (Option.some.inj this).symm
        rw [e1, e2] at hp
        omega
  · rintro ρ S ⟨t, last, rfl, rfl, ht, _⟩
    rw [List.length_map, List.take_length, hm.sum] at ht
    subst ht
    exact ⟨_, rfl, rfl⟩
  · rintro ρ S ⟨l, rfl, rfl⟩
    refine dss_cons (ds_ret (de_cmp (de_var 2 rfl) (de_glob g_WHOLE) (od_eqD hr.units rfl rfl rfl rfl)) ?_)
    rw [show frD (1, 1) = .tup [.int 1, .int 1] from rfl, eqv_ints]
    rfl
end
end Tw
end
section
set_option Elab.async false
set_option linter.all false
set_option maxRecDepth 100000
set_option maxHeartbeats 1000000
namespace Tw
open PySem PySem.Spec PyProof.Rows L2
open Evl (Ex)
theorem foldl_mul_le : ∀ (l : List Nat) (a : Nat), (∀ n ∈ l, n ≤ 5) → l.foldl (· * ·) a ≤ a * 5 ^ l.length
  | [], a, _ => by simp
  | n :: l, a, h => by
    rw [List.foldl_cons, List.length_cons]
    refine Nat.le_trans (foldl_mul_le l _ fun m hm => h m (List.mem_cons_of_mem _ hm)) ?_
    rw [Nat.pow_succ, Nat.mul_assoc]
    refine Nat.mul_le_mul (Nat.le_refl a) ?_
    rw [Nat.mul_comm]
    exact Nat.mul_le_mul (Nat.le_refl _) (h n List.mem_cons_self)
theorem BookOk.size5 {k : Book} (h : BookOk k) : ∀ n ∈ sizes k, n ≤ 5 := fun n hn => by
  obtain ⟨b, hb, rfl⟩ := List.mem_map.mp hn
  exact (h.bn b hb).few
theorem BookOk.upto {k : Book} (h : BookOk k) (i : Nat) : ((sizes k).take i).foldl (· * ·) 1 ≤ 125 := by
  have h1 := foldl_mul_le ((sizes k).take i) 1 fun n hn => h.size5 n (List.mem_of_mem_take hn)
  have h2 : ((sizes k).take i).length ≤ 3 := by
    rw [List.length_take]
    have := h.few
    have e : (sizes k).length = k.2.length := List.length_map _
    omega
  have h3 : 5 ^ ((sizes k).take i).length ≤ 5 ^ 3 := Nat.pow_le_pow_right (by decide) h2
  have h4 : (5 : Nat) ^ 3 = 125 := by decide
  omega
def nextStates (found : List (List Int)) (n : Nat) : List (List Int) := found.flatMap fun s => (List.range n).map fun (j : Nat) => s ++ [(j : Int)]
theorem statesOf_step {l : List Nat} {i n : Nat} (h : l[i]? = some n) : statesOf (l.take (i + 1)) = nextStates (statesOf (l.take i)) n := by
  rw [List.take_add_one, h]
  unfold statesOf
  rw [List.foldl_append]
  rfl
def statesD (l : List (List Int)) : Dat := .lst (l.map .st)
theorem flatMap_take {α β : Type} {l : List α} {g : α → List β} {i : Nat} {x : α} (h : l[i]? = some x) : (l.take (i + 1)).flatMap g = (l.take i).flatMap g ++ g x := by
  rw [List.take_add_one, h, List.flatMap_append]
  simp
theorem nextStates_len (l : List (List Int)) (n : Nat) : (nextStates l n).length = l.length * n := by
  unfold nextStates
  rw [List.length_flatMap]
  have : (List.map (fun s => ((List.range n).map fun (j : Nat) => s ++ [(j : Int)]).length) l) = List.replicate l.length n := by
    rw [List.eq_replicate_iff]
    refine ⟨by rw [List.length_map], ?_⟩
    intro x hx
    obtain ⟨s, _, rfl⟩ := List.mem_map.mp hx
    rw [List.length_map, List.length_range]
  rw [this, List.sum_replicate_nat]
theorem statesOf_mem : ∀ (l : List Nat) {s : List Int}, s ∈ statesOf l → s.length = l.length := by
  have h : ∀ (l : List Nat) (acc : List (List Int)) (m : Nat), (∀ s ∈ acc, s.length = m) → ∀ s ∈ l.foldl nextStates acc, s.length = m + l.length := by
    intro l
    induction l with
    | nil => intro acc m h s hs; exact h s hs
    | cons n l ih =>
      intro acc m h s hs
      rw [List.foldl_cons] at hs
      have := ih (nextStates acc n) (m + 1) (fun s hs => by
        obtain ⟨t, ht, hs⟩ := List.mem_flatMap.mp hs
        obtain ⟨j, _, rfl⟩ := List.mem_map.mp hs
        rw [List.length_append, h t ht]
        rfl) s hs
      rw [this, List.length_cons]
      omega
  intro l s hs
  have := h l [[]] 0 (fun s hs => by rw [List.mem_singleton.mp hs]; rfl) s hs
  omega
section
variable {P : Program} {w : World} {K : PySem.W.Frag} {mg : Str → Option Value} {base : Heap}
def R_is_stand (ds : List Dat) (r : Dat) : Prop := ∃ (s : Stand) (n : Nat), StandOk n s ∧ ds = [standD s, .int (n : Nat)] ∧ r = .bl true
theorem ok_is_stand (F : FT K mg "is_stand" s_is_stand P_is_stand) (z : Zb mg) (c_is_fraction : Cal P w K mg base 2 "is_fraction" (spP K R_is_fraction)) (c_are_moves : Cal P w K mg base 4 "are_moves" (spP K R_are_moves)) : Cal P w K mg base 5 "is_stand" (spP K R_is_stand) := by
  obtain ⟨f, fd, F, gm, hb⟩ := F.ex
  refine cal_of F gm hb sc_is_stand (by decide) (fun ds r ⟨_, _, _, h, _⟩ => by rw [h]; rfl) fun cdv A outer s H E hr c ds r hR => ?_
  obtain ⟨s, n, hs, rfl, rfl⟩ := hR
  have e1 := isFr_low hs.low
  refine dss_cons (ds_ret (de_and (de_isi z.isinstance z.tuple (de_var 0 rfl) (kit_tuple _) boot_tuple') fun hk => (de_and (de_cmp (de_len z.len (da_cons (de_var 0 rfl) da_nil) rfl) de_int od_eq) fun hk => (de_and (de_call c_is_fraction (hr.mono (by decide)) (da_cons (de_ix (de_var 0 rfl) de_int (ix_t (atI_at 0 rfl))) da_nil) (by walk_at "dats") ⟨frD s.1, rfl, rfl, rfl⟩) fun hk => (de_one (de_call c_are_moves (hr.mono (by decide)) (da_cons (de_ix (de_var 0 rfl) de_int (ix_t (atI_at 1 rfl))) (da_cons (de_var 1 rfl) da_nil)) (by walk_at "dats") ⟨s.2, n, hs.mv, rfl, rfl⟩))))) ?_)
  rw [e1]
  rfl
def R_is_bench (ds : List Dat) (r : Dat) : Prop := ∃ b : Bench, BenchOk b ∧ ds = [benchD b] ∧ r = .bl true
theorem ok_is_bench (F : FT K mg "is_bench" s_is_bench P_is_bench) (z : Zb mg) (g_MOST_STANDS : GC K mg "MOST_STANDS" (.int 5)) (c_is_stand : Cal P w K mg base 5 "is_stand" (spP K R_is_stand)) : Cal P w K mg base 6 "is_bench" (spP K R_is_bench) := by
  obtain ⟨f, fd, F, gm, hb⟩ := F.ex
  refine cal_of F gm hb sc_is_bench (by decide) (fun ds r ⟨_, _, h, _⟩ => by rw [h]; rfl) fun cdv A outer s H E hr c ds r hR => ?_
  obtain ⟨b, hb, rfl, rfl⟩ := hR
  have l1 : lenD (benchD b) = some b.length := by simp [lenD, benchD]
  have p1 := hb.pos
  have p2 := hb.few
  have d1 : decide (((b.length : Nat) : Int) < 1) = false := decide_eq_false (by omega)
  have d2 : decide ((5 : Int) < ((b.length : Nat) : Int)) = false := decide_eq_false (by omega)
  refine dss_cons (ds_if (dw_dt (dw_or (dt_not (dt_val (de_isi z.isinstance z.list (de_var 0 rfl) (kit_list _) boot_list'))) fun hk => (dw_or (dt_cmp (de_len z.len (da_cons (de_var 0 rfl) da_nil) l1) de_int od_lt) fun hk => (dw_or1 (dt_cmp (de_len z.len (da_cons (de_var 0 rfl) da_nil) l1) (de_glob g_MOST_STANDS) od_gt))))) (fun hk => ?_) fun hk => ?_)
  · rw [d1, d2] at hk; exact ff hk
  refine dss_nil ?_
  refine dss_cons (ds_ret (de_all (bs := b.map fun _ => true) z.all (da_cons (de_lc ((b.map fun _ => true).map .bl) (fun _ => []) [("stand", 1)] (.one 1) (di_list (de_var 0 rfl)) sc_is_bench.nd (blkOk_by (N := N_is_bench) (sc := defScope s_is_bench) (by decide +kernel)) (fun _ _ _ _ _ => pg_name sc_is_bench.nd rfl (.inl rfl))
    ⟨by rw [List.length_map]; omega, by simp, by simp [Tg.own], fun _ => Nat.le_refl _, fun i d zz hd hz => ?_⟩) da_nil)) ?_)
  · rw [List.getElem?_map] at hd
    cases hs' : b[i]? with
    | none => rw [hs'] at hd; cases hd
    | some s =>
      rw [hs'] at hd
      have hd' : standD s = d := Option.some.inj hd
      subst hd'
      have ez : zz = .bl true := by
        rw [List.getElem?_map, List.getElem?_map, hs'] at hz
        exact (Option.some.inj hz).symm
      subst ez
      refine ⟨_, .one, fun c => fun s0 H0 C cl fp => ?_⟩
      exact de_call c_is_stand (hr.mono (by decide)) (da_cons (de_var 1 rfl) (da_cons (de_len z.len (da_cons (de_var 0 rfl) da_nil) l1) da_nil)) (by walk_at "dats") ⟨s, b.length, hb.st s (List.mem_of_getElem? hs'), rfl, rfl⟩
  · have : (b.map fun _ => true).all id = true := by simp
    rw [this]
    rfl
def R_is_part (ds : List Dat) (r : Dat) : Prop := ∃ p : Fr, PartOk p ∧ ds = [frD p] ∧ r = .bl true
theorem ok_is_part (F : FT K mg "is_part" s_is_part P_is_part) (c_is_fraction : Cal P w K mg base 2 "is_fraction" (spP K R_is_fraction)) : Cal P w K mg base 3 "is_part" (spP K R_is_part) := by
  obtain ⟨f, fd, F, gm, hb⟩ := F.ex
  refine cal_of F gm hb sc_is_part (by decide) (fun ds r ⟨_, _, h, _⟩ => by rw [h]; rfl) fun cdv A outer s H E hr c ds r hR => ?_
  obtain ⟨p, hp, rfl, rfl⟩ := hR
  refine dss_cons (ds_ret (de_and (de_call c_is_fraction (hr.mono (by decide)) (da_cons (de_var 0 rfl) da_nil) (by walk_at "dats") ⟨frD p, rfl, rfl, rfl⟩) fun hk => (de_and (de_cmp (de_ix (de_var 0 rfl) de_int (ix_t (atI_at 0 rfl))) de_int od_gt) fun hk => (de_one (de_cmp (de_ix (de_var 0 rfl) de_int (ix_t (atI_at 0 rfl))) (de_ix (de_var 0 rfl) de_int (ix_t (atI_at 1 rfl))) od_lt)))) ?_)
  have d1 : decide (0 < p.1) = true := decide_eq_true hp.pos
  have d2 : decide (p.1 < p.2) = true := decide_eq_true hp.lt
  rw [isFr_low hp.low, d1, d2]
  rfl
def R_is_book (ds : List Dat) (r : Dat) : Prop := ∃ k : Book, BookOk k ∧ ds = [bookD k] ∧ r = .bl true
theorem ok_is_book (F : FT K mg "is_book" s_is_book P_is_book) (z : Zb mg) (g_MOST_BENCHES : GC K mg "MOST_BENCHES" (.int 3)) (c_is_part : Cal P w K mg base 3 "is_part" (spP K R_is_part)) (c_is_bench : Cal P w K mg base 6 "is_bench" (spP K R_is_bench)) : Cal P w K mg base 7 "is_book" (spP K R_is_book) := by
  obtain ⟨f, fd, F, gm, hb⟩ := F.ex
  refine cal_of F gm hb sc_is_book (by decide) (fun ds r ⟨_, _, h, _⟩ => by rw [h]; rfl) fun cdv A outer s H E hr c ds r hR => ?_
  obtain ⟨k, hk0, rfl, rfl⟩ := hR
  have p1 := hk0.pos
  have p2 := hk0.few
  have d1 : decide (((k.2.length : Nat) : Int) < 1) = false := decide_eq_false (by omega)
  have d2 : decide ((3 : Int) < ((k.2.length : Nat) : Int)) = false := decide_eq_false (by omega)
  have l1 : lenD (.lst (k.2.map benchD)) = some k.2.length := by simp [lenD]
  refine dss_cons (ds_if (dw_dt (dw_or (dt_not (dt_val (de_isi z.isinstance z.tuple (de_var 0 rfl) (kit_tuple _) boot_tuple'))) fun hk => (dw_or (dt_cmp (de_len z.len (da_cons (de_var 0 rfl) da_nil) rfl) de_int od_ne) fun hk => (dw_or (dt_not (dt_val (de_call c_is_part (hr.mono (by decide)) (da_cons (de_ix (de_var 0 rfl) de_int (ix_t (atI_at 0 rfl))) da_nil) (by walk_at "dats") ⟨k.1, hk0.part, rfl, rfl⟩))) fun hk => (dw_or1 (dt_not (dt_val (de_isi z.isinstance z.list (de_ix (de_var 0 rfl) de_int (ix_t (atI_at 1 rfl))) (kit_list _) boot_list')))))))) (fun hk => ff hk) fun hk => ?_)
  refine dss_nil ?_
  refine dss_cons (ds_if (dw_dt (dw_or (dt_cmp (de_len z.len (da_cons (de_ix (de_var 0 rfl) de_int (ix_t (atI_at 1 rfl))) da_nil) l1) de_int od_lt) fun hk => (dw_or1 (dt_cmp (de_len z.len (da_cons (de_ix (de_var 0 rfl) de_int (ix_t (atI_at 1 rfl))) da_nil) l1) (de_glob g_MOST_BENCHES) od_gt)))) (fun hk => ?_) fun hk => ?_)
  · rw [d1, d2] at hk; exact ff hk
  refine dss_nil ?_
  refine dss_cons (ds_ret (de_cmp (de_len (n := 0) z.len (da_cons (de_lcIf (fun _ => false) (fun _ => .non) [("bench", 1)] (.one 1) (di_list (de_ix (de_var 0 rfl) de_int (ix_t (atI_at 1 rfl)))) sc_is_book.nd (blkOk_by (N := N_is_book) (sc := defScope s_is_book) (by decide +kernel)) (fun _ _ _ _ _ => pg_name sc_is_book.nd rfl (.inl rfl))
    ⟨by rw [List.length_map]; omega, by simp [Tg.own], fun _ => Nat.le_refl _, fun i d hd => ?_⟩) da_nil) ?_) de_int od_eq) ?_)
  · rw [List.getElem?_map] at hd
    cases hs' : k.2[i]? with
    | none => rw [hs'] at hd; cases hd
    | some b =>
      rw [hs'] at hd
      have hd' : benchD b = d := Option.some.inj hd
      subst hd'
      refine ⟨_, .one, fun c => ⟨dnt_tst1 fun s0 H0 C cl fp => ?_, fun z => ff z, fun _ => rfl⟩⟩
      exact dt_eq (k := !true) (dt_not (dt_val (de_call c_is_bench (hr.mono (by decide)) (da_cons (de_var 1 rfl) da_nil) (by walk_at "dats") ⟨b, hk0.bn b (List.mem_of_getElem? hs'), rfl, rfl⟩))) rfl
  · simp [lenD, kept]
  · rfl
def R_all_states (ds : List Dat) (r : Dat) : Prop := ∃ k : Book, BookOk k ∧ ds = [bookD k] ∧ r = statesD (statesOf (sizes k))
theorem ok_all_states (F : FT K mg "all_states" s_all_states P_all_states) (z : Zb mg) : Cal P w K mg base 1 "all_states" (spP K R_all_states) := by
  obtain ⟨f, fd, F, gm, hb⟩ := F.ex
  refine cal_of F gm hb sc_all_states (by decide) (fun ds r ⟨_, _, h, _⟩ => by rw [h]; rfl) fun cdv A outer s H E hr c ds r hR => ?_
  obtain ⟨k, hk0, rfl, rfl⟩ := hR
  refine dss_cons (ds_set 1 (de_lst (da_cons (de_tupSt (ns := []) da_nil (Nat.zero_le _)) da_nil) (by walk_at "dats") (by walk_at "le")) ?_ sc_all_states.nd)
  refine dss_cut (fun ρ S => ∃ x y z w, ρ = [.d (bookD k), .d (statesD (statesOf (sizes k))), x, y, z, w] ∧ S = []) (ds_for (T := .one 2) (di_list (de_ix (de_var 0 rfl) de_int (ix_t (atI_at 1 rfl)))) (pg_name sc_all_states.nd rfl (.inl rfl)) (fun i ρ S => ρ = [.d (bookD k), .d (statesD (statesOf ((sizes k).take i))), .un, .un, .un, .un] ∧ S = []) ?_ ?_ ?_ ?_) ?_
  · rintro i ρ S ⟨rfl, rfl⟩; exact Nat.le_refl _
  · exact ⟨_, _, ⟨by walk_at "lel", [], rfl⟩, rfl, rfl⟩
  · rintro i d ρ S hd ⟨rfl, rfl⟩
    rw [List.getElem?_map] at hd
    cases hb' : k.2[i]? with
    | none => rw [hb'] at hd; cases hd
    | some b =>
      rw [hb'] at hd
      have hd' : benchD b = d := Option.some.inj hd
      subst hd'
      have hbn := hk0.bn b (List.mem_of_getElem? hb')
      have few := hbn.few
      have l1 : lenD (benchD b) = some b.length := by simp [lenD, benchD]
      have hsz : (sizes k)[i]? = some b.length := by
        unfold sizes
        rw [List.getElem?_map, hb']
        rfl
      have hlen : (statesOf ((sizes k).take i)).length ≤ 125 := by
        rw [statesOf_len]
        exact hk0.upto i
      generalize hfound : statesOf ((sizes k).take i) = found at hlen
      refine ⟨_, .one, ?_⟩
      refine dss_cons (ds_set 3 (de_lst da_nil (by walk_at "dats") (by walk_at "le")) ?_ sc_all_states.nd)
      refine dss_cut (fun ρ S => ∃ x y, ρ = [.d (bookD k), .d (statesD found), .d (benchD b), .d (statesD (nextStates found b.length)), x, y] ∧ S = []) (ds_for (T := .one 4) (di_list (de_var 1 rfl)) (pg_name sc_all_states.nd rfl (.inr rfl)) (fun j ρ S => ρ = [.d (bookD k), .d (statesD found), .d (benchD b), .d (statesD (nextStates (found.take j) b.length)), .un, .un] ∧ S = []) ?_ ?_ ?_ ?_) ?_
      · rintro i ρ S ⟨rfl, rfl⟩; exact Nat.le_refl _
      · exact ⟨_, _, ⟨by walk_at "lel", [], rfl⟩, rfl, rfl⟩
      · rintro j d ρ S hd ⟨rfl, rfl⟩
        rw [List.getElem?_map] at hd
        cases hs' : found[j]? with
        | none => rw [hs'] at hd; cases hd
        | some s =>
          rw [hs'] at hd
          have hd' : Dat.st s = d := Option.some.inj hd
          subst hd'
          have hj := (List.getElem?_eq_some_iff.mp hs').1
          have e : Dat.lst ((nextStates (found.take j) b.length).map .st ++ (List.range b.length).map fun (i : Nat) => .st (s ++ [(i : Int)])) = statesD (nextStates (found.take (j + 1)) b.length) := by
            unfold statesD nextStates
            rw [flatMap_take hs', List.map_append, List.map_map]
            rfl
          have l2 := nextStates_len (found.take j) b.length
          have l3 : (found.take j).length ≤ 125 := by rw [List.length_take]; omega
          have l4 : (found.take j).length * b.length ≤ 125 * 5 := Nat.mul_le_mul l3 few
          refine ⟨_, .one, ?_⟩
          refine dss_cons (ds_set 3 (de_eq (de_bin (de_var 3 rfl) (de_lc ((List.range b.length).map fun (i : Nat) => .st (s ++ [(i : Int)])) (fun _ => []) [("stand", 5)] (.one 5) (di_range1 z.range (de_len z.len (da_cons (de_var 2 rfl) da_nil) l1) (by omega) (by omega)) sc_all_states.nd (blkOk_by (N := N_all_states) (sc := defScope s_all_states) (by decide +kernel)) (fun _ _ _ _ _ => pg_name sc_all_states.nd rfl (.inl rfl))
            ⟨by rw [nums_len]; omega, by rw [nums_len, List.length_map, List.length_range]; rfl, by simp [Tg.own], fun _ => Nat.le_refl _, fun i d zz hd hz => ?_⟩) (od_catL ?_)) (congrArg Sl.d e)) ?_ sc_all_states.nd)
          · obtain ⟨hi, ed⟩ := of_nums hd
            subst ed
            have hi' : i < b.length := by omega
            have ez : zz = .st (s ++ [0 + (i : Int)]) := by
              rw [List.getElem?_map, List.getElem?_range hi'] at hz
              rw [Int.zero_add]
              exact (Option.some.inj hz).symm
            subst ez
            refine ⟨_, .one, fun c => fun s0 H0 C cl fp => ?_⟩
            exact de_bin (de_var 4 rfl) (de_tupSt (ns := [0 + (i : Int)]) (da_cons (de_var 5 rfl) da_nil) (by walk_at "le")) (od_catS (by have h5 := statesOf_mem _ (hfound.symm ▸ List.mem_of_getElem? hs'); have h6 := hk0.few; have h7 : (sizes k).length = k.2.length := List.length_map _; rw [List.length_take] at h5; simp; omega))
          · rw [List.length_map, List.length_map, List.length_range]
            omega
          · exact dss_nil ⟨_, _, ⟨by walk_at "lel", [], rfl⟩, rfl, rfl⟩
      · rintro ρ S ⟨rfl, rfl⟩
        refine ⟨.un, .un, ?_, rfl⟩
        rw [List.length_map, List.take_length]
      · rintro ρ S ⟨x, y, rfl, rfl⟩
        refine dss_cons (ds_set 1 (de_var 3 rfl) ?_ sc_all_states.nd)
        refine dss_nil ⟨_, _, ⟨?_, [], rfl⟩, rfl, rfl⟩
        rw [statesOf_step hsz, hfound]
        walk_at "lel"
  · rintro ρ S ⟨rfl, rfl⟩
    refine ⟨.un, .un, .un, .un, ?_, rfl⟩
    rw [List.length_map, show k.2.length = (sizes k).length from (List.length_map _).symm, List.take_length]
  · rintro ρ S ⟨x, y, z, w, rfl, rfl⟩
    refine dss_cons (ds_ret (de_var 1 rfl) ?_)
    rfl
end
end Tw
end
section
set_option Elab.async false
set_option linter.all false
set_option maxRecDepth 100000
set_option maxHeartbeats 1000000
/-! TwCall2: calls that hand back a list of one's own, lists that are lent, two stores at once. -/
namespace Tw
open PySem PySem.Spec PyProof.Rows L2
open Evl (Ex)
/-- the promise of a def that hands back a new list -/
def spL (K : PySem.W.Frag) (R : List Dat → List Dat → Prop) : Sp := fun vs H Q _ => ∃ (N : Addr → Bool) (ds es : List Dat), (∀ a, N a = true → ∃ u, H a = some u ∧ ∀ xs, u ≠ .tup xs) ∧ AtAll K (vN N H) vs ds ∧ R ds es ∧
  ∀ H' p xs, Ex H H' → H p = none → H' p = some (.lst xs) → AtAll K (vN (fun a => N a || decide (a = p)) H') xs es → Q (.ref p) H'
/-- a heap without one object -/
def less (H : Hp) (p : Addr) : Hp := fun a => if a = p then none else H a
theorem less_upd {H : Hp} {p : Addr} {o : HO} (h : H p = some o) : upd (less H p) p o = H := by
  funext a
  by_cases e : a = p
  · subst e; rw [upd_same]; exact h.symm
  · rw [upd_ne e]; unfold less; rw [if_neg e]
section
variable {X : Cx} {c : Cz} {ρ : List Sl} {S S1 S2 : List Ct} {e a b : Expr} {es : List Expr} {rs : List Sl} {ds : List Dat} {d : Dat} {x : Str} {p pos : Pos} {k : Nat}
theorem de_callL {R : List Dat → List Dat → Prop} {zs : List Dat} (C : Cal X.prog X.w X.K X.mg X.base k x (spL X.K R)) (hr : Room k X.A) (hA : DA X c ρ S (e :: es) rs S1) (hd : Dats rs ds) (hR : R ds zs) (hg : Gl X x := by rfl)
    (hdb : (x == ("__debug__" : Str)) = false := by decide) (he : starEach (e :: es) X.env = (false, eval e X.env) :: starEach es X.env := by rfl) (hpl : (backTo pos (starEach es X.env)).any (·.1) = false := by rfl) : DE X c ρ S (.Call (.Name x p) (e :: es) [] pos) (.o S1.length) (S1 ++ [.l zs]) := by
  obtain ⟨f, fd, ps, F, hm, hk, hb⟩ := C.ex
  refine de_of (pe_call F hr hg hm hk hb .nil (E := E0) pass0 pa_tW hdb he hpl) fun σ H O hs sl Q q => ?_
  refine hA σ H O hs sl _ fun vs H1 O1 a1 a2 a3 => ?_
  rw [hd.eq] at a3
  rw [List.append_nil]
  refine ⟨hid c (O ++ O1) S1 H1, ds, zs, a1.hidOk, a3.all.mono RX.into, hR, fun H' pp xs e1 hp e2 e3 => ?_⟩
  have ex : Ex H1 (less H' pp) := fun a o h => by
    unfold less
    rw [if_neg (ne_of_none h hp)]
    exact e1 a o h
  have hl : less H' pp pp = none := by unfold less; rw [if_pos rfl]
  have g0 := a1.ex ex
  have eu := less_upd e2
  have q2 := (q.step a2).step (O1 := []) (H1 := less H' pp) (S1 := S1) (by rw [List.append_nil]; exact RX.vw_ex ex)
  rw [List.append_nil] at q2
  have := q2.own (t := .l zs) (o := .lst xs) g0 hl rfl ⟨xs, upd_same, ?_⟩
  · rw [eu] at this; exact this
  · refine AtAll.mono (RX.outOf a1 ex) (AtAll.mono (RX.ex fun a o h => ?_) e3)
    unfold vN at h ⊢
    by_cases hz : a = pp
    · subst hz
      rw [if_pos (by simp)] at h
      cases h
    · unfold less
      rw [if_neg hz]
      by_cases hN : hid c (O ++ O1) S1 H1 a = true
      · rw [if_pos (by show (hid c (O ++ O1) S1 H1 a || decide (a = pp)) = true; rw [hN]; rfl)] at h
        cases h
      · rw [if_neg hN]
        rw [if_neg (by show ¬ (hid c (O ++ O1) S1 H1 a || decide (a = pp)) = true; rw [decide_eq_false hz, Bool.or_false]; exact hN)] at h
        exact h
/-- an int, a truth, None, a text -/
def Imm : Dat → Bool
  | .non => true
  | .bl _ => true
  | .int _ => true
  | .str _ => true
  | _ => false
theorem At.imm {K : PySem.W.Frag} {H H' : Hp} {v : V} {d : Dat} (h : At K H v d) (hi : Imm d = true) : At K H' v d := by
  cases h with
  | non => exact .non
  | bl b => exact .bl b
  | int i => exact .int i
  | str x => exact .str x
  | _ => cases hi
/-- a list of one's own is lent as the first argument -/
theorem de_callI {R : List Dat → Dat → Prop} {i : Nat} {zs : List Dat} (C : Cal X.prog X.w X.K X.mg X.base k x (spP X.K R)) (hr : Room k X.A) (hA : DA X c ρ S (e :: es) (.o i :: rs) S1) (hd : Dats rs ds) (hz : S1[i]? = some (.l zs)) (hR : R (.lst zs :: ds) d) (hi : Imm d = true) (hg : Gl X x := by rfl)
    (hdb : (x == ("__debug__" : Str)) = false := by decide) (he : starEach (e :: es) X.env = (false, eval e X.env) :: starEach es X.env := by rfl) (hpl : (backTo pos (starEach es X.env)).any (·.1) = false := by rfl) : DE X c ρ S (.Call (.Name x p) (e :: es) [] pos) (.d d) S1 := by
  obtain ⟨f, fd, ps, F, hm, hk, hb⟩ := C.ex
  refine de_of (pe_call F hr hg hm hk hb .nil (E := E0) pass0 pa_tW hdb he hpl) fun σ H O hs sl Q q => ?_
  refine hA σ H O hs sl _ fun vs H1 O1 a1 a2 a3 => ?_
  obtain ⟨v0, ws, e1, ⟨pp, e2, e3⟩, a4⟩ := a3
  subst e3 e1
  rw [hd.eq] at a4
  rw [List.append_nil]
  have g1 := a1.gone i
  have g2 := a1.goneAt e2 hz rfl
  have g3 := (a4.all).mono (RX.gone (c := c) (O := O ++ O1) (S := S1) (H := H1) (i := i))
  refine ⟨hid c (O ++ O1) (S1.set i .gone) H1, .lst zs :: ds, d, g1.hidOk, .cons (g2.mono RX.into) (g3.mono RX.into), hR, fun H' v f1 f2 => ?_⟩
  exact q v H' O1 (a1.ex f1) (a2.trans (RX.vw_ex f1)) (f2.imm hi)
/-- xs[i], xs[j] = a tuple's two items -/
theorem ds_set2 {D : De} {a1 b1 a2 b2 : Expr} {p1 p2 pt : Pos} {kt : Nat} {k : Nat} {zs : List Dat} {x1 x2 : Dat} {i1 i2 : Int} {j1 j2 : Nat} (he : DE X c ρ S e (.d (.tup [x1, x2])) S1) (hk : S1[k]? = some (.l zs))
    (o1 : DE X c ρ S1 a1 (.o k) S1) (n1 : DE X c ρ S1 b1 (.d (.int i1)) S1) (hj1 : ixN zs.length i1 = some j1) (o2 : DE X c ρ (S1.set k (.l (zs.set j1 x1))) a2 (.o k) (S1.set k (.l (zs.set j1 x1)))) (n2 : DE X c ρ (S1.set k (.l (zs.set j1 x1))) b2 (.d (.int i2)) (S1.set k (.l (zs.set j1 x1)))) (hj2 : ixN zs.length i2 = some j2)
    (hn : D.nx ρ (S1.set k (.l ((zs.set j1 x1).set j2 x2)))) (hc : X.calm = true := by rfl)
    (ha1 : ∀ v, assign (.Subscript a1 b1 p1) X.env v = (do
      let ov ← holding [v] (eval a1 X.env)
      let iv ← holding [v, ov] (eval b1 X.env)
      standAt p1
      holding [v, ov, iv] (setItem ov iv v)
      release [v, ov, iv] []) := by intro _; rfl)
    (ha2 : ∀ v, assign (.Subscript a2 b2 p2) X.env v = (do
      let ov ← holding [v] (eval a2 X.env)
      let iv ← holding [v, ov] (eval b2 X.env)
      standAt p2
      holding [v, ov, iv] (setItem ov iv v)
      release [v, ov, iv] []) := by intro _; rfl)
    (hs1 : (assignEach [.Subscript a1 b1 p1, .Subscript a2 b2 p2] X.env).map (·.2) = assign (.Subscript a1 b1 p1) X.env :: (assignEach [.Subscript a2 b2 p2] X.env).map (·.2) := by rfl)
    (hs2 : (assignEach [.Subscript a2 b2 p2] X.env).map (·.2) = assign (.Subscript a2 b2 p2) X.env :: (assignEach [] X.env).map (·.2) := by rfl)
    (hnn : (assignEach [.Subscript a1 b1 p1, .Subscript a2 b2 p2] X.env).length = 2 := by rfl) (hst : (assignEach [.Subscript a1 b1 p1, .Subscript a2 b2 p2] X.env).findIdx? (·.1) = none := by rfl)
    (hs0 : swapsWithSole [.Tuple [.Subscript a1 b1 p1, .Subscript a2 b2 p2] kt pt] e pos.line X.env = pure false := by rfl) (hw : swappedStores [.Tuple [.Subscript a1 b1 p1, .Subscript a2 b2 p2] kt pt] e X.env = pure none := by rfl)
    (h1 : (assignEach [.Tuple [.Subscript a1 b1 p1, .Subscript a2 b2 p2] kt pt] X.env).map (·.2) = [assign (.Tuple [.Subscript a1 b1 p1, .Subscript a2 b2 p2] kt pt) X.env] := by rfl) :
    DS X c ρ S (.Assign [.Tuple [.Subscript a1 b1 p1, .Subscript a2 b2 p2] kt pt] e pos) D :=
  ds_of (ps_asg pe_tW (pg_tup hc (pgs_cons (pg_sub pe_tW pe_tW set_list ha1) (pgs_cons (pg_sub pe_tW pe_tW set_list ha2) pgs_nil hs2) hs1) hnn hst) hs0 hw h1) fun σ H O hs sl E q => he σ H O hs sl _ fun v H1 O1 a1' a2' a3 => by
    have a3' : At X.K _ v (.tup [x1, x2]) := a3
    cases a3' with
    | tup t1 t2 =>
      obtain ⟨v1, v2, ev, w1, w2⟩ := t2.two
      subst ev
      refine ⟨_, _, rfl, vw_le.t t1, rfl, v1, [v2], rfl, ?_⟩
      refine o1 σ H1 _ a1' (sl.mono a2') _ fun w H2 O2 b1' b2' b3 => ?_
      obtain ⟨pp, e2, e3⟩ := b3
      subst e3
      refine n1 σ H2 _ b1' ((sl.mono a2').mono b2') _ fun u H3 O3 c1 c2 c3 => ?_
      cases c3
      have e4 : (O ++ O1 ++ O2 ++ O3)[k]? = some pp := by rw [List.getElem?_append_left (List.getElem?_eq_some_iff.mp e2).1]; exact e2
      obtain ⟨us, d1, d2⟩ := c1.cell k pp _ e4 hk
      refine ⟨pp, us, i1, j1, rfl, rfl, d1, by rw [d2.length]; exact hj1, ?_⟩
      have gd := At.mono c2 (At.mono b2' w1)
      have gd2 := At.mono c2 (At.mono b2' w2)
      have g1 : Hs X.K c (O ++ O1 ++ O2 ++ O3) (S1.set k (.l (zs.set j1 x1))) (upd H3 pp (.lst (us.set j1 v1))) := c1.set e4 hk rfl rfl ⟨_, upd_same, d2.set gd j1⟩
      have gv : vw c (O ++ O1 ++ O2 ++ O3) (S1.set k (.l (zs.set j1 x1))) (upd H3 pp (.lst (us.set j1 v1))) = vw c (O ++ O1 ++ O2 ++ O3) S1 H3 := vw_set e4 hk rfl rfl
      have q2 := ((q.step a2').step b2').step c2
      have s2 := ((sl.mono (O' := O1) a2').mono (O' := O2) b2').mono (O' := O3) c2
      rw [← gv] at s2 gd2
      refine ⟨v2, [], rfl, ?_⟩
      refine o2 σ _ _ g1 s2 _ fun w' H4 O4 k1 k2 k3 => ?_
      obtain ⟨pp2, e5, e6⟩ := k3
      subst e6
      refine n2 σ H4 _ k1 (s2.mono k2) _ fun u' H5 O5 l1 l2 l3 => ?_
      cases l3
      have hk2 : (S1.set k (.l (zs.set j1 x1)))[k]? = some (.l (zs.set j1 x1)) := List.getElem?_set_self (List.getElem?_eq_some_iff.mp hk).1
      have e7 : (O ++ O1 ++ O2 ++ O3 ++ O4 ++ O5)[k]? = some pp2 := by rw [List.getElem?_append_left (List.getElem?_eq_some_iff.mp e5).1]; exact e5
      obtain ⟨us2, m1, m2⟩ := l1.cell k pp2 _ e7 hk2
      refine ⟨pp2, us2, i2, j2, rfl, rfl, m1, by rw [m2.length, List.length_set]; exact hj2, rfl, ?_⟩
      have gd3 := At.mono l2 (At.mono k2 gd2)
      have g2 : Hs X.K c (O ++ O1 ++ O2 ++ O3 ++ O4 ++ O5) ((S1.set k (.l (zs.set j1 x1))).set k (.l ((zs.set j1 x1).set j2 x2))) (upd H5 pp2 (.lst (us2.set j2 v2))) := l1.set e7 hk2 rfl rfl ⟨_, upd_same, m2.set gd3 j2⟩
      have gv2 : vw c (O ++ O1 ++ O2 ++ O3 ++ O4 ++ O5) ((S1.set k (.l (zs.set j1 x1))).set k (.l ((zs.set j1 x1).set j2 x2))) (upd H5 pp2 (.lst (us2.set j2 v2))) = vw c (O ++ O1 ++ O2 ++ O3 ++ O4 ++ O5) (S1.set k (.l (zs.set j1 x1))) H5 := vw_set e7 hk2 rfl rfl
      have q3 : PostS X.K c (O ++ O1 ++ O2 ++ O3) (S1.set k (.l (zs.set j1 x1))) (upd H3 pp (.lst (us.set j1 v1))) D E := by
        refine ⟨fun a b c d e => ?_, fun a b c d e => ?_, fun a b c d e => ?_, fun a b c d e => ?_⟩
        · rw [gv]; exact q2.nx a b c d e
        · rw [gv]; exact q2.rt a b c d e
        · rw [gv]; exact q2.bk a b c d e
        · rw [gv]; exact q2.ct a b c d e
      have q4 := (q3.step k2).step l2
      have s5 := (s2.mono (O' := O4) k2).mono (O' := O5) l2
      rw [List.set_set] at g2 gv2
      exact q4.nx.go hn g2 (by rw [gv2]; exact s5) (by rw [gv2]; exact RX.refl _)
/-- list(xs) -/
theorem de_listOf {zs : List Dat} (hm : X.mg "list" = none) (h : DA X c ρ S (e :: es) [.d (.lst zs)] S1) (hg : Gl X "list" := by rfl) (he : starEach (e :: es) X.env = (false, eval e X.env) :: starEach es X.env := by rfl) (hpl : (backTo pos (starEach es X.env)).any (·.1) = false := by rfl) :
    DE X c ρ S (.Call (.Name "list" p) (e :: es) [] pos) (.d (.lst zs)) S1 := de_callTy call_list_of hm (by decide +kernel) h (fun vs H O hs hv Q q => by
  obtain ⟨v, e1, h1⟩ := hv.one
  have h1' : At X.K _ v (.lst zs) := h1
  cases h1' with
  | lst a1 a2 =>
    refine ⟨_, _, e1, .inl (vw_le.l a1), fun l hl => ?_⟩
    exact q.ex hs (Ex.new hl) (.lst (.inl (.inl (vw_fresh hs hl))) (a2.mono (RX.vw_ex (Ex.new hl))))) hg (he := he) (hpl := hpl)
end
/-- two names as a target -/
theorem pg_two {X : Cx} (i j : Nat) {x y : Str} {px py pt : Pos} {kt : Nat} (hN : X.N.Nodup) (hc : X.calm = true := by rfl) (hi : X.N[i]? = some x := by rfl) (hj : X.N[j]? = some y := by rfl) (hx : Loc X.env.scope x := by first | exact Or.inl rfl | exact Or.inr rfl) (hy : Loc X.env.scope y := by first | exact Or.inl rfl | exact Or.inr rfl)
    (fx : X.fn x = true ∨ X.env.scope.names.lookup x = some .local := by first | exact .inl rfl | exact .inr rfl | assumption) (fy : X.fn y = true ∨ X.env.scope.names.lookup y = some .local := by first | exact .inl rfl | exact .inr rfl | assumption)
    (hs1 : (assignEach [.Name x px, .Name y py] X.env).map (·.2) = assign (.Name x px) X.env :: (assignEach [.Name y py] X.env).map (·.2) := by rfl) (hs2 : (assignEach [.Name y py] X.env).map (·.2) = assign (.Name y py) X.env :: (assignEach [] X.env).map (·.2) := by rfl)
    (hnn : (assignEach [.Name x px, .Name y py] X.env).length = 2 := by rfl) (hst : (assignEach [.Name x px, .Name y py] X.env).findIdx? (·.1) = none := by rfl) : PG X (.Tuple [.Name x px, .Name y py] kt pt) ((Tg.two i j).g X.K) :=
  pg_tup hc (pgs_cons (pg_name hN hi hx fx) (pgs_cons (pg_name hN hj hy fy) pgs_nil hs2) hs1) hnn hst
theorem pg_one {X : Cx} (i : Nat) {x : Str} {px : Pos} (hN : X.N.Nodup) (hi : X.N[i]? = some x := by rfl) (hx : Loc X.env.scope x := by first | exact Or.inl rfl | exact Or.inr rfl) (fx : X.fn x = true ∨ X.env.scope.names.lookup x = some .local := by first | exact .inl rfl | exact .inr rfl | assumption) : PG X (.Name x px) ((Tg.one i).g X.K) := pg_name hN hi hx fx
/-- the end of a body that hands back a list of its own -/
def RetL (zs : List Dat) : De := { nx := fun _ _ => False, rt := fun z S => ∃ i, z = .o i ∧ S[i]? = some (.l zs) }
section
variable {P : Program} {w : World} {K : PySem.W.Frag} {mg : Str → Option Value} {base : Heap}
theorem cal_ofL {x : Str} {st : Stmt} {f : Addr} {fd : FuncData} {N ps : List Str} {k : Nat} {R : List Dat → List Dat → Prop} (F : Fun K x x st f fd) (gm : mg x = some (.ref f)) (hb : Binds K fd ps []) (Sc : FnScope N ps (defScope st)) (hn : ps.length ≤ N.length) (hl : ∀ ds r, R ds r → ds.length = ps.length)
    (body : ∀ (cdv : Value) (A : Around) (outer : List Env) (s : Shared) (H : Hp) (E : XK), Room k (BX P w K mg base N x st f cdv A outer s H E).A → ∀ (c : Cz) (ds zs : List Dat), R ds zs → DSs (BX P w K mg base N x st f cdv A outer s H E) c (slots0 N.length ds) [] (defBody st) (RetL zs)) :
    Cal P w K mg base (k + 1) x (spL K R) := by
  refine ⟨f, fd, ps, F.ok Sc (fun vs H Q E h => ?_) (fun cdv A outer s H vs Q E hr h => ?_), gm, F.kp, hb⟩
  · obtain ⟨Nn, ds, r, _, h2, h3, _⟩ := h
    rw [h2.length]
    exact hl ds r h3
  · obtain ⟨Nn, ds, zs, h1, h2, h3, q⟩ := h
    refine ⟨_, pss_tW, ?_⟩
    have B := body cdv A outer s H E hr (cB H Nn) ds zs h3
    have ok := cB_ok h1
    have hs : Hs K (cB H Nn) [] [] H := ⟨ok, Ex.refl H, rfl, fun i j p t u a => by simp at a, fun i p t a => by simp at a, fun i p t a => by simp at a⟩
    refine B (L2.start N vs) H [] hs ?_ _ ⟨fun ρ' S' σ' H' O' e1 a1 a2 a3 => e1.elim, fun z S' v H' O' e1 a1 a2 a3 => ?_, fun _ _ _ _ _ z => z.elim, fun _ _ _ _ _ z => z.elim⟩
    · have e0 : vw (cB H Nn) [] [] H = vN Nn H := vw_nil
      rw [e0]
      exact start_ok h2 (by rw [hl ds zs h3]; exact hn)
    · obtain ⟨i, e2, e3⟩ := (show ∃ i, z = .o i ∧ S'[i]? = some (.l zs) from e1)
      subst e2
      obtain ⟨p, e4, e5⟩ := a3
      subst e5
      obtain ⟨vs', c1, c2⟩ := a1.cell i p _ e4 e3
      obtain ⟨o1, o2⟩ := a1.own i p _ e4 e3 rfl
      have o2' : (H p).isSome = false := o2
      have hp : H p = none := by
        cases h : H p with
        | none => rfl
        | some u => rw [h] at o2'; cases o2'
      refine q H' p vs' a1.ph hp c1 (AtAll.mono (RX.ex fun a o h => ?_) c2)
      obtain ⟨g1, g2, g3⟩ := vw_some h
      have g2' : Nn a = false := g2
      have ne : a ≠ p := fun z => g3 (by rw [z]; exact mem_live.mpr ⟨i, _, e4, e3, rfl⟩)
      unfold vN
      rw [if_neg (by show ¬ (Nn a || decide (a = p)) = true; rw [g2', decide_eq_false ne]; decide)]
      exact g1
end
end Tw
end
section
/-! TwDet: signed sums over columns, determinants by rows and columns as lists, the step of an elimination without fractions. -/
set_option autoImplicit false
namespace Tw
def sg (r : Nat → Int) : List Nat → (List Nat → Int) → Int
  | [], _ => 0
  | c :: post, G => r c * G post - sg r post (fun l => G (c :: l))

def det : List (Nat → Int) → List Nat → Int
  | [], [] => 1
  | [], _ :: _ => 0
  | r :: rs, cols => sg r cols (det rs)

theorem sg_row (a b : Int) (r s : Nat → Int) : ∀ (cols : List Nat) (G : List Nat → Int), sg (fun c => a * r c + b * s c) cols G = a * sg r cols G + b * sg s cols G
  | [], _ => by simp [sg]
  | c :: post, G => by
    simp only [sg]
    rw [sg_row a b r s post]
    grind
theorem sg_fun (r : Nat → Int) (a b : Int) : ∀ (cols : List Nat) (F G : List Nat → Int), sg r cols (fun l => a * F l + b * G l) = a * sg r cols F + b * sg r cols G
  | [], _, _ => by simp [sg]
  | c :: post, F, G => by
    simp only [sg]
    rw [sg_fun r a b post (fun l => F (c :: l)) (fun l => G (c :: l))]
    grind
theorem sg_zero (r : Nat → Int) : ∀ (cols : List Nat), sg r cols (fun _ => 0) = 0
  | [] => rfl
  | c :: post => by
    simp only [sg]
    rw [sg_zero r post]
    simp
theorem sg_van {r : Nat → Int} : ∀ {cols : List Nat} (_ : ∀ c ∈ cols, r c = 0) (G : List Nat → Int), sg r cols G = 0
  | [], _, _ => rfl
  | c :: post, h, G => by
    simp only [sg]
    rw [sg_van (fun c hc => h c (List.mem_cons_of_mem _ hc)), h c List.mem_cons_self]
    simp
theorem sg_sg (r : Nat → Int) : ∀ (cols : List Nat) (G : List Nat → Int), sg r cols (fun l => sg r l G) = 0
  | [], _ => rfl
  | c :: post, G => by
    have e : (fun l => sg r (c :: l) G) = (fun l => r c * G l + (-1) * sg r l (fun l => G (c :: l))) := by
      funext l
      simp only [sg]
      grind
    simp only [sg]
    show r c * sg r post G - sg r post (fun l => sg r (c :: l) G) = 0
    rw [e, sg_fun, sg_sg r post]
    grind
theorem sg_anti (r s : Nat → Int) (cols : List Nat) (G : List Nat → Int) : sg r cols (fun l => sg s l G) = - sg s cols (fun l => sg r l G) := by
  have h := sg_sg (fun c => 1 * r c + 1 * s c) cols G
  rw [sg_row] at h
  have e : (fun l => sg (fun c => 1 * r c + 1 * s c) l G) = (fun l => 1 * sg r l G + 1 * sg s l G) := by
    funext l
    rw [sg_row]
  rw [e, sg_fun, sg_fun, sg_sg, sg_sg] at h
  omega
theorem det_mem {r : Nat → Int} : ∀ {rs : List (Nat → Int)} (_ : r ∈ rs) (cols : List Nat), det (r :: rs) cols = 0
  | s :: rs, h, cols => by
    rcases List.mem_cons.mp h with e | h
    · subst e
      show sg r cols (fun l => sg r l (det rs)) = 0
      exact sg_sg r cols _
    · show sg r cols (fun l => sg s l (det rs)) = 0
      rw [sg_anti]
      have e : (fun l => sg r l (det rs)) = fun _ => 0 := by
        funext l
        exact det_mem h l
      rw [e, sg_zero]
      rfl

/-! ### columns -/
def Alt (G : List Nat → Int) : Prop := ∀ pre a b l, G (pre ++ a :: b :: l) = - G (pre ++ b :: a :: l)
theorem Alt.tl {G : List Nat → Int} (h : Alt G) (c : Nat) : Alt (fun l => G (c :: l)) := fun pre a b l => h (c :: pre) a b l
theorem Alt.sg {r : Nat → Int} : ∀ (pre : List Nat) {G : List Nat → Int} (_ : Alt G) (a b : Nat) (l : List Nat), sg r (pre ++ a :: b :: l) G = - sg r (pre ++ b :: a :: l) G
  | [], G, h, a, b, l => by
    have e : (fun l => G (a :: b :: l)) = fun l => (-1) * G (b :: a :: l) + 0 * G l := by
      funext l
      have := h [] a b l
      simp only [List.nil_append] at this
      rw [this]
      grind
    simp only [List.nil_append, Tw.sg]
    rw [e, sg_fun]
    grind
  | c :: pre, G, h, a, b, l => by
    simp only [List.cons_append, Tw.sg]
    rw [Alt.sg pre (h.tl c) a b l, h pre a b l]
    grind
theorem det_alt : ∀ rs : List (Nat → Int), Alt (det rs)
  | [] => fun pre a b l => by cases pre <;> simp [det]
  | r :: rs => fun pre a b l => Alt.sg pre (det_alt rs) a b l
theorem alt_dup {G : List Nat → Int} (h : Alt G) : ∀ (mid pre : List Nat) (j : Nat) (post : List Nat), G (pre ++ j :: (mid ++ j :: post)) = 0
  | [], pre, j, post => by
    have := h pre j j post
    simp only [List.nil_append]
    omega
  | m :: mid, pre, j, post => by
    have e := h pre j m (mid ++ j :: post)
    have ih := alt_dup h mid (pre ++ [m]) j post
    simp only [List.append_assoc, List.cons_append, List.nil_append] at ih e ⊢
    omega
theorem det_dup (rs : List (Nat → Int)) {j : Nat} {C : List Nat} (h : j ∈ C) : det rs (j :: C) = 0 := by
  obtain ⟨mid, post, rfl⟩ := List.append_of_mem h
  exact alt_dup (det_alt rs) mid [] j post

/-! ### the bordered determinant -/
/-- the row r bordered: its determinant at each column -/
def bd (rs : List (Nat → Int)) (C : List Nat) (r : Nat → Int) : Nat → Int := fun j => det (r :: rs) (j :: C)
theorem bd_van {rs : List (Nat → Int)} {C : List Nat} {r : Nat → Int} {j : Nat} (h : j ∈ C) : bd rs C r j = 0 := det_dup _ h
theorem bd_eq (rs : List (Nat → Int)) (C : List Nat) (r : Nat → Int) (j : Nat) : bd rs C r j = det rs C * r j - sg r C (fun l => det rs (j :: l)) := by
  show sg r (j :: C) (det rs) = _
  simp only [sg]
  rw [Int.mul_comm]
structure Lin (L : (Nat → Int) → Int) : Prop where
  lin : ∀ (a b : Int) (f g : Nat → Int), L (fun c => a * f c + b * g c) = a * L f + b * L g
theorem Lin.zero {L : (Nat → Int) → Int} (h : Lin L) : L (fun _ => 0) = 0 := by
  have e : (fun _ : Nat => (0 : Int)) = fun c => 0 * (fun _ : Nat => (0 : Int)) c + 0 * (fun _ : Nat => (0 : Int)) c := by
    funext c
    simp
  rw [e, h.lin]
  simp
theorem Lin.sg {L : (Nat → Int) → Int} (h : Lin L) (s : Nat → Int) : ∀ (l : List Nat) (F : Nat → List Nat → Int), L (fun j => sg s l (F j)) = sg s l (fun l' => L (fun j => F j l'))
  | [], F => h.zero
  | c :: post, F => by
    simp only [Tw.sg]
    have e : (fun j => s c * F j post - Tw.sg s post (fun l => F j (c :: l))) = fun j => s c * (fun j => F j post) j + (-1) * (fun j => Tw.sg s post (fun l => F j (c :: l))) j := by
      funext j
      grind
    rw [e, h.lin, Lin.sg h s post (fun j l => F j (c :: l))]
    grind
theorem Lin.det {L : (Nat → Int) → Int} (h : Lin L) : ∀ {rs : List (Nat → Int)} (_ : ∀ s ∈ rs, L s = 0) (l : List Nat), L (fun j => det rs (j :: l)) = 0
  | [], _, l => h.zero
  | s :: rs, hs, l => by
    have e : (fun j => Tw.det (s :: rs) (j :: l)) = fun j => Tw.det rs l * s j + (-1) * (fun j => Tw.sg s l (fun l' => Tw.det rs (j :: l'))) j := by
      funext j
      show Tw.sg s (j :: l) (Tw.det rs) = _
      simp only [Tw.sg]
      grind
    rw [e, h.lin, hs s List.mem_cons_self, h.sg]
    have e2 : (fun l' => L (fun j => Tw.det rs (j :: l'))) = fun _ => 0 := by
      funext l'
      exact Lin.det h (fun s hs' => hs s (List.mem_cons_of_mem _ hs')) l'
    rw [e2, sg_zero]
    simp
theorem Lin.bd {L : (Nat → Int) → Int} (h : Lin L) {rs : List (Nat → Int)} (hs : ∀ s ∈ rs, L s = 0) (C : List Nat) (r : Nat → Int) : L (bd rs C r) = Tw.det rs C * L r := by
  have e : Tw.bd rs C r = fun j => Tw.det rs C * r j + (-1) * (fun j => Tw.sg r C (fun l => Tw.det rs (j :: l))) j := by
    funext j
    rw [bd_eq]
    grind
  rw [e, h.lin, h.sg]
  have e2 : (fun l' => L (fun j => Tw.det rs (j :: l'))) = fun _ => 0 := by
    funext l'
    exact h.det hs l'
  rw [e2, sg_zero]
  simp
theorem lin_sg (cols : List Nat) (G : List Nat → Int) : Lin (fun r => sg r cols G) := ⟨fun a b f g => sg_row a b f g cols G⟩
theorem lin_det (S : List (Nat → Int)) (cols : List Nat) : Lin (fun r => det (r :: S) cols) := lin_sg cols (det S)
/-- THE STEP: the bordered determinants of the next size, times this one -/
theorem bd_step (rs : List (Nat → Int)) (C : List Nat) (q r : Nat → Int) (k j : Nat) (hd : det rs C ≠ 0) :
    det rs C * bd (q :: rs) (k :: C) r j = bd rs C q k * bd rs C r j - bd rs C r k * bd rs C q j := by
  have h1 : det (bd rs C r :: bd rs C q :: rs) (j :: k :: C) = det rs C * (bd rs C r j * bd rs C q k - bd rs C r k * bd rs C q j) := by
    have vq : ∀ c ∈ C, bd rs C q c = 0 := fun c hc => bd_van hc
    have vr : ∀ c ∈ C, bd rs C r c = 0 := fun c hc => bd_van hc
    have g : ∀ m, det (bd rs C q :: rs) (m :: C) = bd rs C q m * det rs C := fun m => by
      show sg (bd rs C q) (m :: C) (det rs) = _
      simp only [sg]
      rw [sg_van vq]
      simp
    show sg (bd rs C r) (j :: k :: C) (det (bd rs C q :: rs)) = _
    simp only [sg]
    rw [sg_van vr, g, g]
    grind
  have h2 : det (bd rs C r :: bd rs C q :: rs) (j :: k :: C) = det rs C * det (r :: bd rs C q :: rs) (j :: k :: C) - det rs C * 0 := by
    have L := lin_det (bd rs C q :: rs) (j :: k :: C)
    have := L.bd (rs := rs) (fun s hs => det_mem (List.mem_cons_of_mem _ hs) _) C r
    rw [this]
    simp
  have h3 : det (r :: bd rs C q :: rs) (j :: k :: C) = det rs C * det (r :: q :: rs) (j :: k :: C) := by
    show sg r (j :: k :: C) (det (bd rs C q :: rs)) = det rs C * sg r (j :: k :: C) (det (q :: rs))
    have e : det (bd rs C q :: rs) = fun l => det rs C * det (q :: rs) l + 0 * det (q :: rs) l := by
      funext l
      have L := lin_det rs l
      have := L.bd (rs := rs) (fun s hs => det_mem hs _) C q
      have this' : det (bd rs C q :: rs) l = det rs C * det (q :: rs) l := this
      rw [this']
      simp
    rw [e, sg_fun]
    simp
  have h4 : det rs C * (det rs C * bd (q :: rs) (k :: C) r j) = det rs C * (bd rs C q k * bd rs C r j - bd rs C r k * bd rs C q j) := by
    show det rs C * (det rs C * det (r :: q :: rs) (j :: k :: C)) = _
    rw [← h3]
    grind
  exact Int.eq_of_mul_eq_mul_left hd h4

/-! ### how large -/
theorem sg_abs {r : Nat → Int} {B : Nat} : ∀ {cols : List Nat} {G : List Nat → Int} {D : Nat} (_ : ∀ c ∈ cols, (r c).natAbs ≤ B) (_ : ∀ l, l.length + 1 = cols.length → (∀ c ∈ l, c ∈ cols) → (G l).natAbs ≤ D), (sg r cols G).natAbs ≤ cols.length * (B * D)
  | [], _, _, _, _ => by simp [sg]
  | c :: post, G, D, hr, hG => by
    simp only [sg]
    have h1 : (r c * G post).natAbs ≤ B * D := by
      rw [Int.natAbs_mul]
      exact Nat.mul_le_mul (hr c List.mem_cons_self) (hG post rfl fun c hc => List.mem_cons_of_mem _ hc)
    have h2 := sg_abs (r := r) (B := B) (cols := post) (G := fun l => G (c :: l)) (D := D) (fun c hc => hr c (List.mem_cons_of_mem _ hc)) (fun l hl hm => hG (c :: l) (by simp [hl]) fun c' hc' => by
      rcases List.mem_cons.mp hc' with e | e
      · rw [e]; exact List.mem_cons_self
      · exact List.mem_cons_of_mem _ (hm c' e))
    have h3 : (c :: post).length * (B * D) = post.length * (B * D) + B * D := by
      rw [List.length_cons, Nat.add_mul, Nat.one_mul]
    rw [h3]
    omega
theorem det_abs {B N : Nat} (hB : 1 ≤ B) (hN : 1 ≤ N) {S : Nat → Prop} : ∀ {rs : List (Nat → Int)} {cols : List Nat} (_ : cols.length = rs.length) (_ : rs.length ≤ N) (_ : ∀ r ∈ rs, ∀ c, S c → (r c).natAbs ≤ B) (_ : ∀ c ∈ cols, S c), (det rs cols).natAbs ≤ (N * B) ^ rs.length
  | [], [], _, _, _, _ => by simp [det]
  | [], _ :: _, h, _, _, _ => by simp at h
  | r :: rs, cols, h, hn, hr, hc => by
    have h1 : (sg r cols (det rs)).natAbs ≤ cols.length * (B * (N * B) ^ rs.length) := sg_abs (fun c hc' => hr r List.mem_cons_self c (hc c hc')) (fun l hl hm =>
      det_abs hB hN (by simp at h; omega) (by simp at hn; omega) (fun r' hr' => hr r' (List.mem_cons_of_mem _ hr')) (fun c hc' => hc c (hm c hc')))
    refine Nat.le_trans h1 ?_
    rw [h, List.length_cons, Nat.pow_succ, Nat.mul_comm _ (N * B), Nat.mul_assoc]
    exact Nat.mul_le_mul (by simpa using hn) (Nat.le_refl _)
end Tw
end
section
/-! TwSolve: the elimination of the program, its table by determinants; plain Lean. -/
set_option autoImplicit false
set_option linter.all false
namespace Tw
def RS (A : Nat → Nat → Int) : Nat → List (Nat → Int)
  | 0 => []
  | k + 1 => A k :: RS A k
def CS : Nat → List Nat
  | 0 => []
  | k + 1 => k :: CS k
theorem mem_CS {c : Nat} : ∀ {k : Nat}, c ∈ CS k ↔ c < k
  | 0 => by simp [CS]
  | k + 1 => by
    rw [CS, List.mem_cons, mem_CS (k := k)]
    omega
theorem CS_len : ∀ k, (CS k).length = k
  | 0 => rfl
  | k + 1 => by rw [CS, List.length_cons, CS_len k]
theorem RS_len (A : Nat → Nat → Int) : ∀ k, (RS A k).length = k
  | 0 => rfl
  | k + 1 => by rw [RS, List.length_cons, RS_len A k]
theorem mem_RS {A : Nat → Nat → Int} {r : Nat → Int} : ∀ {k : Nat}, r ∈ RS A k → ∃ i, i < k ∧ r = A i
  | k + 1, h => by
    rcases List.mem_cons.mp h with e | h
    · exact ⟨k, by omega, e⟩
    · obtain ⟨i, h1, h2⟩ := mem_RS h
      exact ⟨i, by omega, h2⟩
def dd (A : Nat → Nat → Int) (k : Nat) : Int := det (RS A k) (CS k)
def eD (i : Nat) : Nat → Int := fun j => if j = i then 1 else 0
/-- the table behind k turns -/
def TT (A : Nat → Nat → Int) (k i j : Nat) : Int := if i < k then dd A k * eD i j - bd (RS A k) (CS k) (eD i) j else bd (RS A k) (CS k) (A i) j
theorem dd_zero (A : Nat → Nat → Int) : dd A 0 = 1 := rfl
theorem TT_zero (A : Nat → Nat → Int) (i j : Nat) : TT A 0 i j = A i j := by
  unfold TT
  rw [if_neg (by omega)]
  show sg (A i) [j] (det []) = A i j
  simp [sg, det]
theorem dd_succ (A : Nat → Nat → Int) (k : Nat) : dd A (k + 1) = TT A k k k := by
  unfold TT
  rw [if_neg (by omega)]
  rfl
theorem bd_own {A : Nat → Nat → Int} {k j : Nat} : bd (RS A k) (CS k) (eD k) j = dd A k * eD k j := by
  rw [bd_eq]
  have : sg (eD k) (CS k) (fun l => det (RS A k) (j :: l)) = 0 := sg_van (fun c hc => by
    have := mem_CS.mp hc
    unfold eD
    rw [if_neg (by omega)]) _
  rw [this]
  show dd A k * eD k j - 0 = _
  omega
/-- the pivot's row stays -/
theorem TT_row {A : Nat → Nat → Int} {k : Nat} (hd : dd A k ≠ 0) (j : Nat) : TT A (k + 1) k j = TT A k k j := by
  unfold TT
  rw [if_pos (by omega), if_neg (by omega)]
  have h := bd_step (RS A k) (CS k) (A k) (eD k) k j hd
  rw [bd_own, bd_own] at h
  have e1 : eD k k = 1 := by unfold eD; rw [if_pos rfl]
  have hk : dd A (k + 1) = bd (RS A k) (CS k) (A k) k := rfl
  have h' : dd A k * bd (RS A (k + 1)) (CS (k + 1)) (eD k) j = dd A (k + 1) * (dd A k * eD k j) - dd A k * eD k k * bd (RS A k) (CS k) (A k) j := by rw [hk]; exact h
  rw [e1] at h'
  have h2 : dd A k * (dd A (k + 1) * eD k j - bd (RS A (k + 1)) (CS (k + 1)) (eD k) j) = dd A k * bd (RS A k) (CS k) (A k) j := by grind
  exact Int.eq_of_mul_eq_mul_left hd h2
/-- all other rows -/
theorem TT_step {A : Nat → Nat → Int} {k i : Nat} (hd : dd A k ≠ 0) (hi : i ≠ k) (j : Nat) : dd A k * TT A (k + 1) i j = TT A k k k * TT A k i j - TT A k i k * TT A k k j := by
  have hkk : TT A k k k = dd A (k + 1) := (dd_succ A k).symm
  have hkj : TT A k k j = bd (RS A k) (CS k) (A k) j := by unfold TT; rw [if_neg (by omega)]
  have hd1 : dd A (k + 1) = bd (RS A k) (CS k) (A k) k := rfl
  by_cases h : i < k
  · have e0 : TT A (k + 1) i j = dd A (k + 1) * eD i j - bd (RS A (k + 1)) (CS (k + 1)) (eD i) j := by unfold TT; rw [if_pos (by omega)]
    have e1 : TT A k i j = dd A k * eD i j - bd (RS A k) (CS k) (eD i) j := by unfold TT; rw [if_pos h]
    have e2 : TT A k i k = 0 - bd (RS A k) (CS k) (eD i) k := by
      unfold TT
      rw [if_pos h]
      have : eD i k = 0 := by unfold eD; rw [if_neg (by omega)]
      rw [this, Int.mul_zero]
    have hs := bd_step (RS A k) (CS k) (A k) (eD i) k j hd
    have hs' : dd A k * bd (RS A (k + 1)) (CS (k + 1)) (eD i) j = dd A (k + 1) * bd (RS A k) (CS k) (eD i) j - bd (RS A k) (CS k) (eD i) k * bd (RS A k) (CS k) (A k) j := by rw [hd1]; exact hs
    rw [e0, e1, e2, hkk, hkj]
    grind
  · have e0 : TT A (k + 1) i j = bd (RS A (k + 1)) (CS (k + 1)) (A i) j := by unfold TT; rw [if_neg (by omega)]
    have e1 : TT A k i j = bd (RS A k) (CS k) (A i) j := by unfold TT; rw [if_neg h]
    have e2 : TT A k i k = bd (RS A k) (CS k) (A i) k := by unfold TT; rw [if_neg h]
    have hs := bd_step (RS A k) (CS k) (A k) (A i) k j hd
    have hs' : dd A k * bd (RS A (k + 1)) (CS (k + 1)) (A i) j = dd A (k + 1) * bd (RS A k) (CS k) (A i) j - bd (RS A k) (CS k) (A i) k * bd (RS A k) (CS k) (A k) j := by rw [hd1]; exact hs
    rw [e0, e1, e2, hkk, hkj]
    exact hs'

/-! ### signs -/
def sm (f : Nat → Int) : Nat → Nat → Int
  | _, 0 => 0
  | k, m + 1 => f k + sm f (k + 1) m
theorem sm_lin (a b : Int) (f g : Nat → Int) : ∀ (m k : Nat), sm (fun j => a * f j - b * g j) k m = a * sm f k m - b * sm g k m
  | 0, k => by simp [sm]
  | m + 1, k => by
    simp only [sm]
    rw [sm_lin a b f g m (k + 1)]
    grind
theorem sm_congr {f g : Nat → Int} : ∀ {m k : Nat}, (∀ j, k ≤ j → j < k + m → f j = g j) → sm f k m = sm g k m
  | 0, k, _ => rfl
  | m + 1, k, h => by
    simp only [sm]
    rw [h k (Nat.le_refl _) (by omega), sm_congr (m := m) fun j h1 h2 => h j (by omega) (by omega)]
theorem sm_mul (a : Int) (f : Nat → Int) : ∀ (m k : Nat), sm (fun j => a * f j) k m = a * sm f k m
  | 0, k => by simp [sm]
  | m + 1, k => by
    simp only [sm]
    rw [sm_mul a f m (k + 1)]
    grind
theorem sm_le {f : Nat → Int} : ∀ {m k : Nat}, (∀ j, k ≤ j → j < k + m → f j ≤ 0) → sm f k m ≤ 0
  | 0, k, _ => Int.le_refl _
  | m + 1, k, h => by
    simp only [sm]
    have h1 := h k (Nat.le_refl _) (by omega)
    have h2 := sm_le (f := f) (m := m) (k := k + 1) fun j h1 h2 => h j (by omega) (by omega)
    omega
/-- rows that are stronger on the diagonal -/
structure Dom (A : Nat → Nat → Int) (n : Nat) : Prop where
  off : ∀ i j, i < n → j < n → j ≠ i → A i j ≤ 0
  sum : ∀ i, i < n → 0 < sm (A i) 0 n
structure Sg (A : Nat → Nat → Int) (n k : Nat) : Prop where
  d : 0 < dd A k
  off : ∀ i j, i < n → k ≤ j → j < n → j ≠ i → TT A k i j ≤ 0
  sum : ∀ i, k ≤ i → i < n → 0 < sm (TT A k i) k (n - k)
theorem Dom.sg {A : Nat → Nat → Int} {n : Nat} (h : Dom A n) : Sg A n 0 := ⟨by rw [dd_zero]; omega, fun i j h1 _ h2 h3 => by rw [TT_zero]; exact h.off i j h1 h2 h3, fun i _ h2 => by
  have e : sm (TT A 0 i) 0 (n - 0) = sm (A i) 0 n := by
    rw [Nat.sub_zero]
    exact sm_congr fun j _ _ => TT_zero A i j
  rw [e]
  exact h.sum i h2⟩
theorem Sg.pivot {A : Nat → Nat → Int} {n k : Nat} (h : Sg A n k) (hk : k < n) : 0 < TT A k k k := by
  have h1 := h.sum k (Nat.le_refl _) hk
  rw [show n - k = (n - k - 1) + 1 by omega] at h1
  simp only [sm] at h1
  have h2 := sm_le (f := TT A k k) (m := n - k - 1) (k := k + 1) fun j h1 h2 => h.off k j hk (by omega) (by omega) (by omega)
  omega
theorem nonpos_mul {a b : Int} (h1 : a ≤ 0) (h2 : b ≤ 0) : 0 ≤ a * b := Int.mul_nonneg_of_nonpos_of_nonpos h1 h2
theorem pos_nonpos {a b : Int} (h1 : 0 < a) (h2 : b ≤ 0) : a * b ≤ 0 := Int.mul_nonpos_of_nonneg_of_nonpos (by omega) h2
theorem neg_of_mul {d x : Int} (hd : 0 < d) (h : d * x ≤ 0) : x ≤ 0 := by
  rcases Int.lt_or_le 0 x with h1 | h1
  · have := Int.mul_pos hd h1
    omega
  · exact h1
theorem pos_of_mul {d x : Int} (hd : 0 < d) (h : 0 < d * x) : 0 < x := by
  rcases Int.lt_or_le 0 x with h1 | h1
  · exact h1
  · have := pos_nonpos hd h1
    omega
theorem Sg.next {A : Nat → Nat → Int} {n k : Nat} (h : Sg A n k) (hk : k < n) : Sg A n (k + 1) := by
  have hp := h.pivot hk
  have hd : dd A k ≠ 0 := by have := h.d; omega
  refine ⟨by rw [dd_succ]; exact hp, fun i j h1 h2 h3 h4 => ?_, fun i h1 h2 => ?_⟩
  · by_cases e : i = k
    · subst e
      rw [TT_row hd]
      exact h.off i j h1 (by omega) h3 h4
    · have hs := TT_step hd e j
      have a1 := h.off i j h1 (by omega) h3 h4
      have a2 := h.off i k h1 (Nat.le_refl _) hk (Ne.symm e)
      have a3 := h.off k j hk (by omega) h3 (by omega)
      have b1 := pos_nonpos hp a1
      have b2 := nonpos_mul a2 a3
      exact neg_of_mul h.d (by omega)
  · have e : i ≠ k := by omega
    have a2 := h.off i k h2 (Nat.le_refl _) hk (Ne.symm e)
    have s1 := h.sum i (by omega) h2
    have s2 := h.sum k (Nat.le_refl _) hk
    rw [show n - k = (n - (k + 1)) + 1 by omega] at s1 s2
    simp only [sm] at s1 s2
    have hs : dd A k * sm (TT A (k + 1) i) (k + 1) (n - (k + 1)) = TT A k k k * sm (TT A k i) (k + 1) (n - (k + 1)) - TT A k i k * sm (TT A k k) (k + 1) (n - (k + 1)) := by
      rw [← sm_mul, ← sm_lin]
      exact sm_congr fun j _ _ => TT_step hd e j
    have b1 := Int.mul_pos hp s1
    have b2 : TT A k i k * (TT A k k k + sm (TT A k k) (k + 1) (n - (k + 1))) ≤ 0 := by
      rw [Int.mul_comm]
      exact pos_nonpos s2 a2
    refine pos_of_mul h.d ?_
    rw [hs]
    have e1 : TT A k k k * (TT A k i k + sm (TT A k i) (k + 1) (n - (k + 1))) = TT A k k k * TT A k i k + TT A k k k * sm (TT A k i) (k + 1) (n - (k + 1)) := Int.mul_add _ _ _
    have e2 : TT A k i k * (TT A k k k + sm (TT A k k) (k + 1) (n - (k + 1))) = TT A k k k * TT A k i k + TT A k i k * sm (TT A k k) (k + 1) (n - (k + 1)) := by rw [Int.mul_add, Int.mul_comm (TT A k i k) (TT A k k k)]
    omega
theorem Dom.sgn {A : Nat → Nat → Int} {n : Nat} (h : Dom A n) : ∀ k, k ≤ n → Sg A n k
  | 0, _ => h.sg
  | k + 1, hk => (h.sgn k (by omega)).next (by omega)
/-- sums above 0 stay above 0 -/
theorem Dom.rhs {A : Nat → Nat → Int} {n : Nat} (h : Dom A n) (hr : ∀ i, i < n → 0 < A i n) : ∀ k, k ≤ n → ∀ i, i < n → 0 < TT A k i n
  | 0, _, i, hi => by rw [TT_zero]; exact hr i hi
  | k + 1, hk, i, hi => by
    have sk := h.sgn k (by omega)
    have hp := sk.pivot (by omega)
    have hd : dd A k ≠ 0 := by have := sk.d; omega
    by_cases e : i = k
    · subst e
      rw [TT_row hd]
      exact h.rhs hr i (by omega) i hi
    · have hs := TT_step hd e n
      have a1 := h.rhs hr k (by omega) i hi
      have a2 := sk.off i k hi (Nat.le_refl _) (by omega) (Ne.symm e)
      have a3 := h.rhs hr k (by omega) k (by omega)
      have b1 := Int.mul_pos hp a1
      have b2 : TT A k i k * TT A k k n ≤ 0 := by rw [Int.mul_comm]; exact pos_nonpos a3 a2
      exact pos_of_mul sk.d (by omega)

/-! ### sizes -/
structure Small (A : Nat → Nat → Int) (n B b : Nat) : Prop where
  one : 1 ≤ B
  abs : ∀ i j, i < n → j ≤ n → (A i j).natAbs ≤ B
  bits : 2 * ((n + 1) * B) ^ (n + 1) < 2 ^ b
theorem Small.dd {A : Nat → Nat → Int} {n B b k : Nat} (h : Small A n B b) (hk : k ≤ n) : 2 * (dd A k).natAbs < 2 ^ b := by
  have h1 := det_abs (B := B) (N := n + 1) h.one (by omega) (S := fun j => j ≤ n) (rs := RS A k) (cols := CS k) (by rw [RS_len, CS_len]) (by rw [RS_len]; omega) (fun r hr c hc => by
    obtain ⟨i, hi, rfl⟩ := mem_RS hr
    exact h.abs i c (by omega) hc) (fun c hc => by have := mem_CS.mp hc; omega)
  rw [RS_len] at h1
  have h2 : ((n + 1) * B) ^ k ≤ ((n + 1) * B) ^ (n + 1) := Nat.pow_le_pow_right (Nat.mul_pos (by omega) h.one) (by omega)
  have := h.bits
  show 2 * (det (RS A k) (CS k)).natAbs < 2 ^ b
  omega
theorem Small.bd {A : Nat → Nat → Int} {n B b k j : Nat} (h : Small A n B b) (hk : k ≤ n) (hj : j ≤ n) {r : Nat → Int} (hr : ∀ c, c ≤ n → (r c).natAbs ≤ B) : 2 * (bd (RS A k) (CS k) r j).natAbs < 2 ^ b := by
  have h1 := det_abs (B := B) (N := n + 1) h.one (by omega) (S := fun j => j ≤ n) (rs := r :: RS A k) (cols := j :: CS k) (by rw [List.length_cons, List.length_cons, RS_len, CS_len]) (by rw [List.length_cons, RS_len]; omega) (fun r' hr' c hc => by
    rcases List.mem_cons.mp hr' with e | hr'
    · rw [e]; exact hr c hc
    · obtain ⟨i, hi, rfl⟩ := mem_RS hr'
      exact h.abs i c (by omega) hc) (fun c hc => by
    rcases List.mem_cons.mp hc with e | hc
    · rw [e]; exact hj
    · have := mem_CS.mp hc; omega)
  rw [List.length_cons, RS_len] at h1
  have h2 : ((n + 1) * B) ^ (k + 1) ≤ ((n + 1) * B) ^ (n + 1) := Nat.pow_le_pow_right (Nat.mul_pos (by omega) h.one) (by omega)
  have := h.bits
  show 2 * (det (r :: RS A k) (j :: CS k)).natAbs < 2 ^ b
  omega
theorem Small.tt {A : Nat → Nat → Int} {n B b k i j : Nat} (h : Small A n B b) (hk : k ≤ n) (hi : i < n) (hj : j ≤ n) : (TT A k i j).natAbs < 2 ^ b := by
  unfold TT
  have hb := h.one
  split
  · have h1 := h.dd hk
    have h2 := h.bd hk hj (r := eD i) fun c _ => by
      unfold eD
      split <;> simp <;> omega
    have h3 : (Tw.dd A k * eD i j).natAbs ≤ (Tw.dd A k).natAbs := by
      unfold eD
      split <;> simp
    omega
  · have h2 := h.bd hk hj (r := A i) fun c hc => h.abs i c hi hc
    omega
end Tw
end
section
/-! TwSys: rows made whole, the program's table; plain Lean. -/
set_option autoImplicit false
set_option linter.all false
namespace Tw
def mTimes (row : List Fr) : Int := row.foldl (fun t p => t / cg t p.2 * p.2) 1
def mWhole (row : List Fr) : List Int := row.map fun p => p.1 * (mTimes row / p.2)
def pBot (row : List Fr) : Nat := row.foldl (fun t p => t * p.2.natAbs) 1
theorem mt_step {t b : Int} (h1 : 1 ≤ t) (h2 : 1 ≤ b) : 1 ≤ t / cg t b * b ∧ t / cg t b * b ≤ t * b ∧ t ∣ t / cg t b * b ∧ b ∣ t / cg t b * b := by
  obtain ⟨g, u, v, a1, a2, a3, a4, a5, a6, a7⟩ := cg_ex t b (by omega)
  have e : t / cg t b = u := by
    have : (nf t b).1 = u := by rw [a6]
    exact this
  rw [e]
  have hu : 1 ≤ u := by
    rcases Int.lt_trichotomy u 0 with h | h | h
    · have := Int.mul_neg_of_pos_of_neg a1 h
      omega
    · rw [h] at a3; omega
    · omega
  refine ⟨by have := mul_pos' hu h2; omega, ?_, ⟨v, ?_⟩, ⟨u, Int.mul_comm _ _⟩⟩
  · refine Int.mul_le_mul_of_nonneg_right ?_ (by omega)
    have : 1 * u ≤ g * u := Int.mul_le_mul_of_nonneg_right (by omega) (by omega)
    omega
  · rw [a4, a3]
    grind
theorem mTimes_app (r s : List Fr) : mTimes (r ++ s) = s.foldl (fun t p => t / cg t p.2 * p.2) (mTimes r) := List.foldl_append
theorem pBot_app (r s : List Fr) : pBot (r ++ s) = s.foldl (fun t p => t * p.2.natAbs) (pBot r) := List.foldl_append
theorem foldl_pBot : ∀ (s : List Fr) (a : Nat), s.foldl (fun t p => t * p.2.natAbs) a = a * pBot s
  | [], a => by simp [pBot]
  | p :: s, a => by
    rw [List.foldl_cons, foldl_pBot s]
    unfold pBot
    rw [List.foldl_cons, foldl_pBot s (1 * p.2.natAbs)]
    unfold pBot
    grind
theorem pBot_mul (r s : List Fr) : pBot (r ++ s) = pBot r * pBot s := by rw [pBot_app, foldl_pBot]
theorem pBot_pos : ∀ {s : List Fr}, (∀ p ∈ s, 1 ≤ p.2) → 1 ≤ pBot s
  | [], _ => Nat.le_refl _
  | p :: s, h => by
    rw [show p :: s = [p] ++ s from rfl, pBot_mul]
    have h1 := pBot_pos (s := s) fun q hq => h q (List.mem_cons_of_mem _ hq)
    have h2 := h p List.mem_cons_self
    have h3 : pBot [p] = p.2.natAbs := by simp [pBot]
    rw [h3]
    exact Nat.mul_pos (by omega) h1
theorem pBot_take {s : List Fr} (h : ∀ p ∈ s, 1 ≤ p.2) (i : Nat) : pBot (s.take i) ≤ pBot s := by
  have e := pBot_mul (s.take i) (s.drop i)
  rw [List.take_append_drop] at e
  rw [e]
  exact Nat.le_mul_of_pos_right _ (pBot_pos fun p hp => h p (List.mem_of_mem_drop hp))
theorem mTimes_snoc (r : List Fr) (p : Fr) : mTimes (r ++ [p]) = mTimes r / cg (mTimes r) p.2 * p.2 := by rw [mTimes_app]; rfl
theorem mTimes_take {row : List Fr} {i : Nat} {p : Fr} (h : row[i]? = some p) : mTimes (row.take (i + 1)) = mTimes (row.take i) / cg (mTimes (row.take i)) p.2 * p.2 := by
  rw [List.take_add_one, h]
  exact mTimes_snoc _ _
theorem mTimes_ok : ∀ (n : Nat) {row : List Fr}, row.length = n → (∀ p ∈ row, 1 ≤ p.2) → 1 ≤ mTimes row ∧ mTimes row ≤ (pBot row : Nat) ∧ ∀ p ∈ row, p.2 ∣ mTimes row
  | 0, row, hn, h => by
    have e : row = [] := List.eq_nil_of_length_eq_zero hn
    subst e
    exact ⟨Int.le_refl _, Int.le_refl _, fun p hp => by simp at hp⟩
  | n + 1, row, hn, h => by
    have hne : row ≠ [] := fun z => by rw [z] at hn; simp at hn
    have e := List.dropLast_concat_getLast hne
    generalize hr : row.dropLast = r at e
    generalize hp : row.getLast hne = p at e
    subst e
    have hl : r.length = n := by simp at hn; omega
    obtain ⟨h1, h2, h3⟩ := mTimes_ok n hl fun q hq => h q (List.mem_append_left _ hq)
    have hp2 := h p (by simp)
    obtain ⟨a1, a2, a3, a4⟩ := mt_step h1 hp2
    rw [mTimes_snoc]
    refine ⟨a1, Int.le_trans a2 ?_, fun q hq => ?_⟩
    · rw [pBot_mul]
      have e2 : pBot [p] = p.2.natAbs := by simp [pBot]
      rw [e2, Int.natCast_mul, Int.natAbs_of_nonneg (by omega)]
      exact Int.mul_le_mul_of_nonneg_right h2 (by omega)
    · rcases List.mem_append.mp hq with hq | hq
      · exact Int.dvd_trans (h3 q hq) a3
      · rw [List.mem_singleton.mp hq]; exact a4
structure RowB (row : List Fr) : Prop where
  fb : ∀ p ∈ row, Fb 1000 p
  bot : pBot row < 2 ^ 2000
theorem RowB.pos {row : List Fr} (h : RowB row) : ∀ p ∈ row, 1 ≤ p.2 := fun p hp => (h.fb p hp).pos
theorem RowB.times {row : List Fr} (h : RowB row) (i : Nat) : 1 ≤ mTimes (row.take i) ∧ (mTimes (row.take i)).natAbs < 2 ^ 2000 := by
  obtain ⟨h1, h2, _⟩ := mTimes_ok _ rfl (row := row.take i) fun p hp => h.pos p (List.mem_of_mem_take hp)
  have h3 := pBot_take h.pos i
  have h4 := h.bot
  exact ⟨h1, by omega⟩
def tabL (A : Nat → Nat → Int) (n k : Nat) : List (List Int) := (List.range n).map fun i => (List.range (n + 1)).map fun j => TT A k i j
def solve (A : Nat → Nat → Int) (n : Nat) : List Fr := (List.range n).map fun i => nf (TT A n i n) (dd A n)
theorem tabL_len (A : Nat → Nat → Int) (n k : Nat) : (tabL A n k).length = n := by unfold tabL; rw [List.length_map, List.length_range]
theorem tabL_get {A : Nat → Nat → Int} {n k i : Nat} (h : i < n) : (tabL A n k)[i]? = some ((List.range (n + 1)).map fun j => TT A k i j) := by
  unfold tabL
  rw [List.getElem?_map, List.getElem?_range h]
  rfl
theorem row_get {f : Nat → Int} {n j : Nat} (h : j ≤ n) : ((List.range (n + 1)).map f)[j]? = some (f j) := by
  rw [List.getElem?_map, List.getElem?_range (by omega)]
  rfl
def sysA (rows : List (List Fr)) (sums : List Fr) (i j : Nat) : Int := (mWhole ((rows[i]?.getD []) ++ [sums[i]?.getD (0, 1)]))[j]?.getD 0
theorem mWhole_eq {rows : List (List Fr)} {sums : List Fr} {i n : Nat} {row : List Fr} {s : Fr} (h1 : rows[i]? = some row) (h2 : sums[i]? = some s) (h3 : row.length = n) : mWhole (row ++ [s]) = (List.range (n + 1)).map (sysA rows sums i) := by
  apply List.ext_getElem?
  intro j
  have hl : (mWhole (row ++ [s])).length = n + 1 := by unfold mWhole; simp; omega
  by_cases hj : j < n + 1
  · rw [List.getElem?_map, List.getElem?_range hj]
    show _ = some (sysA rows sums i j)
    unfold sysA
    rw [h1, h2]
    show (mWhole (row ++ [s]))[j]? = some ((mWhole (row ++ [s]))[j]?.getD 0)
    rw [List.getElem?_eq_getElem (by omega)]
    rfl
  · rw [List.getElem?_eq_none (by omega), List.getElem?_eq_none (by simp; omega)]
end Tw
end
section
set_option Elab.async false
set_option linter.all false
set_option maxRecDepth 100000
set_option maxHeartbeats 1000000
namespace Tw
open PySem PySem.Spec PyProof.Rows L2
open Evl (Ex)
def rowD (l : List Int) : Dat := .lst (l.map .int)
def tabD (t : List (List Int)) : Dat := .lst (t.map rowD)
def frsD (l : List Fr) : Dat := .lst (l.map frD)
theorem wdiv {i j : Int} {b : Nat} (h : 0 < j) (hb : j.natAbs < 2 ^ b) (h9 : b ≤ 9000) : CDivW i j := wide_div (b := b + 1) h (Nat.lt_of_lt_of_le hb (pow_mono (by omega))) (by omega) |> fun f => by
  by_cases h1 : b + 1 ≤ 9000
  · exact f h1
  · have e : b = 9000 := by omega
    subst e
    exact wide_div h hb (by decide) (by decide)
theorem wmul {i j : Int} {a b : Nat} (ha : i.natAbs < 2 ^ a) (hb : j.natAbs < 2 ^ b) (h : a + b ≤ 100000) : CMulW i j := wide_mul (a := a + 1) (b := b + 1) (Nat.lt_of_lt_of_le ha (pow_mono (by omega))) (Nat.lt_of_lt_of_le hb (pow_mono (by omega))) (by omega) (by omega) (by omega)
section
variable {P : Program} {w : World} {K : PySem.W.Frag} {mg : Str → Option Value} {base : Heap}
def R_made_whole (ds : List Dat) (r : Dat) : Prop := ∃ row : List Fr, RowB row ∧ row.length ≤ 1000 ∧ ds = [frsD row] ∧ r = rowD (mWhole row)
theorem ok_made_whole (F : FT K mg "made_whole" s_made_whole P_made_whole) (c_shared_by : Cal P w K mg base 1 "shared_by" (spP K R_gcd)) : Cal P w K mg base 2 "made_whole" (spP K R_made_whole) := by
  obtain ⟨f, fd, F, gm, hb⟩ := F.ex
  refine cal_of F gm hb sc_made_whole (by decide) (fun ds r ⟨_, _, _, h, _⟩ => by rw [h]; rfl) fun cdv A outer s H E hr c ds r hR => ?_
  obtain ⟨row, hrow, hl, rfl, rfl⟩ := hR
  refine dss_cons (ds_set 1 de_int ?_ sc_made_whole.nd)
  refine dss_cut (fun ρ S => ∃ x y, ρ = [.d (frsD row), .d (.int (mTimes row)), x, y] ∧ S = []) (ds_for (T := .two 2 3) (di_list (de_var 0 rfl)) (pg_two 2 3 sc_made_whole.nd) (fun i ρ S => ρ = [.d (frsD row), .d (.int (mTimes (row.take i))), .un, .un] ∧ S = []) ?_ ?_ ?_ ?_) ?_
  · rintro i ρ S ⟨rfl, rfl⟩; exact Nat.le_refl _
  · exact ⟨_, _, ⟨by walk_at "lel", [], rfl⟩, rfl, rfl⟩
  · rintro i d ρ S hd ⟨rfl, rfl⟩
    rw [List.getElem?_map] at hd
    cases hp' : row[i]? with
    | none => rw [hp'] at hd; cases hd
    | some p =>
      rw [hp'] at hd
      have hd' : frD p = d := Option.some.inj hd
      subst hd'
      have hp := hrow.fb p (List.mem_of_getElem? hp')
      have hpos := hp.pos
      obtain ⟨t1, t2⟩ := hrow.times i
      have e := mTimes_take hp'
      generalize mTimes (row.take i) = t at t1 t2 e
      have g0 := cg_pos (a := t) (b := p.2) (by omega)
      have g1 := cg_abs (t := t) (b := p.2) (by omega)
      have d1 : CDivW t (cg t p.2) := wdiv (b := 1000) g0 (Nat.lt_of_le_of_lt g1 hp.bot) (by decide)
      have d2 : CMulW (t / cg t p.2) p.2 := wmul (a := 2000) (b := 1000) (Nat.lt_of_le_of_lt (Int.natAbs_ediv_le_natAbs t _) t2) hp.bot (by decide)
      refine ⟨_, .two, ?_⟩
      refine dss_cons (ds_set 1 (de_bin (de_bin (de_var 1 rfl) (de_call c_shared_by (hr.mono (by decide)) (da_cons (de_var 1 rfl) (da_cons (de_var 3 rfl) da_nil)) (by walk_at "dats") ⟨t, p.2, by omega, rfl, rfl⟩) (od_div d1)) (de_var 3 rfl) (od_mul d2)) ?_ sc_made_whole.nd)
      refine dss_nil ⟨_, _, ⟨?_, [], rfl⟩, rfl, rfl⟩
      rw [e]
      walk_at "lel"
  · rintro ρ S ⟨rfl, rfl⟩
    refine ⟨.un, .un, ?_, rfl⟩
    rw [List.length_map, List.take_length]
  · rintro ρ S ⟨x, y, rfl, rfl⟩
    obtain ⟨t1, t2⟩ := hrow.times row.length
    rw [List.take_length] at t1 t2
    refine dss_cons (ds_ret (de_lc ((mWhole row).map .int) (fun _ => []) [("top", 2), ("bottom", 3)] (.two 2 3) (di_list (de_var 0 rfl)) sc_made_whole.nd (blkOk_by (N := N_made_whole) (sc := defScope s_made_whole) (by decide +kernel)) (fun _ _ _ _ _ => pg_two 2 3 sc_made_whole.nd)
      ⟨by rw [List.length_map]; omega, by simp [mWhole], by simp [Tg.own], fun _ => Nat.le_refl _, fun i d zz hd hz => ?_⟩) ?_)
    · rw [List.getElem?_map] at hd
      cases hp' : row[i]? with
      | none => rw [hp'] at hd; cases hd
      | some p =>
        rw [hp'] at hd
        have hd' : frD p = d := Option.some.inj hd
        subst hd'
        have hp := hrow.fb p (List.mem_of_getElem? hp')
        have hpos := hp.pos
        have ez : zz = .int (p.1 * (mTimes row / p.2)) := by
          unfold mWhole at hz
          rw [List.getElem?_map, List.getElem?_map, hp'] at hz
          exact (Option.some.inj hz).symm
        subst ez
        refine ⟨_, .two, fun c => fun s0 H0 C cl fp => ?_⟩
        exact de_bin (de_var 2 rfl) (de_bin (de_var 1 rfl) (de_var 3 rfl) (od_div (wdiv (b := 1000) (by omega) hp.bot (by decide)))) (od_mul (wmul (a := 1000) (b := 2000) hp.top (Nat.lt_of_le_of_lt (Int.natAbs_ediv_le_natAbs _ _) t2) (by decide)))
    · rfl
def R_pivot_at (ds : List Dat) (r : Dat) : Prop := ∃ (A : Nat → Nat → Int) (n k : Nat), k < n ∧ n ≤ 1000 ∧ TT A k k k ≠ 0 ∧ ds = [tabD (tabL A n k), .int (k : Nat)] ∧ r = .int (k : Nat)
theorem ok_pivot_at (F : FT K mg "pivot_at" s_pivot_at P_pivot_at) (z : Zb mg) : Cal P w K mg base 1 "pivot_at" (spP K R_pivot_at) := by
  obtain ⟨f, fd, F, gm, hb⟩ := F.ex
  refine cal_of F gm hb sc_pivot_at (by decide) (fun ds r ⟨_, _, _, _, _, _, h, _⟩ => by rw [h]; rfl) fun cdv B outer s H E hr c ds r hR => ?_
  obtain ⟨A, n, k, hk, hn, ht, rfl, rfl⟩ := hR
  have l1 : lenD (tabD (tabL A n k)) = some n := by simp [lenD, tabD, tabL_len]
  refine dss_cons (ds_for (T := .one 2) (di_range2 z.range (de_var 1 rfl) (de_len z.len (da_cons (de_var 0 rfl) da_nil) l1) (by omega)) (pg_one 2 sc_pivot_at.nd) (fun i ρ S => i = 0 ∧ ρ = [.d (tabD (tabL A n k)), .d (.int (k : Nat)), .un] ∧ S = []) ?_ ?_ ?_ ?_)
  · rintro i ρ S ⟨_, rfl, rfl⟩; exact Nat.le_refl _
  · exact ⟨_, _, ⟨by walk_at "lel", [], rfl⟩, rfl, rfl, rfl⟩
  · rintro i d ρ S hd ⟨rfl, rfl, rfl⟩
    obtain ⟨hi, ed⟩ := of_nums hd
    subst ed
    have e0 : ((k : Nat) : Int) + ((0 : Nat) : Int) = ((k : Nat) : Int) := by omega
    rw [e0]
    refine ⟨_, .one, ?_⟩
    refine dss_cons (ds_if (dt_cmp (de_ix (de_ix (de_var 0 rfl) (de_var 2 rfl) (ix_l (d := rowD ((List.range (n + 1)).map fun j => TT A k k j)) (atI_at k ?_))) (de_var 1 rfl) (ix_l (d := .int (TT A k k k)) (atI_at k ?_))) de_int od_ne) (fun hk => ?_) fun hk => ?_)
    · rw [List.getElem?_map, tabL_get hk]; rfl
    · rw [List.getElem?_map, row_get (by omega)]; rfl
    · refine dss_cons (ds_ret (de_var 2 rfl) rfl)
    · rw [decide_eq_false ht] at hk
      exact tf hk
  · rintro ρ S ⟨h0, _⟩
    rw [nums_len] at h0
    omega
theorem div_of_mul {d x y : Int} (hd : 0 < d) (h : d * x = y) : y / d = x := by
  rw [← h]
  exact Int.mul_ediv_cancel_left x (by omega)
theorem Small.bitsD {A : Nat → Nat → Int} {n B b k : Nat} (h : Small A n B b) (hk : k ≤ n) : (Tw.dd A k).natAbs < 2 ^ b := by
  have := h.dd hk
  omega
def R_cleared (ds : List Dat) (zs : List Dat) : Prop := ∃ (A : Nat → Nat → Int) (n B b k : Nat), Dom A n ∧ Small A n B b ∧ b ≤ 4000 ∧ n ≤ 100 ∧ k < n ∧ ds = [tabD (tabL A n k), .int (k : Nat), .int (dd A k)] ∧ zs = (tabL A n (k + 1)).map rowD
theorem ok_cleared (F : FT K mg "cleared" s_cleared P_cleared) (z : Zb mg) : Cal P w K mg base 1 "cleared" (spL K R_cleared) := by
  obtain ⟨f, fd, F, gm, hb⟩ := F.ex
  refine cal_ofL F gm hb sc_cleared (by decide) (fun ds r ⟨_, _, _, _, _, _, _, _, _, _, h, _⟩ => by rw [h]; rfl) fun cdv AA outer s H E hr c ds r hR => ?_
  obtain ⟨A, n, B, b, k, hD, hS, hb4, hn, hk, rfl, rfl⟩ := hR
  have sg := hD.sgn k (by omega)
  have hdk := sg.d
  have hd0 : dd A k ≠ 0 := by omega
  generalize hrow : (List.range (n + 1)).map (fun j => TT A k k j) = prow
  have gp : (tabL A n k)[k]? = some prow := by rw [← hrow]; exact tabL_get hk
  refine dss_cons (ds_set 3 (de_ix (de_var 0 rfl) (de_var 1 rfl) (ix_l (d := rowD prow) (atI_at k (by rw [List.getElem?_map, gp]; rfl)))) ?_ sc_cleared.nd)
  refine dss_cons (ds_set 4 (de_lstO da_nil (by walk_at "dats") (by walk_at "le")) ?_ sc_cleared.nd)
  refine dss_cut (fun ρ S => ∃ x y z w v u, ρ = [x, y, z, u, .o 0, v, w, .un, .un] ∧ S = [.l ((tabL A n (k + 1)).map rowD)]) (ds_for (T := .two 5 6) (di_enum z.enumerate (de_var 0 rfl)) (pg_two 5 6 sc_cleared.nd) (fun i ρ S => ρ = [.d (tabD (tabL A n k)), .d (.int (k : Nat)), .d (.int (dd A k)), .d (rowD prow), .o 0, .un, .un, .un, .un] ∧ S = [.l (((tabL A n (k + 1)).take i).map rowD)]) ?_ ?_ ?_ ?_) ?_
  · rintro i ρ S ⟨rfl, rfl⟩; exact Nat.le_refl _
  · exact ⟨_, _, ⟨by walk_at "lel", [], rfl⟩, rfl, rfl⟩
  · rintro i d ρ S hd2 ⟨rfl, rfl⟩
    obtain ⟨d', hd3, rfl⟩ := of_numd hd2
    rw [List.getElem?_map] at hd3
    have hi : i < n := by
      have := (List.getElem?_eq_some_iff.mp hd2).1
      rw [numd_len, List.length_map, tabL_len] at this
      exact this
    rw [tabL_get hi] at hd3
    have ed : rowD ((List.range (n + 1)).map fun j => TT A k i j) = d' := Option.some.inj hd3
    subst ed
    have step : (tabL A n (k + 1)).take (i + 1) = (tabL A n (k + 1)).take i ++ [(List.range (n + 1)).map fun j => TT A (k + 1) i j] := by
      rw [List.take_add_one, tabL_get hi]
      rfl
    have hlen : (((tabL A n (k + 1)).take i).map rowD).length < 100000 := by
      rw [List.length_map, List.length_take, tabL_len]
      omega
    refine ⟨_, .two, ?_⟩
    refine dss_cons (ds_if (dt_cmp (de_var 5 rfl) (de_var 1 rfl) od_eq) (fun hk2 => ?_) fun hk2 => ?_)
    · have eik : i = k := by have := of_decide_eq_true hk2; omega
      subst eik
      refine dss_cons (ds_expr (de_append (de_var 4 rfl) (de_var 3 rfl) ⟨_, rfl⟩ rfl hlen) ?_)
      refine dss_nil (dss_nil ⟨_, [.l (((tabL A n (i + 1)).take (i + 1)).map rowD)], ⟨?_, [], ?_⟩, rfl, rfl⟩)
      · walk_at "lel"
      · rw [step, List.map_append]
        have er : prow = (List.range (n + 1)).map fun j => TT A (i + 1) i j := by
          rw [← hrow]
          apply List.map_congr_left
          intro j _
          exact (TT_row hd0 j).symm
        rw [er]
        rfl
    · have hik : i ≠ k := fun e => by
        subst e
        simp at hk2
      refine dss_cons (ds_expr (de_append (de_var 4 rfl) (de_lc (((List.range (n + 1)).map fun j => TT A (k + 1) i j).map .int) (fun _ => [Ct.l (((tabL A n (k + 1)).take i).map rowD)]) [("a", 7), ("b", 8)] (.two 7 8) (di_zip z.zip (de_var 6 rfl) (de_var 3 rfl)) sc_cleared.nd (blkOk_by (N := N_cleared) (sc := defScope s_cleared) (by decide +kernel)) (fun _ _ _ _ _ => pg_two 7 8 sc_cleared.nd)
        ⟨?_, ?_, by simp [Tg.own], fun _ => Nat.le_refl _, fun j d zz hd hz => ?_⟩) ⟨_, rfl⟩ rfl hlen) ?_)
      · rw [pairs_len]; simp; omega
      · rw [pairs_len]; simp [← hrow]
      · obtain ⟨x, y, hx, hy, rfl⟩ := of_pairs hd
        have hj : j ≤ n := by
          have := (List.getElem?_eq_some_iff.mp hz).1
          simp at this
          omega
        rw [← hrow, List.getElem?_map, row_get hj] at hy
        rw [List.getElem?_map, row_get hj] at hx hz
        have ex : Dat.int (TT A k i j) = x := Option.some.inj hx
        have ey : Dat.int (TT A k k j) = y := Option.some.inj hy
        have ez : Dat.int (TT A (k + 1) i j) = zz := Option.some.inj hz
        subst ex ey
        rw [← ez, ← div_of_mul hdk (TT_step hd0 hik j)]
        refine ⟨_, .two, fun c => fun s0 H0 C cl fp => ?_⟩
        have m1 : CMulW (TT A k k k) (TT A k i j) := wmul (hS.tt (by omega) hk (by omega)) (hS.tt (by omega) hi hj) (by omega)
        have m2 : CMulW (TT A k i k) (TT A k k j) := wmul (hS.tt (by omega) hi (by omega)) (hS.tt (by omega) hk hj) (by omega)
        refine de_bin (de_bin (de_bin (de_ix (de_var 3 rfl) (de_var 1 rfl) (ix_l (d := .int (TT A k k k)) (atI_at k ?_))) (de_var 7 rfl) (od_mul m1)) (de_bin (de_ix (de_var 6 rfl) (de_var 1 rfl) (ix_l (d := .int (TT A k i k)) (atI_at k ?_))) (de_var 8 rfl) (od_mul m2)) od_sub) (de_var 2 rfl) (od_div (wdiv hdk (hS.bitsD (by omega)) (by omega)))
        · rw [← hrow, List.getElem?_map, row_get (by omega)]; rfl
        · rw [List.getElem?_map, row_get (by omega)]; rfl
      · refine dss_nil (dss_nil ⟨_, [.l (((tabL A n (k + 1)).take (i + 1)).map rowD)], ⟨?_, [], ?_⟩, rfl, rfl⟩)
        · walk_at "lel"
        · rw [step, List.map_append]
          rfl
  · rintro ρ S ⟨rfl, rfl⟩
    refine ⟨_, _, _, .un, .un, _, rfl, ?_⟩
    rw [numd_len, List.length_map, tabL_len, List.take_of_length_le (by rw [tabL_len]; exact Nat.le_refl _)]
  · rintro ρ S ⟨x, y, z, w, v, u, rfl, rfl⟩
    exact dss_cons (ds_ret (de_var 4 rfl) ⟨0, rfl, rfl⟩)
end
end Tw
end
section
set_option Elab.async false
set_option linter.all false
set_option maxRecDepth 100000
set_option maxHeartbeats 1000000
namespace Tw
open PySem PySem.Spec PyProof.Rows L2
open Evl (Ex)
def gn (m : Nat) (t : Ct) : List Ct := List.replicate m Ct.gone ++ [t]
theorem gn_len {m : Nat} {t : Ct} : (gn m t).length = m + 1 := by unfold gn; rw [List.length_append, List.length_replicate]; rfl
theorem gn_get {m : Nat} {t : Ct} : (gn m t)[m]? = some t := by
  unfold gn
  rw [List.getElem?_append_right (by rw [List.length_replicate]; exact Nat.le_refl _), List.length_replicate, Nat.sub_self]
  rfl
theorem gn_set {m : Nat} {t u : Ct} : (gn m t).set m u = gn m u := by
  unfold gn
  rw [List.set_append_right _ _ (by rw [List.length_replicate]; exact Nat.le_refl _), List.length_replicate, Nat.sub_self]
  rfl
theorem gn_gone {m : Nat} {t u : Ct} : (gn m t).set m .gone ++ [u] = gn (m + 1) u := by
  rw [gn_set]
  unfold gn
  rw [List.replicate_succ', List.append_assoc]
theorem atI_neg1 {f : Nat → Dat} {n : Nat} : L2.atI ((List.range (n + 1)).map f) (-1) = some (f n) := by
  rw [List.range_succ, List.map_append]
  exact atI_last _ _
theorem ixN_nat {n j : Nat} (h : j < n) : ixN n (j : Int) = some j := by
  unfold ixN
  rw [if_pos (by omega), if_pos (by omega)]
  simp
section
variable {P : Program} {w : World} {K : PySem.W.Frag} {mg : Str → Option Value} {base : Heap}
structure GoodSys (rows : List (List Fr)) (sums : List Fr) (n B b : Nat) : Prop where
  len : rows.length = n
  len2 : sums.length = n
  few : n ≤ 100
  dom : Dom (sysA rows sums) n
  small : Small (sysA rows sums) n B b
  bits : b ≤ 4000
  row : ∀ (i : Nat) (r : List Fr) (s : Fr), rows[i]? = some r → sums[i]? = some s → r.length = n ∧ RowB (r ++ [s])
def rowsD (rows : List (List Fr)) : Dat := .lst (rows.map frsD)
def R_solved (ds : List Dat) (r : Dat) : Prop := ∃ (rows : List (List Fr)) (sums : List Fr) (n B b : Nat), GoodSys rows sums n B b ∧ ds = [rowsD rows, frsD sums] ∧ r = frsD (solve (sysA rows sums) n)
theorem tabL_set {A : Nat → Nat → Int} {n k : Nat} (hk : k < n) : (((tabL A n k).map rowD).set k (rowD ((List.range (n + 1)).map fun j => TT A k k j))) = (tabL A n k).map rowD := by
  apply List.ext_getElem?
  intro i
  by_cases e : k = i
  · subst e
    rw [List.getElem?_set_self (by rw [List.length_map, tabL_len]; exact hk), List.getElem?_map, tabL_get hk]
    rfl
  · rw [List.getElem?_set_ne e]
theorem ok_solved_rows (F : FT K mg "solved_rows" s_solved_rows P_solved_rows) (z : Zb mg) (c_made_whole : Cal P w K mg base 2 "made_whole" (spP K R_made_whole)) (c_pivot_at : Cal P w K mg base 1 "pivot_at" (spP K R_pivot_at)) (c_cleared : Cal P w K mg base 1 "cleared" (spL K R_cleared)) (c_fraction_of : Cal P w K mg base 2 "fraction_of" (spP K R_nf)) : Cal P w K mg base 3 "solved_rows" (spP K R_solved) := by
  obtain ⟨f, fd, F, gm, hb⟩ := F.ex
  refine cal_of F gm hb sc_solved_rows (by decide) (fun ds r ⟨_, _, _, _, _, _, h, _⟩ => by rw [h]; rfl) fun cdv AA outer s H E hr c ds r hR => ?_
  obtain ⟨rows, sums, n, B, b, G, rfl, rfl⟩ := hR
  have few := G.few
  generalize hA : sysA rows sums = A
  have gD : Dom A n := hA ▸ G.dom
  have gS : Small A n B b := hA ▸ G.small
  have gb := G.bits
  refine dss_cons (ds_setLcO 2 ((tabL A n 0).map rowD) (fun _ => []) [("row", 6), ("total", 7)] (.two 6 7) (sw_true rfl rfl rfl (by decide +kernel)) (di_zip z.zip (de_var 0 rfl) (de_var 1 rfl)) sc_solved_rows.nd (blkOk_by (N := N_solved_rows) (sc := defScope s_solved_rows) (by decide +kernel)) (fun _ _ _ _ _ => pg_two 6 7 sc_solved_rows.nd)
    ⟨by rw [pairs_len, List.length_map, List.length_map, G.len]; omega, by rw [pairs_len, List.length_map, List.length_map, List.length_map, tabL_len, G.len, G.len2]; omega, by simp [Tg.own], fun _ => Nat.le_refl _, fun i d zz hd hz => ?_⟩ ?_)
  · obtain ⟨x, y, hx, hy, rfl⟩ := of_pairs hd
    have hi : i < n := by
      have := (List.getElem?_eq_some_iff.mp hz).1
      rw [List.length_map, tabL_len] at this
      exact this
    have hx1 := List.getElem?_eq_getElem (show i < rows.length by rw [G.len]; exact hi)
    have hy1 := List.getElem?_eq_getElem (show i < sums.length by rw [G.len2]; exact hi)
    generalize rows[i]'(by rw [G.len]; exact hi) = row at hx1
    generalize sums[i]'(by rw [G.len2]; exact hi) = sm at hy1
    rw [List.getElem?_map, hx1] at hx
    rw [List.getElem?_map, hy1] at hy
    have ex : frsD row = x := Option.some.inj hx
    have ey : frD sm = y := Option.some.inj hy
    subst ex ey
    obtain ⟨r1, r2⟩ := G.row i row sm hx1 hy1
    have e := mWhole_eq hx1 hy1 r1
    rw [List.getElem?_map, tabL_get hi] at hz
    have ez : rowD (mWhole (row ++ [sm])) = zz := by
      rw [← Option.some.inj hz, e, hA]
      congr 1
      apply List.map_congr_left
      intro j _
      exact (TT_zero A i j).symm
    subst ez
    refine ⟨_, .two, fun c => fun s0 H0 C cl fp => ?_⟩
    exact de_call c_made_whole (hr.mono (by decide)) (da_cons (de_bin (de_listOf z.list (da_cons (de_var 6 rfl) da_nil)) (de_lst (da_cons (de_var 7 rfl) da_nil) (by walk_at "dats") (by walk_at "le")) (od_catL (by rw [List.length_map, r1]; simp; omega))) da_nil) (by walk_at "dats") ⟨row ++ [sm], r2, by rw [List.length_append, r1]; simp; omega, by unfold frsD; rw [List.map_append]; rfl, rfl⟩
  refine dss_cons (ds_set 3 de_int ?_ sc_solved_rows.nd)
  refine dss_cut (fun ρ S => ∃ x y u v m, ρ = [u, v, .o m, .d (.int (dd A n)), x, y, .un, .un] ∧ S = gn m (.l ((tabL A n n).map rowD))) (ds_for (T := .one 4) (di_range1 z.range (de_lenO z.len (da_cons (de_var 2 rfl) da_nil) rfl) (by rw [List.length_map, tabL_len]; omega) (by omega)) (pg_one 4 sc_solved_rows.nd) (fun i ρ S => ∃ m, ρ = [.d (rowsD rows), .d (frsD sums), .o m, .d (.int (dd A i)), .un, .un, .un, .un] ∧ S = gn m (.l ((tabL A n i).map rowD))) ?_ ?_ ?_ ?_) ?_
  · rintro i ρ S ⟨m, rfl, rfl⟩; rw [gn_len]; exact Nat.le_add_left 1 m
  · exact ⟨_, _, ⟨by walk_at "lel", [], rfl⟩, 0, rfl, rfl⟩
  · rintro k d ρ S hd ⟨m, rfl, rfl⟩
    obtain ⟨hk, ed⟩ := of_nums hd
    have hk : k < n := by rw [List.length_map, tabL_len] at hk; omega
    have e0 : (0 : Int) + ((k : Nat) : Int) = ((k : Nat) : Int) := by omega
    rw [e0] at ed
    subst ed
    have sg := gD.sgn k (by omega)
    have hp := sg.pivot hk
    have lk : ((tabL A n k).map rowD).length = n := by rw [List.length_map, tabL_len]
    have gk : ((tabL A n k).map rowD)[k]? = some (rowD ((List.range (n + 1)).map fun j => TT A k k j)) := by rw [List.getElem?_map, tabL_get hk]; rfl
    have gk2 : ((tabL A n (k + 1)).map rowD)[k]? = some (rowD ((List.range (n + 1)).map fun j => TT A (k + 1) k j)) := by rw [List.getElem?_map, tabL_get hk]; rfl
    refine ⟨_, .one, ?_⟩
    refine dss_cons (ds_set 5 (de_callI c_pivot_at (hr.mono (by decide)) (da_cons (de_var 2 rfl) (da_cons (de_var 4 rfl) da_nil)) (by walk_at "dats") gn_get ⟨A, n, k, hk, by omega, by omega, rfl, rfl⟩ rfl) ?_ sc_solved_rows.nd)
    refine dss_cons (ds_if (dt_cmp (de_var 5 rfl) de_non od_isNi) (fun hk2 => ff hk2) fun hk2 => ?_)
    refine dss_nil ?_
    have gs : (gn m (.l ((tabL A n k).map rowD))).set m (.l (((tabL A n k).map rowD).set k (rowD ((List.range (n + 1)).map fun j => TT A k k j)))) = gn m (.l ((tabL A n k).map rowD)) := by rw [gn_set, tabL_set hk]
    refine dss_cons (ds_set2 (k := m) (j1 := k) (j2 := k) (de_tup (da_cons (de_ix (de_var 2 rfl) (de_var 5 rfl) (ix_o gn_get (atI_at k gk))) (da_cons (de_ix (de_var 2 rfl) (de_var 4 rfl) (ix_o gn_get (atI_at k gk))) da_nil)) (by walk_at "dats") (by walk_at "le")) gn_get (de_var 2 rfl) (de_var 4 rfl) (by rw [lk]; exact ixN_nat hk) (by rw [gs]; exact de_var 2 rfl) (by rw [gs]; exact de_var 5 rfl) (by rw [lk]; exact ixN_nat hk) ?_)
    rw [tabL_set hk, gs]
    have ge : (gn m (.l ((tabL A n k).map rowD))).set m .gone ++ [.l ((tabL A n (k + 1)).map rowD)] = gn (m + 1) (.l ((tabL A n (k + 1)).map rowD)) := gn_gone
    have gl : ((gn m (.l ((tabL A n k).map rowD))).set m .gone).length = m + 1 := by rw [List.length_set, gn_len]
    refine dss_cons (ds_set 2 (de_callL (zs := (tabL A n (k + 1)).map rowD) c_cleared (hr.mono (by decide)) (da_cons (de_dat (de_var 2 rfl) gn_get rfl) (da_cons (de_var 4 rfl) (da_cons (de_var 3 rfl) da_nil))) (by walk_at "dats") ⟨A, n, B, b, k, gD, gS, gb, few, hk, rfl, rfl⟩) ?_ sc_solved_rows.nd)
    rw [ge, gl]
    refine dss_cons (ds_set 3 (de_ix (de_ix (de_var 2 rfl) (de_var 4 rfl) (ix_o (k := m + 1) gn_get (atI_at k gk2))) (de_var 4 rfl) (ix_l (d := .int (dd A (k + 1))) (atI_at k ?_))) ?_ sc_solved_rows.nd)
    · rw [List.getElem?_map, row_get (by omega), TT_row (by have := sg.d; omega), dd_succ]
      rfl
    · refine dss_nil ⟨[.d (rowsD rows), .d (frsD sums), .o (m + 1), .d (.int (dd A (k + 1))), .un, .un, .un, .un], gn (m + 1) (.l ((tabL A n (k + 1)).map rowD)), ⟨⟨.inl ⟨rfl, trivial⟩, .inl ⟨rfl, trivial⟩, .inl ⟨rfl, ?_⟩, .inl ⟨rfl, trivial⟩, .inr rfl, .inr rfl, .inl ⟨rfl, trivial⟩, .inl ⟨rfl, trivial⟩, trivial⟩, [], (List.append_nil _).symm⟩, m + 1, rfl, rfl⟩
      show m + 1 < _
      rw [gn_len]
      exact Nat.lt_succ_self _
  · rintro ρ S ⟨m, rfl, rfl⟩
    refine ⟨.un, .un, .d (rowsD rows), .d (frsD sums), m, ?_, ?_⟩
    · rw [nums_len, List.length_map, tabL_len]; rfl
    · rw [nums_len, List.length_map, tabL_len]; rfl
  · rintro ρ S ⟨x, y, u, v, m, rfl, rfl⟩
    have sg := gD.sgn n (Nat.le_refl _)
    refine dss_cons (ds_ret (de_lc ((solve A n).map frD) (fun _ => (gn m (.l ((tabL A n n).map rowD))).set m .gone) [("row", 6)] (.one 6) (di_list (de_dat (de_var 2 rfl) gn_get rfl)) sc_solved_rows.nd (blkOk_by (N := N_solved_rows) (sc := defScope s_solved_rows) (by decide +kernel)) (fun _ _ _ _ _ => pg_one 6 sc_solved_rows.nd)
      ⟨by rw [List.length_map, tabL_len]; omega, by rw [List.length_map, List.length_map, tabL_len]; unfold solve; simp, by simp [Tg.own], fun _ => Nat.le_refl _, fun i d zz hd hz => ?_⟩) ?_)
    · have hi : i < n := by
        have := (List.getElem?_eq_some_iff.mp hd).1
        rw [List.length_map, tabL_len] at this
        exact this
      rw [List.getElem?_map, tabL_get hi] at hd
      have ed : rowD ((List.range (n + 1)).map fun j => TT A n i j) = d := Option.some.inj hd
      subst ed
      have ez : frD (nf (TT A n i n) (dd A n)) = zz := by
        unfold solve at hz
        rw [List.getElem?_map, List.getElem?_map, List.getElem?_range hi] at hz
        exact Option.some.inj hz
      subst ez
      refine ⟨_, .one, fun c => fun s0 H0 C cl fp => ?_⟩
      exact de_call c_fraction_of (hr.mono (by decide)) (da_cons (de_ix (de_var 6 rfl) (de_neg de_int) (ix_l (d := .int (TT A n i n)) (by rw [List.map_map]; exact atI_neg1))) (da_cons (de_var 3 rfl) da_nil)) (by walk_at "dats") ⟨TT A n i n, dd A n, sg.d, Nat.lt_of_lt_of_le (gS.bitsD (Nat.le_refl _)) (pow_mono (a := b) (b := 9000) (by omega)), rfl, rfl⟩
    · rw [← hA]; rfl
end
end Tw
end
section
/-! TwRows: the rows of equations: their sums, signs, sizes; plain Lean. -/
set_option autoImplicit false
set_option linter.all false
namespace Tw
def val (p : Fr) : Rat := (p.1 : Rat) / (p.2 : Rat)
theorem ratpos {b : Int} (h : 0 < b) : (0 : Rat) < (b : Rat) := by exact_mod_cast h
theorem val_nf {t b : Int} (hb : 0 < b) : val (nf t b) = (t : Rat) / (b : Rat) := by
  obtain ⟨g, u, v, h1, h2, h3, h4, h5, h6, h7⟩ := cg_ex t b hb
  rw [h6, h3, h4]
  unfold val
  have e1 : ((g * u : Int) : Rat) = (g : Rat) * (u : Rat) := by push_cast; rfl
  have e2 : ((g * v : Int) : Rat) = (g : Rat) * (v : Rat) := by push_cast; rfl
  rw [e1, e2]
  have p1 := ratpos h1
  have p2 := ratpos h5
  show (u : Rat) / (v : Rat) = _
  grind
theorem val_add {p q : Fr} (hp : 1 ≤ p.2) (hq : 1 ≤ q.2) : val (fAdd p q) = val p + val q := by
  unfold fAdd
  rw [val_nf (mul_pos' hp hq)]
  unfold val
  have p1 := ratpos (show 0 < p.2 by omega)
  have p2 := ratpos (show 0 < q.2 by omega)
  push_cast
  grind
theorem val_sub {p q : Fr} (hp : 1 ≤ p.2) (hq : 1 ≤ q.2) : val (fSub p q) = val p - val q := by
  unfold fSub
  rw [val_nf (mul_pos' hp hq)]
  unfold val
  have p1 := ratpos (show 0 < p.2 by omega)
  have p2 := ratpos (show 0 < q.2 by omega)
  push_cast
  grind
theorem val_mul {p q : Fr} (hp : 1 ≤ p.2) (hq : 1 ≤ q.2) : val (fMul p q) = val p * val q := by
  unfold fMul
  rw [val_nf (mul_pos' hp hq)]
  unfold val
  have p1 := ratpos (show 0 < p.2 by omega)
  have p2 := ratpos (show 0 < q.2 by omega)
  push_cast
  grind
theorem val_zero : val (0, 1) = 0 := by unfold val; grind
theorem val_one : val (1, 1) = 1 := by unfold val; grind
theorem val_neg1 : val (-1, 1) = -1 := by unfold val; grind
def vs : List Fr → Rat
  | [] => 0
  | p :: r => val p + vs r
theorem vs_set : ∀ {r : List Fr} {b : Nat} {x y : Fr}, r[b]? = some x → vs (r.set b y) = vs r - val x + val y
  | p :: r, 0, x, y, h => by
    simp at h
    subst h
    simp only [List.set_cons_zero, vs]
    grind
  | p :: r, b + 1, x, y, h => by
    have := vs_set (r := r) (b := b) (x := x) (y := y) (by simpa using h)
    simp only [List.set_cons_succ, vs]
    rw [this]
    grind
  | [], _, _, _, h => by simp at h
theorem vs_zero : ∀ n, vs (List.replicate n (0, 1)) = 0
  | 0 => rfl
  | n + 1 => by
    rw [List.replicate_succ, vs, vs_zero n, val_zero]
    grind
theorem pBot_cons (p : Fr) (r : List Fr) : pBot (p :: r) = p.2.natAbs * pBot r := by
  rw [show p :: r = [p] ++ r from rfl, pBot_mul]
  simp [pBot]
theorem pBot_set : ∀ {r : List Fr} {b : Nat} {x y : Fr}, r[b]? = some x → pBot (r.set b y) * x.2.natAbs = pBot r * y.2.natAbs
  | p :: r, 0, x, y, h => by
    simp at h
    subst h
    rw [List.set_cons_zero, pBot_cons, pBot_cons]
    grind
  | p :: r, b + 1, x, y, h => by
    have := pBot_set (r := r) (b := b) (x := x) (y := y) (by simpa using h)
    rw [List.set_cons_succ, pBot_cons, pBot_cons]
    grind
  | [], _, _, _, h => by simp at h
theorem pBot_zero : ∀ n, pBot (List.replicate n (0, 1)) = 1
  | 0 => rfl
  | n + 1 => by
    rw [List.replicate_succ, pBot_cons, pBot_zero n]
    rfl
/-! ### a row -/
def putRow (ps : List (Nat × Fr)) (r : List Fr) : List Fr := ps.foldl (fun r p => r.set p.1 (fSub (0, 1) p.2)) r
def rowOf (n : Nat) (ps : List (Nat × Fr)) (i : Nat) : List Fr := (putRow ps (List.replicate n (0, 1))).set i (fSub ((putRow ps (List.replicate n (0, 1)))[i]?.getD (0, 1)) (-1, 1))
def sumV : List (Nat × Fr) → Rat
  | [] => 0
  | p :: ps => val p.2 + sumV ps
structure Ps (n : Nat) (ps : List (Nat × Fr)) : Prop where
  nd : (ps.map (·.1)).Nodup
  lt : ∀ p ∈ ps, p.1 < n
  few : ps.length ≤ 5
  fb : ∀ p ∈ ps, Fb 9 p.2
  pos : ∀ p ∈ ps, 0 ≤ val p.2
  le1 : ∀ p ∈ ps, val p.2 ≤ 1
  sum : sumV ps < 1
/-- a row under way: k have been put -/
structure RowAt (n : Nat) (r : List Fr) (V : Rat) (k : Nat) (free : Nat → Prop) : Prop where
  len : r.length = n
  sum : vs r = -V
  bot : pBot r ≤ 2 ^ (9 * k)
  ent : ∀ p ∈ r, Fb 11 p ∧ val p ≤ 0 ∧ -1 ≤ val p
  free : ∀ j, j < n → free j → r[j]? = some (0, 1)
theorem fb_zero : Fb 11 ((0, 1) : Fr) := ⟨by decide, by decide, by decide⟩
theorem RowAt.zero (n : Nat) : RowAt n (List.replicate n (0, 1)) 0 0 (fun _ => True) := by
  refine ⟨List.length_replicate, by rw [vs_zero]; grind, by rw [pBot_zero]; exact Nat.le_refl _, fun p hp => ?_, fun j hj _ => by rw [List.getElem?_replicate, if_pos hj]⟩
  have := List.eq_of_mem_replicate hp
  subst this
  exact ⟨fb_zero, by rw [val_zero]; grind, by rw [val_zero]; grind⟩
theorem fSub0_bot {v : Fr} (hv : 1 ≤ v.2) : (fSub (0, 1) v).2.natAbs ≤ v.2.natAbs := by
  unfold fSub
  have := nf_bot (t := (0 : Int) * v.2 - v.1 * 1) (b := 1 * v.2) (by omega)
  simpa using this
theorem RowAt.put {n : Nat} {r : List Fr} {V : Rat} {k b : Nat} {v : Fr} {free : Nat → Prop} (h : RowAt n r V k free) (hb : b < n) (hf : free b) (fv : Fb 9 v) (h0 : 0 ≤ val v) (h1 : val v ≤ 1) : RowAt n (r.set b (fSub (0, 1) v)) (V + val v) (k + 1) (fun j => free j ∧ j ≠ b) := by
  have e := h.free b hb hf
  have ev : val (fSub (0, 1) v) = 0 - val v := by rw [val_sub (by decide) fv.pos, val_zero]
  refine ⟨by rw [List.length_set]; exact h.len, ?_, ?_, fun p hp => ?_, fun j hj ⟨f1, f2⟩ => ?_⟩
  · rw [vs_set e, h.sum, val_zero, ev]
    grind
  · have e2 := pBot_set (y := fSub (0, 1) v) e
    have e3 := fSub0_bot fv.pos
    have e4 := fv.bot
    have e5 : ((0, 1) : Fr).2.natAbs = 1 := rfl
    rw [e5, Nat.mul_one] at e2
    rw [e2, show 9 * (k + 1) = 9 * k + 9 by omega, Nat.pow_add]
    exact Nat.mul_le_mul h.bot (by omega)
  · rcases List.mem_or_eq_of_mem_set hp with hp | hp
    · exact h.ent p hp
    · subst hp
      refine ⟨?_, by rw [ev]; grind, by rw [ev]; grind⟩
      have f0 : Fb 1 ((0, 1) : Fr) := ⟨by decide, by decide, by decide⟩
      exact (Fb.sub f0 fv).mono (by decide)
  · rw [List.getElem?_set_ne (Ne.symm f2)]
    exact h.free j hj f1
theorem putRow_cons (p : Nat × Fr) (ps : List (Nat × Fr)) (r : List Fr) : putRow (p :: ps) r = putRow ps (r.set p.1 (fSub (0, 1) p.2)) := rfl
theorem putRow_at {n : Nat} : ∀ {ps : List (Nat × Fr)} {r : List Fr} {V : Rat} {k : Nat} {free : Nat → Prop}, RowAt n r V k free → (ps.map (·.1)).Nodup → (∀ p ∈ ps, p.1 < n ∧ free p.1 ∧ Fb 9 p.2 ∧ 0 ≤ val p.2 ∧ val p.2 ≤ 1) →
    RowAt n (putRow ps r) (V + sumV ps) (k + ps.length) (fun j => free j ∧ j ∉ ps.map (·.1))
  | [], r, V, k, free, h, _, _ => by
    have e : V + sumV [] = V := by simp only [sumV]; grind
    rw [e]
    exact ⟨h.len, h.sum, h.bot, h.ent, fun j hj hf => h.free j hj hf.1⟩
  | p :: ps, r, V, k, free, h, nd, hp => by
    rw [putRow_cons]
    rw [List.map_cons, List.nodup_cons] at nd
    obtain ⟨a1, a2, a3, a4, a5⟩ := hp p List.mem_cons_self
    have h1 := h.put a1 a2 a3 a4 a5
    have h2 := putRow_at (ps := ps) h1 nd.2 fun q hq => by
      obtain ⟨b1, b2, b3⟩ := hp q (List.mem_cons_of_mem _ hq)
      exact ⟨b1, ⟨b2, fun z => nd.1 (by rw [← z]; exact List.mem_map.mpr ⟨q, hq, rfl⟩)⟩, b3⟩
    have e : V + val p.2 + sumV ps = V + sumV (p :: ps) := by simp only [sumV]; grind
    rw [e] at h2
    refine ⟨h2.len, h2.sum, by have := h2.bot; rw [List.length_cons, show k + (ps.length + 1) = k + 1 + ps.length by omega]; exact this, h2.ent, fun j hj hf => h2.free j hj ⟨⟨hf.1, fun z => hf.2 (by rw [z]; simp)⟩, fun z => hf.2 (by rw [List.map_cons]; exact List.mem_cons_of_mem _ z)⟩⟩
structure RowOk (n i : Nat) (row : List Fr) : Prop where
  len : row.length = n
  fb : ∀ p ∈ row, Fb 13 p
  bot : pBot row ≤ 2 ^ 45
  off : ∀ (j : Nat) (p : Fr), row[j]? = some p → j ≠ i → val p ≤ 0
  abs : ∀ p ∈ row, -1 ≤ val p ∧ val p ≤ 1
  sum : 0 < vs row
theorem Ps.at {n : Nat} {ps : List (Nat × Fr)} (h : Ps n ps) : RowAt n (putRow ps (List.replicate n (0, 1))) (sumV ps) ps.length (fun j => j ∉ ps.map (·.1)) := by
  have h1 := putRow_at (RowAt.zero n) h.nd fun p hp => ⟨h.lt p hp, trivial, h.fb p hp, h.pos p hp, h.le1 p hp⟩
  have e : 0 + sumV ps = sumV ps := by grind
  rw [e, Nat.zero_add] at h1
  exact ⟨h1.len, h1.sum, h1.bot, h1.ent, fun j hj hf => h1.free j hj ⟨trivial, hf⟩⟩
theorem fSubN_bot {v : Fr} (hv : 1 ≤ v.2) : (fSub v (-1, 1)).2.natAbs ≤ v.2.natAbs := by
  unfold fSub
  have := nf_bot (t := v.1 * 1 - (-1) * v.2) (b := v.2 * 1) (by omega)
  simpa using this
theorem rowOf_ok {n i : Nat} {ps : List (Nat × Fr)} (h : Ps n ps) (hi : i < n) : RowOk n i (rowOf n ps i) := by
  have hr := h.at
  unfold rowOf
  generalize putRow ps (List.replicate n (0, 1)) = r at hr
  have hi2 : i < r.length := by rw [hr.len]; exact hi
  have e := List.getElem?_eq_getElem hi2
  generalize r[i] = x at e
  rw [e]
  show RowOk n i (r.set i (fSub x (-1, 1)))
  obtain ⟨x1, x2, x3⟩ := hr.ent x (List.mem_of_getElem? e)
  have ev : val (fSub x (-1, 1)) = val x + 1 := by
    rw [val_sub x1.pos (by decide), val_neg1]
    grind
  have fN : Fb 1 ((-1, 1) : Fr) := ⟨by decide, by decide, by decide⟩
  refine ⟨by rw [List.length_set]; exact hr.len, fun p hp => ?_, ?_, fun j p hj ne => ?_, fun p hp => ?_, ?_⟩
  · rcases List.mem_or_eq_of_mem_set hp with hp | hp
    · exact (hr.ent p hp).1.mono (by decide)
    · subst hp
      exact (Fb.sub x1 fN).mono (by decide)
  · have e2 := pBot_set (y := fSub x (-1, 1)) e
    have e3 := fSubN_bot x1.pos
    have e4 : pBot (r.set i (fSub x (-1, 1))) * x.2.natAbs ≤ pBot r * x.2.natAbs := by
      rw [e2]
      exact Nat.mul_le_mul (Nat.le_refl _) e3
    have e5 : 0 < x.2.natAbs := by have := x1.pos; omega
    have e6 := Nat.le_of_mul_le_mul_right e4 e5
    have e7 := hr.bot
    have e8 : 2 ^ (9 * ps.length) ≤ 2 ^ 45 := pow_mono (by have := h.few; omega)
    omega
  · rw [List.getElem?_set_ne (Ne.symm ne)] at hj
    exact (hr.ent p (List.mem_of_getElem? hj)).2.1
  · rcases List.mem_or_eq_of_mem_set hp with hp | hp
    · obtain ⟨_, a, b⟩ := hr.ent p hp
      exact ⟨b, by grind⟩
    · subst hp
      rw [ev]
      exact ⟨by grind, by grind⟩
  · rw [vs_set e, ev, hr.sum]
    have := h.sum
    grind

/-! ### the system -/
theorem whole_val {row : List Fr} {p : Fr} (h : 1 ≤ p.2) (hd : p.2 ∣ mTimes row) : ((p.1 * (mTimes row / p.2) : Int) : Rat) = (mTimes row : Rat) * val p := by
  obtain ⟨k, e⟩ := hd
  rw [e, Int.mul_ediv_cancel_left k (by omega)]
  unfold val
  have := ratpos (show 0 < p.2 by omega)
  push_cast
  grind
structure SysOk (n : Nat) (rows : List (List Fr)) (sums : List Fr) : Prop where
  len : rows.length = n
  len2 : sums.length = n
  row : ∀ (i : Nat) (row : List Fr), rows[i]? = some row → RowOk n i row
  sm : ∀ s ∈ sums, Fb 4 s
section
variable {n : Nat} {rows : List (List Fr)} {sums : List Fr}
theorem SysOk.at (h : SysOk n rows sums) {i : Nat} (hi : i < n) : ∃ row s, rows[i]? = some row ∧ sums[i]? = some s ∧ RowOk n i row ∧ Fb 4 s := by
  have e1 := List.getElem?_eq_getElem (show i < rows.length by rw [h.len]; exact hi)
  have e2 := List.getElem?_eq_getElem (show i < sums.length by rw [h.len2]; exact hi)
  exact ⟨_, _, e1, e2, h.row i _ e1, h.sm _ (List.mem_of_getElem? e2)⟩
theorem row_times {i : Nat} {row : List Fr} {s : Fr} (hr : RowOk n i row) (hs : Fb 4 s) : 1 ≤ mTimes (row ++ [s]) ∧ (mTimes (row ++ [s])).natAbs ≤ 2 ^ 49 ∧ (∀ p ∈ row ++ [s], 1 ≤ p.2 ∧ p.2 ∣ mTimes (row ++ [s])) := by
  have pos : ∀ p ∈ row ++ [s], 1 ≤ p.2 := fun p hp => by
    rcases List.mem_append.mp hp with hp | hp
    · exact (hr.fb p hp).pos
    · rw [List.mem_singleton.mp hp]; exact hs.pos
  obtain ⟨h1, h2, h3⟩ := mTimes_ok _ rfl pos
  refine ⟨h1, ?_, fun p hp => ⟨pos p hp, h3 p hp⟩⟩
  have e : pBot (row ++ [s]) ≤ 2 ^ 45 * 2 ^ 4 := by
    rw [pBot_mul, pBot_cons]
    refine Nat.mul_le_mul hr.bot ?_
    have a := hs.bot
    have e : pBot [] = 1 := rfl
    rw [e, Nat.mul_one]
    omega
  have e2 : (2 : Nat) ^ 45 * 2 ^ 4 = 2 ^ 49 := by decide
  omega
theorem sysA_val (h : SysOk n rows sums) {i j : Nat} {row : List Fr} {s p : Fr} (h1 : rows[i]? = some row) (h2 : sums[i]? = some s) (hi : i < n) (hj : (row ++ [s])[j]? = some p) : ((sysA rows sums i j : Int) : Rat) = (mTimes (row ++ [s]) : Rat) * val p := by
  have hr := h.row i row h1
  have hs := h.sm s (List.mem_of_getElem? h2)
  obtain ⟨t1, t2, t3⟩ := row_times hr hs
  obtain ⟨q1, q2⟩ := t3 p (List.mem_of_getElem? hj)
  rw [← whole_val q1 q2]
  unfold sysA mWhole
  rw [h1, h2]
  show (((List.map _ (row ++ [s]))[j]?.getD 0 : Int) : Rat) = _
  rw [List.getElem?_map, hj]
  rfl
theorem sm_vs {A : Nat → Int} {T : Rat} {row : List Fr} (h : ∀ (j : Nat) (p : Fr), row[j]? = some p → ((A j : Int) : Rat) = T * val p) : ∀ (m k : Nat), k + m = row.length → ((sm A k m : Int) : Rat) = T * vs (row.drop k)
  | 0, k, e => by
    rw [List.drop_of_length_le (by omega)]
    simp only [sm, vs]
    grind
  | m + 1, k, e => by
    have hk : k < row.length := by omega
    rw [List.drop_eq_getElem_cons hk]
    simp only [sm, vs]
    have e1 := h k row[k] (List.getElem?_eq_getElem hk)
    have e2 := sm_vs h m (k + 1) (by omega)
    push_cast
    rw [e1, e2]
    grind
theorem rat_mul_le {a b : Rat} (h1 : 0 ≤ a) (h2 : b ≤ 0) : a * b ≤ 0 := by
  have := Rat.mul_le_mul_of_nonneg_left h2 h1
  grind
theorem SysOk.dom (h : SysOk n rows sums) : Dom (sysA rows sums) n := by
  refine ⟨fun i j hi hj ne => ?_, fun i hi => ?_⟩
  · obtain ⟨row, s, e1, e2, hr, hs⟩ := h.at hi
    obtain ⟨t1, t2, t3⟩ := row_times hr hs
    have hj2 : j < row.length := by rw [hr.len]; exact hj
    have ej := List.getElem?_eq_getElem hj2
    have ej2 : (row ++ [s])[j]? = some row[j] := by rw [List.getElem?_append_left hj2]; exact ej
    have e := sysA_val h e1 e2 hi ej2
    have o := hr.off j _ ej ne
    have tp := ratpos (show 0 < mTimes (row ++ [s]) by omega)
    have := rat_mul_le (Rat.le_of_lt tp) o
    rw [← e] at this
    exact_mod_cast this
  · obtain ⟨row, s, e1, e2, hr, hs⟩ := h.at hi
    obtain ⟨t1, t2, t3⟩ := row_times hr hs
    have tp := ratpos (show 0 < mTimes (row ++ [s]) by omega)
    have e := sm_vs (A := sysA rows sums i) (T := (mTimes (row ++ [s]) : Rat)) (row := row) (fun j p hj => sysA_val h e1 e2 hi (by
      rw [List.getElem?_append_left (List.getElem?_eq_some_iff.mp hj).1]; exact hj)) n 0 (by rw [hr.len]; omega)
    rw [List.drop_zero] at e
    have := Rat.mul_pos tp hr.sum
    rw [← e] at this
    exact_mod_cast this
theorem val_abs {s : Fr} (h : Fb 4 s) : -16 ≤ val s ∧ val s ≤ 16 := by
  have hp := h.pos
  have ht := h.top
  have p1 := ratpos (show 0 < s.2 by omega)
  have b1 : -(16 * s.2) ≤ s.1 := by omega
  have b2 : s.1 ≤ 16 * s.2 := by omega
  have c1 : -(16 * (s.2 : Rat)) ≤ (s.1 : Rat) := by exact_mod_cast b1
  have c2 : (s.1 : Rat) ≤ 16 * (s.2 : Rat) := by exact_mod_cast b2
  have e : (s.1 : Rat) = val s * (s.2 : Rat) := by
    unfold val
    grind
  generalize val s = v at e
  generalize (s.2 : Rat) = b at *
  rw [e] at c1 c2
  constructor
  · rcases Classical.em (-16 ≤ v) with z | z
    · exact z
    · exfalso
      have z' : v + 16 < 0 := by grind
      have := Rat.mul_pos p1 (show 0 < -(v + 16) by grind)
      grind
  · rcases Classical.em (v ≤ 16) with z | z
    · exact z
    · exfalso
      have := Rat.mul_pos p1 (show 0 < v - 16 by grind)
      grind
theorem abs_of_rat {a : Int} {T : Int} {v : Rat} (hT : 0 < T) (e : (a : Rat) = (T : Rat) * v) (h1 : -16 ≤ v) (h2 : v ≤ 16) : a.natAbs ≤ 16 * T.natAbs := by
  have tp := ratpos hT
  have l1 := Rat.mul_le_mul_of_nonneg_left h2 (Rat.le_of_lt tp)
  have l2 := Rat.mul_le_mul_of_nonneg_left h1 (Rat.le_of_lt tp)
  rw [← e] at l1 l2
  have m1 : (a : Rat) ≤ ((16 * T : Int) : Rat) := by push_cast; grind
  have m2 : ((-(16 * T) : Int) : Rat) ≤ (a : Rat) := by push_cast; grind
  have n1 : a ≤ 16 * T := by exact_mod_cast m1
  have n2 : -(16 * T) ≤ a := by exact_mod_cast m2
  omega
theorem SysOk.abs (h : SysOk n rows sums) (i j : Nat) (hi : i < n) (hj : j ≤ n) : (sysA rows sums i j).natAbs ≤ 2 ^ 53 := by
  obtain ⟨row, s, e1, e2, hr, hs⟩ := h.at hi
  obtain ⟨t1, t2, t3⟩ := row_times hr hs
  have hl : (row ++ [s]).length = n + 1 := by rw [List.length_append, hr.len]; rfl
  have ej := List.getElem?_eq_getElem (show j < (row ++ [s]).length by omega)
  have e := sysA_val h e1 e2 hi ej
  have hm : -16 ≤ val (row ++ [s])[j] ∧ val (row ++ [s])[j] ≤ 16 := by
    have m := List.mem_of_getElem? ej
    generalize (row ++ [s])[j] = p at m
    rcases List.mem_append.mp m with m | m
    · obtain ⟨a, b⟩ := hr.abs p m
      exact ⟨by grind, by grind⟩
    · rw [List.mem_singleton.mp m]
      exact val_abs hs
  have := abs_of_rat (show 0 < mTimes (row ++ [s]) by omega) e hm.1 hm.2
  have e3 : (16 : Nat) * 2 ^ 49 = 2 ^ 53 := by decide
  omega
/-- sums above 0 -/
theorem SysOk.rhs (h : SysOk n rows sums) (hp : ∀ s ∈ sums, 0 < val s) (i : Nat) (hi : i < n) : 0 < sysA rows sums i n := by
  obtain ⟨row, s, e1, e2, hr, hs⟩ := h.at hi
  obtain ⟨t1, t2, t3⟩ := row_times hr hs
  have ej : (row ++ [s])[n]? = some s := by rw [List.getElem?_append_right (by rw [hr.len]; exact Nat.le_refl _), hr.len, Nat.sub_self]; rfl
  have e := sysA_val h e1 e2 hi ej
  have tp := ratpos (show 0 < mTimes (row ++ [s]) by omega)
  have := Rat.mul_pos tp (hp s (List.mem_of_getElem? e2))
  rw [← e] at this
  exact_mod_cast this
theorem SysOk.small (h : SysOk n rows sums) (hn : n ≤ 18) : Small (sysA rows sums) n (2 ^ 53) 1110 := by
  refine ⟨by decide, h.abs, ?_⟩
  have h1 : (n + 1) * 2 ^ 53 ≤ 2 ^ 58 := by
    have e : (2 : Nat) ^ 58 = 32 * 2 ^ 53 := by decide
    rw [e]
    exact Nat.mul_le_mul (by omega) (Nat.le_refl _)
  have h2 : ((n + 1) * 2 ^ 53) ^ (n + 1) ≤ (2 ^ 58) ^ (n + 1) := Nat.pow_le_pow_left h1 _
  have h3 : ((2 : Nat) ^ 58) ^ (n + 1) ≤ (2 ^ 58) ^ 19 := Nat.pow_le_pow_right (by decide) (by omega)
  have h4 : ((2 : Nat) ^ 58) ^ 19 = 2 ^ 1102 := (Nat.pow_mul 2 58 19).symm
  have h5 : 2 * (2 : Nat) ^ 1102 = 2 ^ 1103 := by rw [Nat.mul_comm]; exact (Nat.pow_succ (n := 2) (m := 1102)).symm
  have h6 : (2 : Nat) ^ 1103 < 2 ^ 1110 := Nat.pow_lt_pow_right (by decide) (by decide)
  omega
theorem SysOk.rowB (h : SysOk n rows sums) {i : Nat} {row : List Fr} {s : Fr} (e1 : rows[i]? = some row) (e2 : sums[i]? = some s) : row.length = n ∧ RowB (row ++ [s]) := by
  have hr := h.row i row e1
  have hs := h.sm s (List.mem_of_getElem? e2)
  refine ⟨hr.len, fun p hp => ?_, ?_⟩
  · rcases List.mem_append.mp hp with hp | hp
    · exact (hr.fb p hp).mono (by decide)
    · rw [List.mem_singleton.mp hp]; exact hs.mono (by decide)
  · rw [pBot_mul, pBot_cons]
    have a := hr.bot
    have b := hs.bot
    have e : pBot [] = 1 := rfl
    rw [e, Nat.mul_one]
    have c : pBot row * s.2.natAbs ≤ 2 ^ 45 * 2 ^ 4 := Nat.mul_le_mul a (by omega)
    have d : (2 : Nat) ^ 45 * 2 ^ 4 = 2 ^ 49 := by decide
    have f : (2 : Nat) ^ 49 < 2 ^ 2000 := Nat.pow_lt_pow_right (by decide) (by decide)
    omega
end
end Tw
end
section
/-! TwMir: what the program reckons, in plain Lean. -/
set_option autoImplicit false
set_option linter.all false
namespace Tw
/-! ### states -/
def nextSt (found : List (List Int)) (n : Nat) : List (List Int) := found.flatMap fun s => (List.range n).map fun (j : Nat) => s ++ [(j : Int)]
theorem statesOf_snoc (l : List Nat) (n : Nat) : statesOf (l ++ [n]) = nextSt (statesOf l) n := by
  unfold statesOf
  rw [List.foldl_append]
  rfl
theorem snoc_of {α : Type} {l : List α} {m : Nat} (h : l.length = m + 1) : ∃ r x, l = r ++ [x] ∧ r.length = m := by
  have hne : l ≠ [] := fun z => by rw [z] at h; simp at h
  refine ⟨l.dropLast, l.getLast hne, (List.dropLast_concat_getLast hne).symm, ?_⟩
  rw [List.length_dropLast]
  omega
def StOk (l : List Nat) (s : List Int) : Prop := s.length = l.length ∧ ∀ (i n : Nat), l[i]? = some n → ∃ j : Nat, s[i]? = some (j : Int) ∧ j < n
theorem mem_nextSt {found : List (List Int)} {n : Nat} {s : List Int} : s ∈ nextSt found n ↔ ∃ t j, t ∈ found ∧ j < n ∧ s = t ++ [(j : Int)] := by
  unfold nextSt
  rw [List.mem_flatMap]
  constructor
  · rintro ⟨t, ht, hs⟩
    obtain ⟨j, hj, rfl⟩ := List.mem_map.mp hs
    exact ⟨t, j, ht, List.mem_range.mp hj, rfl⟩
  · rintro ⟨t, j, ht, hj, rfl⟩
    exact ⟨t, ht, List.mem_map.mpr ⟨j, List.mem_range.mpr hj, rfl⟩⟩
theorem mem_statesOf : ∀ (m : Nat) {l : List Nat} {s : List Int}, l.length = m → (s ∈ statesOf l ↔ StOk l s)
  | 0, l, s, h => by
    have e : l = [] := List.eq_nil_of_length_eq_zero h
    subst e
    show s ∈ [[]] ↔ _
    rw [List.mem_singleton]
    constructor
    · rintro rfl
      exact ⟨rfl, fun i n e => by simp at e⟩
    · rintro ⟨h1, _⟩
      exact List.eq_nil_of_length_eq_zero h1
  | m + 1, l, s, h => by
    obtain ⟨r, n, rfl, hr⟩ := snoc_of h
    rw [statesOf_snoc, mem_nextSt]
    constructor
    · rintro ⟨t, j, ht, hj, rfl⟩
      obtain ⟨g1, g2⟩ := (mem_statesOf m hr).mp ht
      refine ⟨by rw [List.length_append, List.length_append, g1]; rfl, fun i k e => ?_⟩
      by_cases hi : i < r.length
      · rw [List.getElem?_append_left hi] at e
        obtain ⟨a, e1, e2⟩ := g2 i k e
        exact ⟨a, by rw [List.getElem?_append_left (by omega)]; exact e1, e2⟩
      · have h1 := (List.getElem?_eq_some_iff.mp e).1
        rw [List.length_append, List.length_singleton] at h1
        have ei : i = r.length := by omega
        subst ei
        rw [List.getElem?_append_right (Nat.le_refl _), Nat.sub_self] at e
        cases e
        exact ⟨j, by rw [List.getElem?_append_right (by omega), g1, Nat.sub_self]; rfl, hj⟩
    · rintro ⟨g1, g2⟩
      rw [List.length_append, List.length_singleton] at g1
      obtain ⟨t, x, rfl, ht⟩ := snoc_of (l := s) (m := r.length) g1
      obtain ⟨j, e1, e2⟩ := g2 r.length n (by rw [List.getElem?_append_right (Nat.le_refl _), Nat.sub_self]; rfl)
      rw [List.getElem?_append_right (by omega), ht, Nat.sub_self] at e1
      cases e1
      refine ⟨t, j, (mem_statesOf m hr).mpr ⟨ht, fun i k e => ?_⟩, e2, rfl⟩
      have hi := (List.getElem?_eq_some_iff.mp e).1
      obtain ⟨a, b1, b2⟩ := g2 i k (by rw [List.getElem?_append_left hi]; exact e)
      rw [List.getElem?_append_left (by omega)] at b1
      exact ⟨a, b1, b2⟩
theorem lt_app : ∀ {s t x y : List Int}, s.length = t.length → s < t → s ++ x < t ++ y
  | [], [], _, _, _, h => absurd h (List.lt_irrefl _)
  | a :: s, b :: t, x, y, hl, h => by
    rw [List.cons_append, List.cons_append, List.cons_lt_cons_iff]
    rcases List.cons_lt_cons_iff.mp h with h | ⟨h1, h2⟩
    · exact .inl h
    · exact .inr ⟨h1, lt_app (by simpa using hl) h2⟩
  | [], _ :: _, _, _, hl, _ => by simp at hl
  | _ :: _, [], _, _, hl, _ => by simp at hl
theorem lt_last : ∀ {s : List Int} {a b : Int}, a < b → s ++ [a] < s ++ [b]
  | [], a, b, h => by
    show [a] < [b]
    rw [List.cons_lt_cons_iff]
    exact .inl h
  | c :: s, a, b, h => by
    rw [List.cons_append, List.cons_append, List.cons_lt_cons_iff]
    exact .inr ⟨rfl, lt_last h⟩
theorem sorted_next : ∀ {found : List (List Int)} {n m : Nat}, (∀ s ∈ found, s.length = m) → found.Pairwise (· < ·) → (nextSt found n).Pairwise (· < ·)
  | [], n, m, _, _ => .nil
  | s :: found, n, m, hl, h => by
    obtain ⟨h1, h2⟩ := List.pairwise_cons.mp h
    have ih := sorted_next (n := n) (m := m) (fun t ht => hl t (List.mem_cons_of_mem _ ht)) h2
    have e : nextSt (s :: found) n = ((List.range n).map fun (j : Nat) => s ++ [(j : Int)]) ++ nextSt found n := rfl
    rw [e, List.pairwise_append]
    refine ⟨?_, ih, fun a ha b hb => ?_⟩
    · rw [List.pairwise_map]
      exact List.pairwise_lt_range.imp fun hab => lt_last (by omega)
    · obtain ⟨j, _, rfl⟩ := List.mem_map.mp ha
      obtain ⟨t, j2, ht, _, rfl⟩ := mem_nextSt.mp hb
      exact lt_app (by rw [hl s List.mem_cons_self, hl t (List.mem_cons_of_mem _ ht)]) (h1 t ht)
theorem sorted_states : ∀ (m : Nat) {l : List Nat}, l.length = m → (statesOf l).Pairwise (· < ·)
  | 0, l, h => by
    have e : l = [] := List.eq_nil_of_length_eq_zero h
    subst e
    exact List.pairwise_singleton _ _
  | m + 1, l, h => by
    obtain ⟨r, n, rfl, hr⟩ := snoc_of h
    rw [statesOf_snoc]
    exact sorted_next (m := r.length) (fun s hs => ((mem_statesOf m hr).mp hs).1) (sorted_states m hr)
theorem nodup_states (l : List Nat) : (statesOf l).Nodup := (sorted_states _ rfl).imp fun {a b} h (e : a = b) => List.lt_irrefl b (by rw [e] at h; exact h)
def sts (k : Book) : List (List Int) := statesOf (sizes k)
theorem sts_len (k : Book) : (sts k).length = many k := statesOf_len _
theorem sts_ok {k : Book} {s : List Int} : s ∈ sts k ↔ StOk (sizes k) s := mem_statesOf _ rfl
def moved (s : List Int) (bn to : Nat) : List Int := s.take bn ++ [(to : Int)] ++ s.drop (bn + 1)
theorem moved_ok {l : List Nat} {s : List Int} {bn to n : Nat} (h : StOk l s) (hb : l[bn]? = some n) (ht : to < n) : StOk l (moved s bn to) := by
  have hl := (List.getElem?_eq_some_iff.mp hb).1
  obtain ⟨h1, h2⟩ := h
  have l1 : (s.take bn).length = bn := by rw [List.length_take]; omega
  refine ⟨by unfold moved; simp; omega, fun i m e => ?_⟩
  unfold moved
  by_cases c1 : i < bn
  · rw [List.append_assoc, List.getElem?_append_left (by omega), List.getElem?_take_of_lt c1]
    exact h2 i m e
  · by_cases c2 : i = bn
    · subst c2
      rw [hb] at e
      cases e
      refine ⟨to, ?_, ht⟩
      rw [List.append_assoc, List.getElem?_append_right (by omega), l1, Nat.sub_self]
      rfl
    · rw [List.getElem?_append_right (by simp; omega)]
      obtain ⟨j, e1, e2⟩ := h2 i m e
      refine ⟨j, ?_, e2⟩
      rw [List.getElem?_drop, List.length_append, l1, List.length_singleton, show bn + 1 + (i - (bn + 1)) = i by omega]
      exact e1
theorem moved_inj {s : List Int} {bn a b : Nat} (h : moved s bn a = moved s bn b) : a = b := by
  unfold moved at h
  rw [List.append_assoc, List.append_assoc] at h
  have h1 := List.append_cancel_left h
  have h2 : (a : Int) = (b : Int) := by
    injection h1 with h2 _
  omega

/-! ### the rows of a bench -/
theorem val_pos {p : Fr} (h1 : 1 ≤ p.2) (h2 : 0 < p.1) : 0 < val p := by
  unfold val
  have a := ratpos h2
  have b := ratpos (show 0 < p.2 by omega)
  rw [Rat.lt_div_iff b]
  grind
theorem val_lt1 {p : Fr} (h1 : 1 ≤ p.2) (h2 : p.1 < p.2) : val p < 1 := by
  unfold val
  have b := ratpos (show 0 < p.2 by omega)
  rw [Rat.div_lt_iff b]
  have c : (p.1 : Rat) < (p.2 : Rat) := by exact_mod_cast h2
  grind
def sumC : List Move → Rat
  | [] => 0
  | m :: ms => val m.1 + sumC ms
theorem sumTo_val : ∀ {ms : List Move} {t : Fr}, (∀ m ∈ ms, 1 ≤ m.1.2) → 1 ≤ t.2 → val (ms.foldl (fun t m => fAdd t m.1) t) = val t + sumC ms
  | [], t, _, _ => by simp only [List.foldl_nil, sumC]; grind
  | m :: ms, t, h, ht => by
    have h1 := h m List.mem_cons_self
    rw [List.foldl_cons, sumTo_val (t := fAdd t m.1) (fun m hm => h m (List.mem_cons_of_mem _ hm)) (nf_low (mul_pos' ht h1)).1, val_add ht h1]
    simp only [sumC]
    grind
theorem MovesOk.sumC {n : Nat} {ms : List Move} (h : MovesOk n ms) : sumC ms = 1 := by
  have e := sumTo_val (ms := ms) (t := (0, 1)) (fun m hm => (h.low m hm).2.2.pos) (by decide)
  have e2 : ms.foldl (fun t m => fAdd t m.1) (0, 1) = (1, 1) := h.sum
  rw [e2, val_one, val_zero] at e
  grind
theorem sumC_filter (P : Move → Bool) : ∀ {ms : List Move}, (∀ m ∈ ms, 0 ≤ val m.1) → sumC (ms.filter P) ≤ sumC ms
  | [], _ => by simp only [List.filter_nil]; grind
  | m :: ms, h => by
    have ih := sumC_filter P (ms := ms) fun m hm => h m (List.mem_cons_of_mem _ hm)
    have h1 := h m List.mem_cons_self
    rw [List.filter_cons]
    split
    · simp only [sumC]; grind
    · simp only [sumC]; grind
theorem sumC_nonneg : ∀ {ms : List Move}, (∀ m ∈ ms, 0 ≤ val m.1) → 0 ≤ sumC ms
  | [], _ => by simp only [sumC]; grind
  | m :: ms, h => by
    have ih := sumC_nonneg (ms := ms) fun m hm => h m (List.mem_cons_of_mem _ hm)
    have h1 := h m List.mem_cons_self
    simp only [sumC]
    grind
theorem sumC_mem : ∀ {ms : List Move} {m : Move}, (∀ m ∈ ms, 0 ≤ val m.1) → m ∈ ms → val m.1 ≤ sumC ms
  | a :: ms, m, h, hm => by
    have h1 := h a List.mem_cons_self
    have h2 := sumC_nonneg (ms := ms) fun m hm => h m (List.mem_cons_of_mem _ hm)
    simp only [sumC]
    rcases List.mem_cons.mp hm with e | hm
    · subst e; grind
    · have := sumC_mem (ms := ms) (fun m hm => h m (List.mem_cons_of_mem _ hm)) hm
      grind
def mkP (part : Fr) (g : Nat → Nat) (ms : List Move) : List (Nat × Fr) := ms.map fun m => (g m.2, fMul part m.1)
theorem sumV_mkP {part : Fr} {g : Nat → Nat} (hp : 1 ≤ part.2) : ∀ {ms : List Move}, (∀ m ∈ ms, 1 ≤ m.1.2) → sumV (mkP part g ms) = val part * sumC ms
  | [], _ => by simp only [mkP, List.map_nil, sumV, sumC]; grind
  | m :: ms, h => by
    have ih := sumV_mkP (part := part) (g := g) hp (ms := ms) fun m hm => h m (List.mem_cons_of_mem _ hm)
    have h1 := h m List.mem_cons_self
    simp only [mkP, List.map_cons, sumV, sumC] at ih ⊢
    rw [ih, val_mul hp h1]
    grind
theorem mkP_ps {n nb : Nat} {part : Fr} (hp : PartOk part) {ms : List Move} (hm : MovesOk nb ms) (P : Move → Bool) (g : Nat → Nat) (hi : ∀ a b, a < nb → b < nb → g a = g b → a = b) (hl : ∀ a, a < nb → g a < n) : Ps n (mkP part g (ms.filter P)) := by
  have pp := hp.fb.pos
  have v0 := val_pos pp hp.pos
  have v1 := val_lt1 pp hp.lt
  have nn : ∀ m ∈ ms, 0 ≤ val m.1 := fun m h => by
    obtain ⟨a, b, c⟩ := hm.low m h
    have := val_pos c.pos b
    grind
  have fl : ∀ m ∈ ms.filter P, m ∈ ms := fun m h => (List.mem_filter.mp h).1
  have sc := hm.sumC
  have sf := sumC_filter P nn
  rw [sc] at sf
  have s0 := sumC_nonneg (ms := ms.filter P) fun m h => nn m (fl m h)
  refine ⟨?_, fun p h => ?_, ?_, fun p h => ?_, fun p h => ?_, fun p h => ?_, ?_⟩
  · unfold mkP
    rw [List.map_map]
    unfold List.Nodup
    rw [List.pairwise_map]
    have h1 : ms.Pairwise fun a b => a.2 < b.2 := by
      have := hm.rise
      rw [List.pairwise_map] at this
      exact this
    refine (List.Pairwise.filter P h1).imp_of_mem fun {a b} ha hb hab e => ?_
    have := hi a.2 b.2 (hm.lt a (fl a ha)) (hm.lt b (fl b hb)) e
    omega
  · obtain ⟨m, hmm, rfl⟩ := List.mem_map.mp h
    exact hl _ (hm.lt m (fl m hmm))
  · unfold mkP
    rw [List.length_map]
    exact Nat.le_trans (List.length_filter_le _ _) hm.few
  · obtain ⟨m, hmm, rfl⟩ := List.mem_map.mp h
    exact Fb.mul hp.fb (hm.low m (fl m hmm)).2.2
  · obtain ⟨m, hmm, rfl⟩ := List.mem_map.mp h
    have c := (hm.low m (fl m hmm)).2.2.pos
    show 0 ≤ val (fMul part m.1)
    rw [val_mul pp c]
    exact Rat.mul_nonneg (Rat.le_of_lt v0) (nn m (fl m hmm))
  · obtain ⟨m, hmm, rfl⟩ := List.mem_map.mp h
    have c := (hm.low m (fl m hmm)).2.2.pos
    show val (fMul part m.1) ≤ 1
    rw [val_mul pp c]
    have a := sumC_mem nn (fl m hmm)
    rw [sc] at a
    have := Rat.mul_le_mul_of_nonneg_left a (Rat.le_of_lt v0)
    grind
  · rw [sumV_mkP pp fun m h => (hm.low m (fl m h)).2.2.pos]
    have := Rat.mul_le_mul_of_nonneg_left sf (Rat.le_of_lt v0)
    grind
def inW (ws : List Nat) : Move → Bool := fun m => decide (m.2 ∈ ws)
def stOf (b : Bench) (i : Nat) : Stand := b[i]?.getD ((0, 1), [])
def goRows (b : Bench) (part : Fr) (ws : List Nat) : List (List Fr) := (List.range b.length).map fun i => rowOf b.length (mkP part (fun a => a) ((stOf b i).2.filter (inW ws))) i
def gains (b : Bench) : List Fr := b.map fun s => s.1
def ones (b : Bench) : List Fr := b.map fun _ => (1, 1)
def earned (b : Bench) (part : Fr) (ws : List Nat) : List Fr := solve (sysA (goRows b part ws) (gains b)) b.length
def tries (b : Bench) (part : Fr) (ws : List Nat) : List Fr := solve (sysA (goRows b part ws) (ones b)) b.length
def quot (b : Bench) (part : Fr) (ws : List Nat) : List Fr := List.zipWith fDiv (earned b part ws) (tries b part ws)
theorem stOf_get {b : Bench} {i : Nat} {s : Stand} (h : b[i]? = some s) : stOf b i = s := by unfold stOf; rw [h]; rfl
theorem goRows_ok {b : Bench} {part : Fr} {ws : List Nat} (hb : BenchOk b) (hp : PartOk part) {sums : List Fr} (hl : sums.length = b.length) (hs : ∀ s ∈ sums, Fb 4 s) : SysOk b.length (goRows b part ws) sums := by
  refine ⟨by unfold goRows; simp, hl, fun i row h => ?_, hs⟩
  unfold goRows at h
  rw [List.getElem?_map] at h
  have hi : i < b.length := by
    cases e : (List.range b.length)[i]? with
    | none => rw [e] at h; cases h
    | some j =>
      have := (List.getElem?_eq_some_iff.mp e).1
      rw [List.length_range] at this
      exact this
  rw [List.getElem?_range hi] at h
  cases h
  have es := List.getElem?_eq_getElem hi
  have so := hb.st _ (List.mem_of_getElem? es)
  have ee := stOf_get es
  rw [← ee] at so
  exact rowOf_ok (mkP_ps hp so.mv (inW ws) (fun a => a) (fun a b _ _ e => e) fun a h => h) hi
theorem fb1 : Fb 4 ((1, 1) : Fr) := ⟨by decide, by decide, by decide⟩
theorem gains_ok {b : Bench} (hb : BenchOk b) : (gains b).length = b.length ∧ ∀ s ∈ gains b, Fb 4 s := by
  refine ⟨by unfold gains; simp, fun s hs => ?_⟩
  obtain ⟨t, ht, rfl⟩ := List.mem_map.mp hs
  exact (hb.st t ht).fb
theorem ones_ok {b : Bench} : (ones b).length = b.length ∧ (∀ s ∈ ones b, Fb 4 s) ∧ ∀ s ∈ ones b, 0 < val s := by
  refine ⟨by unfold ones; simp, fun s hs => ?_, fun s hs => ?_⟩
  · obtain ⟨t, ht, rfl⟩ := List.mem_map.mp hs
    exact fb1
  · obtain ⟨t, ht, rfl⟩ := List.mem_map.mp hs
    rw [val_one]
    grind
theorem solve_len (A : Nat → Nat → Int) (n : Nat) : (solve A n).length = n := by unfold solve; simp
theorem solve_get {A : Nat → Nat → Int} {n i : Nat} (h : i < n) : (solve A n)[i]? = some (nf (TT A n i n) (dd A n)) := by
  unfold solve
  rw [List.getElem?_map, List.getElem?_range h]
  rfl
theorem SysOk.solve_fb {n : Nat} {rows : List (List Fr)} {sums : List Fr} (h : SysOk n rows sums) (hn : n ≤ 18) : ∀ p ∈ solve (sysA rows sums) n, Low p ∧ Fb 1110 p := fun p hp => by
  unfold solve at hp
  obtain ⟨i, hi, rfl⟩ := List.mem_map.mp hp
  have hi := List.mem_range.mp hi
  have sg := h.dom.sgn n (Nat.le_refl _)
  have sm := h.small hn
  have b1 := sm.tt (Nat.le_refl n) hi (Nat.le_refl n)
  have b2 : (dd (sysA rows sums) n).natAbs < 2 ^ 1110 := by
    have := sm.dd (Nat.le_refl n)
    have p : 0 < 2 ^ 1110 := Nat.pow_pos (by decide)
    generalize 2 ^ 1110 = z at this p
    omega
  exact ⟨nf_low sg.d, Fb.nf sg.d b1 b2⟩
theorem nf_pos {t b : Int} (hb : 0 < b) (ht : 0 < t) : 0 < (nf t b).1 := by
  obtain ⟨g, u, v, h1, h2, h3, h4, h5, h6, h7⟩ := cg_ex t b hb
  rw [h6]
  show 0 < u
  rw [h3] at ht
  exact pos_of_mul h1 ht
theorem tries_pos {b : Bench} {part : Fr} {ws : List Nat} (hb : BenchOk b) (hp : PartOk part) : ∀ p ∈ tries b part ws, 0 < p.1 := fun p hpm => by
  obtain ⟨o1, o2, o3⟩ := ones_ok (b := b)
  have ok := goRows_ok (ws := ws) hb hp o1 o2
  unfold tries solve at hpm
  obtain ⟨i, hi, rfl⟩ := List.mem_map.mp hpm
  have hi := List.mem_range.mp hi
  have sg := ok.dom.sgn _ (Nat.le_refl _)
  exact nf_pos sg.d (ok.dom.rhs (ok.rhs o3) _ (Nat.le_refl _) i hi)
theorem earned_ok {b : Bench} {part : Fr} {ws : List Nat} (hb : BenchOk b) (hp : PartOk part) : ∀ p ∈ earned b part ws, Fb 1110 p := fun p h => by
  obtain ⟨o1, o2⟩ := gains_ok hb
  exact ((goRows_ok (ws := ws) hb hp o1 o2).solve_fb (by have := hb.few; omega) p h).2
theorem tries_ok {b : Bench} {part : Fr} {ws : List Nat} (hb : BenchOk b) (hp : PartOk part) : ∀ p ∈ tries b part ws, Fb 1110 p := fun p h => by
  obtain ⟨o1, o2, o3⟩ := ones_ok (b := b)
  exact ((goRows_ok (ws := ws) hb hp o1 o2).solve_fb (by have := hb.few; omega) p h).2
theorem quot_len (b : Bench) (part : Fr) (ws : List Nat) : (quot b part ws).length = b.length := by
  unfold quot earned tries
  rw [List.length_zipWith, solve_len, solve_len, Nat.min_self]
theorem quot_ok {b : Bench} {part : Fr} {ws : List Nat} (hb : BenchOk b) (hp : PartOk part) : ∀ p ∈ quot b part ws, Fb 2220 p := fun p h => by
  unfold quot at h
  obtain ⟨i, hi, e⟩ := List.mem_iff_getElem.mp h
  rw [List.getElem_zipWith] at e
  subst e
  exact Fb.div (earned_ok hb hp _ (List.getElem_mem _)) (tries_ok hb hp _ (List.getElem_mem _)) (tries_pos hb hp _ (List.getElem_mem _))
def gAt (found : List Fr) (i : Nat) : Fr := found[i]?.getD (0, 1)
def gStep (found : List Fr) (best s : Nat) : Nat := if fLt (gAt found best) (gAt found s) = true then s else best
def gOf (found : List Fr) (rest : List Nat) : Nat := rest.foldl (gStep found) (rest.head?.getD 0)
theorem foldl_mem {found : List Fr} : ∀ {rest : List Nat} {x : Nat}, rest.foldl (gStep found) x = x ∨ rest.foldl (gStep found) x ∈ rest
  | [], x => .inl rfl
  | r :: rest, x => by
    rw [List.foldl_cons]
    rcases foldl_mem (found := found) (rest := rest) (x := gStep found x r) with h | h
    · rw [h]
      unfold gStep
      split
      · exact .inr List.mem_cons_self
      · exact .inl rfl
    · exact .inr (List.mem_cons_of_mem _ h)
theorem gOf_mem {found : List Fr} {rest : List Nat} (h : rest ≠ []) : gOf found rest ∈ rest := by
  unfold gOf
  rcases foldl_mem (found := found) (rest := rest) (x := rest.head?.getD 0) with e | e
  · rw [e]
    cases rest with
    | nil => exact absurd rfl h
    | cons a r => exact List.mem_cons_self
  · exact e
def lookF (acc : List (Nat × Fr)) (k : Nat) : Option Fr := (acc.find? fun p => decide (p.1 = k)).map (·.2)
theorem lookF_snoc {acc : List (Nat × Fr)} {k j : Nat} {p : Fr} : lookF (acc ++ [(k, p)]) j = (lookF acc j).or (if k = j then some p else none) := by
  unfold lookF
  rw [List.find?_append]
  cases acc.find? fun p => decide (p.1 = j) with
  | some x => rfl
  | none =>
    simp only [Option.none_or, Option.map_none, List.find?_cons, List.find?_nil]
    by_cases h : k = j
    · rw [if_pos h, decide_eq_true h]; rfl
    · rw [if_neg h, decide_eq_false h]; rfl
def idxLoop (b : Bench) (part : Fr) : Nat → List Nat → List Nat → List (Nat × Fr) → List (Nat × Fr)
  | 0, _, _, acc => acc
  | m + 1, ws, rest, acc => idxLoop b part m (ws ++ [gOf (quot b part ws) rest]) (rest.erase (gOf (quot b part ws) rest)) (acc ++ [(gOf (quot b part ws) rest, gAt (quot b part ws) (gOf (quot b part ws) rest))])
def idxAll (b : Bench) (part : Fr) : List (Nat × Fr) := idxLoop b part b.length [] (List.range b.length) []
def indices (b : Bench) (part : Fr) : List Fr := (List.range b.length).map fun k => (lookF (idxAll b part) k).getD (0, 1)
theorem indices_len (b : Bench) (part : Fr) : (indices b part).length = b.length := by unfold indices; simp
/-- a turn of the loop -/
structure IdxAt (b : Bench) (part : Fr) (ws rest : List Nat) (acc : List (Nat × Fr)) : Prop where
  nd : rest.Nodup
  lt : ∀ r ∈ rest, r < b.length
  all : ∀ k, k < b.length → k ∈ rest ∨ ∃ p, lookF acc k = some p ∧ Fb 2220 p
  new : ∀ r ∈ rest, lookF acc r = none
  wl : ws.length ≤ b.length
  al : acc.length + rest.length ≤ b.length
  fin : idxLoop b part rest.length ws rest acc = idxAll b part
  wr : ws.length + rest.length ≤ b.length
theorem IdxAt.zero (b : Bench) (part : Fr) : IdxAt b part [] (List.range b.length) [] := ⟨List.nodup_range, fun r h => List.mem_range.mp h, fun k h => .inl (List.mem_range.mpr h), fun r _ => rfl, Nat.zero_le _, by simp, by rw [List.length_range]; rfl, by simp⟩
theorem IdxAt.next {b : Bench} {part : Fr} {ws rest : List Nat} {acc : List (Nat × Fr)} (hb : BenchOk b) (hp : PartOk part) (h : IdxAt b part ws rest acc) (hr : rest ≠ []) :
    gOf (quot b part ws) rest ∈ rest ∧ IdxAt b part (ws ++ [gOf (quot b part ws) rest]) (rest.erase (gOf (quot b part ws) rest)) (acc ++ [(gOf (quot b part ws) rest, gAt (quot b part ws) (gOf (quot b part ws) rest))]) := by
  have hm := gOf_mem (found := quot b part ws) hr
  have hf := h.fin
  have hle : (rest.erase (gOf (quot b part ws) rest)).length + 1 = rest.length := by
    rw [List.length_erase_of_mem hm]
    have := List.length_pos_of_mem hm
    omega
  rw [← hle, idxLoop] at hf
  have hq := quot_ok (ws := ws) hb hp
  have hql := quot_len b part ws
  generalize hfd : quot b part ws = found at *
  generalize gOf found rest = best at *
  have hbl := h.lt best hm
  have fa : Fb 2220 (gAt found best) := by
    unfold gAt
    have e := List.getElem?_eq_getElem (show best < found.length by omega)
    rw [e]
    exact hq _ (List.mem_of_getElem? e)
  refine ⟨hm, h.nd.sublist (List.erase_sublist), fun r hr => h.lt r (List.mem_of_mem_erase hr), fun k hk => ?_, fun r hr => ?_, ?_, ?_, hf, ?_⟩
  · by_cases e : k = best
    · subst e
      refine .inr ⟨gAt found k, ?_, fa⟩
      rw [lookF_snoc, h.new k hm, if_pos rfl]
      rfl
    · rcases h.all k hk with h1 | ⟨p, h1, h2⟩
      · exact .inl ((List.mem_erase_of_ne e).mpr h1)
      · exact .inr ⟨p, by rw [lookF_snoc, h1]; rfl, h2⟩
  · have h1 := (h.nd.mem_erase_iff).mp hr
    rw [lookF_snoc, h.new r h1.2, if_neg (Ne.symm h1.1)]
    rfl
  · have := h.wr
    rw [List.length_append, List.length_singleton]
    omega
  · have := h.al
    rw [List.length_append, List.length_singleton]
    omega
  · have := h.wr
    rw [List.length_append, List.length_singleton]
    omega
end Tw
end
section
set_option Elab.async false
set_option linter.all false
set_option maxRecDepth 100000
set_option maxHeartbeats 1000000
/-! TwDict: dicts by data: new, get, put, in, pop; lists: in, remove, list(range); lent lists. -/
namespace Tw
open PySem PySem.Spec PyProof.Rows L2
open Evl (Ex)

/-! ### tables -/
section
variable {κ : Type} [DecidableEq κ]
def valD (kvs : List (κ × Dat)) (k : κ) : Option Dat := (kvs.find? fun kv => decide (kv.1 = k)).map (·.2)
def putD (kvs : List (κ × Dat)) (k : κ) (d : Dat) : List (κ × Dat) := if (kvs.any fun kv => decide (kv.1 = k)) = true then kvs.map (fun kv => if kv.1 = k then (kv.1, d) else kv) else kvs ++ [(k, d)]
def dropD (kvs : List (κ × Dat)) (k : κ) : List (κ × Dat) := kvs.filter fun kv => decide (kv.1 ≠ k)
theorem valD_pos {p : κ × Dat} {r : List (κ × Dat)} {k : κ} (e : p.1 = k) : valD (p :: r) k = some p.2 := by simp [valD, List.find?_cons, e]
theorem valD_neg {p : κ × Dat} {r : List (κ × Dat)} {k : κ} (e : ¬ p.1 = k) : valD (p :: r) k = valD r k := by simp [valD, List.find?_cons, e]
end
section
variable {K : PySem.W.Frag} {H : Hp}
theorem AtKv.val (ns : List Int) : ∀ {ws : List (List Key × V)} {kvs : List (List Int × Dat)}, AtKv K H ws kvs → (valD kvs ns = none ∧ valV ws (kI ns) = none) ∨ ∃ d v, valD kvs ns = some d ∧ valV ws (kI ns) = some v ∧ At K H v d
  | _, _, .nil => .inl ⟨rfl, rfl⟩
  | _, _, .cons (ns := ms) h t => by
    by_cases e : ms = ns
    · subst e
      exact .inr ⟨_, _, valD_pos (k := ms) rfl, valV_pos (k := kI ms) rfl, h⟩
    · have e2 : ¬ kI ms = kI ns := fun z => e (kI_inj z)
      have := AtKv.val ns t
      rw [valD_neg (by exact e), valV_neg (by exact e2)]
      exact this
theorem AtKv.found {ns : List Int} {ws : List (List Key × V)} {kvs : List (List Int × Dat)} {d : Dat} (h : AtKv K H ws kvs) (e : valD kvs ns = some d) : ∃ v, valV ws (kI ns) = some v ∧ At K H v d := by
  rcases h.val ns with ⟨e1, _⟩ | ⟨d', v, e1, e2, e3⟩
  · rw [e] at e1; cases e1
  · rw [e] at e1; cases e1
    exact ⟨v, e2, e3⟩
theorem AtKv.isSome {ws : List (List Key × V)} {kvs : List (List Int × Dat)} (h : AtKv K H ws kvs) (ns : List Int) : (valV ws (kI ns)).isSome = (valD kvs ns).isSome := by
  rcases h.val ns with ⟨e1, e2⟩ | ⟨d', v, e1, e2, e3⟩ <;> rw [e1, e2] <;> rfl
theorem AtKv.any (ns : List Int) : ∀ {ws : List (List Key × V)} {kvs : List (List Int × Dat)}, AtKv K H ws kvs → (ws.any fun kv => decide (kv.1 = kI ns)) = kvs.any fun kv => decide (kv.1 = ns)
  | _, _, .nil => rfl
  | _, _, .cons (ns := ms) h t => by
    rw [List.any_cons, List.any_cons, AtKv.any ns t]
    congr 1
    by_cases e : ms = ns
    · subst e; simp
    · rw [decide_eq_false (by exact fun z => e (kI_inj z)), decide_eq_false (by exact e)]
theorem AtKv.append : ∀ {ws ws2 : List (List Key × V)} {kvs kvs2 : List (List Int × Dat)}, AtKv K H ws kvs → AtKv K H ws2 kvs2 → AtKv K H (ws ++ ws2) (kvs ++ kvs2)
  | _, _, _, _, .nil, s => s
  | _, _, _, _, .cons r t, s => .cons r (AtKv.append t s)
theorem AtKv.repl (ns : List Int) {v : V} {d : Dat} (hv : At K H v d) : ∀ {ws : List (List Key × V)} {kvs : List (List Int × Dat)}, AtKv K H ws kvs → AtKv K H (ws.map fun kv => if kv.1 = kI ns then (kv.1, v) else kv) (kvs.map fun kv => if kv.1 = ns then (kv.1, d) else kv)
  | _, _, .nil => .nil
  | _, _, .cons (ns := ms) h t => by
    have ih := AtKv.repl ns hv t
    rw [List.map_cons, List.map_cons]
    by_cases e : ms = ns
    · subst e
      rw [if_pos rfl, if_pos rfl]
      exact .cons hv ih
    · rw [if_neg (by exact fun z => e (kI_inj z)), if_neg (by exact e)]
      exact .cons h ih
theorem AtKv.put {ns : List Int} {v : V} {d : Dat} {ws : List (List Key × V)} {kvs : List (List Int × Dat)} (h : AtKv K H ws kvs) (hv : At K H v d) : AtKv K H (putK ws (kI ns) v) (putD kvs ns d) := by
  unfold putK putD
  rw [h.any ns]
  split
  · exact h.repl ns hv
  · exact h.append (.cons hv .nil)
theorem AtKv.drop (ns : List Int) : ∀ {ws : List (List Key × V)} {kvs : List (List Int × Dat)}, AtKv K H ws kvs → AtKv K H (dropK ws (kI ns)) (dropD kvs ns)
  | _, _, .nil => .nil
  | _, _, .cons (ns := ms) (ws := ws) (kvs := kvs) h t => by
    have ih := AtKv.drop ns t
    unfold dropK dropD at ih ⊢
    rw [List.filter_cons, List.filter_cons]
    by_cases e : ms = ns
    · subst e
      rw [if_neg (by simp), if_neg (by simp)]
      exact ih
    · rw [if_pos (by simpa using fun z => e (kI_inj z)), if_pos (by simpa using e)]
      exact .cons h ih
theorem AtKi.nil : AtKi K H [] [] := ⟨rfl, fun i k d e => by simp at e⟩
theorem AtKi.head {w : Key × V} {ws : List (Key × V)} {k : Int} {d : Dat} {kvs : List (Int × Dat)} (h : AtKi K H (w :: ws) ((k, d) :: kvs)) : ∃ v, w = (Sum.inl k, v) ∧ At K H v d := by
  obtain ⟨v, e, h2⟩ := h.2 0 k d rfl
  exact ⟨v, Option.some.inj e, h2⟩
theorem AtKi.tail {w : Key × V} {ws : List (Key × V)} {kv : Int × Dat} {kvs : List (Int × Dat)} (h : AtKi K H (w :: ws) (kv :: kvs)) : AtKi K H ws kvs := ⟨by have := h.1; simpa using this, fun i k d e => h.2 (i + 1) k d (by simpa using e)⟩
theorem AtKi.cons {ws : List (Key × V)} {k : Int} {v : V} {d : Dat} {kvs : List (Int × Dat)} (hv : At K H v d) (h : AtKi K H ws kvs) : AtKi K H ((Sum.inl k, v) :: ws) ((k, d) :: kvs) := ⟨by rw [List.length_cons, List.length_cons, h.1], fun i k' d' e => by
  cases i with
  | zero =>
    simp at e
    obtain ⟨rfl, rfl⟩ := e
    exact ⟨v, rfl, hv⟩
  | succ i => exact h.2 i k' d' (by simpa using e)⟩
theorem inl_inj {a b : Int} : ((Sum.inl a : Key) = Sum.inl b) = (a = b) := propext ⟨fun z => Sum.inl.inj z, fun z => by rw [z]⟩
theorem AtKi.found {k : Int} {d : Dat} : ∀ {ws : List (Key × V)} {kvs : List (Int × Dat)}, AtKi K H ws kvs → valD kvs k = some d → ∃ v, valV ws (Sum.inl k) = some v ∧ At K H v d
  | _, [], _, e => by cases e
  | [], _ :: _, h, _ => by have := h.1; simp at this
  | w :: ws, (k', d') :: kvs, h, e => by
    obtain ⟨v, rfl, hv⟩ := h.head
    by_cases ek : k' = k
    · subst ek
      rw [valD_pos rfl] at e
      cases e
      exact ⟨v, valV_pos rfl, hv⟩
    · rw [valD_neg (by exact ek)] at e
      obtain ⟨u, e1, e2⟩ := AtKi.found h.tail e
      refine ⟨u, ?_, e2⟩
      rw [valV_neg (by exact fun z => ek (Sum.inl.inj z))]
      exact e1
theorem AtKi.any (k : Int) : ∀ {ws : List (Key × V)} {kvs : List (Int × Dat)}, AtKi K H ws kvs → (ws.any fun kv => decide (kv.1 = Sum.inl k)) = kvs.any fun kv => decide (kv.1 = k)
  | [], [], _ => rfl
  | w :: ws, [], h => by have := h.1; simp at this
  | [], _ :: _, h => by have := h.1; simp at this
  | w :: ws, (k', d') :: kvs, h => by
    obtain ⟨v, rfl, hv⟩ := h.head
    rw [List.any_cons, List.any_cons, AtKi.any k h.tail]
    simp only [inl_inj]
theorem AtKi.repl (k : Int) {v : V} {d : Dat} (hv : At K H v d) : ∀ {ws : List (Key × V)} {kvs : List (Int × Dat)}, AtKi K H ws kvs → AtKi K H (ws.map fun kv => if kv.1 = Sum.inl k then (kv.1, v) else kv) (kvs.map fun kv => if kv.1 = k then (kv.1, d) else kv)
  | [], [], _ => AtKi.nil
  | w :: ws, [], h => by have := h.1; simp at this
  | [], _ :: _, h => by have := h.1; simp at this
  | w :: ws, (k', d') :: kvs, h => by
    obtain ⟨u, rfl, hu⟩ := h.head
    have ih := AtKi.repl k hv h.tail
    rw [List.map_cons, List.map_cons]
    by_cases e : k' = k
    · subst e
      rw [if_pos rfl, if_pos rfl]
      exact .cons hv ih
    · rw [if_neg (by exact fun z => e (Sum.inl.inj z)), if_neg (by exact e)]
      exact .cons hu ih
theorem AtKi.snoc {k : Int} {v : V} {d : Dat} (hv : At K H v d) : ∀ {ws : List (Key × V)} {kvs : List (Int × Dat)}, AtKi K H ws kvs → AtKi K H (ws ++ [(Sum.inl k, v)]) (kvs ++ [(k, d)])
  | [], [], _ => .cons hv .nil
  | w :: ws, [], h => by have := h.1; simp at this
  | [], _ :: _, h => by have := h.1; simp at this
  | w :: ws, (k', d') :: kvs, h => by
    obtain ⟨u, rfl, hu⟩ := h.head
    exact .cons hu (AtKi.snoc hv h.tail)
theorem AtKi.put {k : Int} {v : V} {d : Dat} {ws : List (Key × V)} {kvs : List (Int × Dat)} (h : AtKi K H ws kvs) (hv : At K H v d) : AtKi K H (putK ws (Sum.inl k) v) (putD kvs k d) := by
  unfold putK putD
  rw [h.any k]
  split
  · exact h.repl k hv
  · exact h.snoc hv
end

/-! ### the rules -/
section
variable {X : Cx} {c : Cz} {ρ : List Sl} {S S1 S2 : List Ct} {e a b o : Expr} {es : List Expr} {r : Sl} {rs : List Sl} {pos pos' p apos cpos : Pos} {k : Nat} {ns : List Int} {kvs : List (List Int × Dat)} {kis : List (Int × Dat)} {d : Dat} {n : Int}
theorem de_dnewM : DE X c ρ S (.Dict [] [] pos) (.o S.length) (S ++ [.m []]) := de_of pe_dnewT fun σ H O hs sl Q q p hp => q.own hs hp rfl ⟨[], upd_same, .nil⟩
theorem de_dnewK : DE X c ρ S (.Dict [] [] pos) (.o S.length) (S ++ [.k []]) := de_of pe_dnewK fun σ H O hs sl Q q p hp => q.own hs hp rfl ⟨[], upd_same, AtKi.nil⟩
theorem at_get {O : List Addr} {O2 : List Addr} {k : Nat} {p : Addr} (h : O[k]? = some p) : (O ++ O2)[k]? = some p := by rw [List.getElem?_append_left (List.getElem?_eq_some_iff.mp h).1]; exact h
/-- d[state], a dict of one's own -/
theorem de_getM (hu : X.A.units + 64 < cLine) (ho : DE X c ρ S o (.o k) S1) (hi : DE X c ρ S1 e (.d (.st ns)) S2) (hk : S2[k]? = some (.m kvs)) (hv : valD kvs ns = some d) (hs : NoSl e := by intro _ _; rfl) : DE X c ρ S (.Subscript o e pos) (.d d) S2 :=
  de_of (pe_dget (by omega) pe_tW pe_tW hs) fun σ H O hs sl Q q => ho σ H O hs sl _ fun v H1 O1 a1 a2 a3 => by
    obtain ⟨p, e1, e2⟩ := a3
    subst e2
    refine hi σ H1 _ a1 (sl.mono a2) _ fun w H2 O2 b1 b2 b3 => ?_
    obtain ⟨ws, c1, c2⟩ := b1.cell k p _ (at_get e1) hk
    have b3' : At X.K _ w (.st ns) := b3
    cases b3' with
    | st e5 =>
      obtain ⟨v, f1, f2⟩ := c2.found hv
      exact ⟨p, v, rfl, .inr ⟨ws, kI ns, _, .inl c1, rfl, by rw [kI_kV]; exact vw_le.tp _ _ e5, f1.symm⟩, ((q.step a2).step b2).here b1 f2⟩
/-- d[state] -/
theorem de_getD (hu : X.A.units + 64 < cLine) (ho : DE X c ρ S o (.d (.dic kvs)) S1) (hi : DE X c ρ S1 e (.d (.st ns)) S2) (hv : valD kvs ns = some d) (hs : NoSl e := by intro _ _; rfl) : DE X c ρ S (.Subscript o e pos) (.d d) S2 :=
  de_of (pe_dget (by omega) pe_tW pe_tW hs) fun σ H O hs sl Q q => ho σ H O hs sl _ fun v H1 O1 a1 a2 a3 => by
    refine hi σ H1 _ a1 (sl.mono a2) _ fun w H2 O2 b1 b2 b3 => ?_
    have a3' : At X.K _ v (.dic kvs) := At.mono b2 a3
    have b3' : At X.K _ w (.st ns) := b3
    cases b3' with
    | st e5 =>
      cases a3' with
      | dic g1 g2 =>
        obtain ⟨v, f1, f2⟩ := g2.found hv
        exact ⟨_, v, rfl, .inr ⟨_, kI ns, _, vw_le.rd _ _ g1, rfl, by rw [kI_kV]; exact vw_le.tp _ _ e5, f1.symm⟩, ((q.step a2).step b2).here b1 f2⟩
/-- d[int], a dict of one's own -/
theorem de_getK (hu : X.A.units + 64 < cLine) (ho : DE X c ρ S o (.o k) S1) (hi : DE X c ρ S1 e (.d (.int n)) S2) (hk : S2[k]? = some (.k kis)) (hv : valD kis n = some d) (hs : NoSl e := by intro _ _; rfl) : DE X c ρ S (.Subscript o e pos) (.d d) S2 :=
  de_of (pe_dget (by omega) pe_tW pe_tW hs) fun σ H O hs sl Q q => ho σ H O hs sl _ fun v H1 O1 a1 a2 a3 => by
    obtain ⟨p, e1, e2⟩ := a3
    subst e2
    refine hi σ H1 _ a1 (sl.mono a2) _ fun w H2 O2 b1 b2 b3 => ?_
    obtain ⟨ws, c1, c2⟩ := b1.cell k p _ (at_get e1) hk
    cases b3
    obtain ⟨v, f1, f2⟩ := c2.found hv
    exact ⟨p, v, rfl, .inl ⟨ws, Sum.inl n, .inl c1, rfl, f1.symm⟩, ((q.step a2).step b2).here b1 f2⟩
/-- d[state] = e, a dict of one's own -/
theorem ds_putM {D : De} (hu : X.A.units + 64 < cLine) (hv : DE X c ρ S e (.d d) S1) (ho : DE X c ρ S1 a (.o k) S1) (hi : DE X c ρ S1 b (.d (.st ns)) S2) (hk : S2[k]? = some (.m kvs)) (hz : kvs.length < 100000) (hn : D.nx ρ (S2.set k (.m (putD kvs ns d))))
    (hs : swapsWith e (some (.Subscript a b pos')) pos.line X.env = pure false := by rfl) : DS X c ρ S (.Assign [.Subscript a b pos'] e pos) D :=
  ds_of (ps_dput (by omega) pe_tW pe_tW pe_tW hs) fun σ H O hs sl E q => hv σ H O hs sl _ fun v H1 O1 a1 a2 a3 => by
    refine ho σ H1 _ a1 (sl.mono a2) _ fun w H2 O2 b1 b2 b3 => ?_
    obtain ⟨pp, e2, e3⟩ := b3
    subst e3
    refine hi σ H2 _ b1 ((sl.mono a2).mono b2) _ fun u H3 O3 c1 c2 c3 => ?_
    have e4 : (O ++ O1 ++ O2 ++ O3)[k]? = some pp := at_get e2
    obtain ⟨ws, d1, d2⟩ := c1.cell k pp _ e4 hk
    have c3' : At X.K _ u (.st ns) := c3
    have a3' : At X.K _ v d := a3
    have gd := At.mono c2 (At.mono b2 a3')
    cases c3' with
    | st e5 =>
      refine ⟨pp, _, rfl, .inr ⟨ws, kI ns, _, d1, rfl, by rw [kI_kV]; exact vw_le.tp _ _ e5, by rw [d2.length]; exact Evl.sz_lt hz, rfl⟩, ?_⟩
      have g1 : Hs X.K c (O ++ O1 ++ O2 ++ O3) (S2.set k (.m (putD kvs ns d))) (upd H3 pp (.dT (putK ws (kI ns) v))) := c1.set e4 hk rfl rfl ⟨_, upd_same, d2.put gd⟩
      have gv : vw c (O ++ O1 ++ O2 ++ O3) (S2.set k (.m (putD kvs ns d))) (upd H3 pp (.dT (putK ws (kI ns) v))) = vw c (O ++ O1 ++ O2 ++ O3) S2 H3 := vw_set e4 hk rfl rfl
      have q2 := ((q.step a2).step b2).step c2
      have s2 := ((sl.mono (O' := O1) a2).mono (O' := O2) b2).mono (O' := O3) c2
      exact q2.nx.go hn g1 (by rw [gv]; exact s2) (by rw [gv]; exact RX.refl _)
/-- d[int] = e, a dict of one's own -/
theorem ds_putK {D : De} (hu : X.A.units + 64 < cLine) (hv : DE X c ρ S e (.d d) S1) (ho : DE X c ρ S1 a (.o k) S1) (hi : DE X c ρ S1 b (.d (.int n)) S2) (hk : S2[k]? = some (.k kis)) (hz : kis.length < 100000) (hn : D.nx ρ (S2.set k (.k (putD kis n d))))
    (hs : swapsWith e (some (.Subscript a b pos')) pos.line X.env = pure false := by rfl) : DS X c ρ S (.Assign [.Subscript a b pos'] e pos) D :=
  ds_of (ps_dput (by omega) pe_tW pe_tW pe_tW hs) fun σ H O hs sl E q => hv σ H O hs sl _ fun v H1 O1 a1 a2 a3 => by
    refine ho σ H1 _ a1 (sl.mono a2) _ fun w H2 O2 b1 b2 b3 => ?_
    obtain ⟨pp, e2, e3⟩ := b3
    subst e3
    refine hi σ H2 _ b1 ((sl.mono a2).mono b2) _ fun u H3 O3 c1 c2 c3 => ?_
    have e4 : (O ++ O1 ++ O2 ++ O3)[k]? = some pp := at_get e2
    obtain ⟨ws, d1, d2⟩ := c1.cell k pp _ e4 hk
    have a3' : At X.K _ v d := a3
    have gd := At.mono c2 (At.mono b2 a3')
    cases c3
    refine ⟨pp, _, rfl, .inl ⟨ws, Sum.inl n, d1, rfl, by rw [d2.1]; exact Evl.sz_lt hz, rfl⟩, ?_⟩
    have g1 : Hs X.K c (O ++ O1 ++ O2 ++ O3) (S2.set k (.k (putD kis n d))) (upd H3 pp (.dK (putK ws (Sum.inl n) v))) := c1.set e4 hk rfl rfl ⟨_, upd_same, d2.put gd⟩
    have gv : vw c (O ++ O1 ++ O2 ++ O3) (S2.set k (.k (putD kis n d))) (upd H3 pp (.dK (putK ws (Sum.inl n) v))) = vw c (O ++ O1 ++ O2 ++ O3) S2 H3 := vw_set e4 hk rfl rfl
    have q2 := ((q.step a2).step b2).step c2
    have s2 := ((sl.mono (O' := O1) a2).mono (O' := O2) b2).mono (O' := O3) c2
    exact q2.nx.go hn g1 (by rw [gv]; exact s2) (by rw [gv]; exact RX.refl _)

/-! ### in -/
def rDIn : R2 := fun x y H Q => ∃ a o, y = .ref a ∧ DGet H a x o ∧ Q (.bl o.isSome) H
theorem op_dIn (hu : X.A.units + 64 < cLine) : OpR X (compareOp .In) rDIn := by
  intro pins s σ H x y v u Q I rx ry h
  obtain ⟨a, o, rfl, g, q⟩ := h
  cases ry
  exact d_in (by omega) I g rx fun s' I' => ⟨.bl o.isSome, H, I', rfl, q⟩
theorem od_inD (hu : X.A.units + 64 < cLine) : OpD X c (compareOp .In) S (.d (.st ns)) (.d (.dic kvs)) (.d (.bl (valD kvs ns).isSome)) S := ⟨_, op_dIn hu, fun x y H O hs hx hy Q q => by
  have hx' : At X.K _ x (.st ns) := hx
  have hy' : At X.K _ y (.dic kvs) := hy
  cases hx' with
  | st e5 =>
    cases hy' with
    | dic g1 g2 =>
      refine ⟨_, _, rfl, .inr ⟨_, kI ns, _, vw_le.rd _ _ g1, rfl, by rw [kI_kV]; exact vw_le.tp _ _ e5, rfl⟩, ?_⟩
      rw [g2.isSome ns]
      exact q.here hs (.bl _)⟩
theorem inV_int {n : Int} : ∀ {ms : List Int}, inV (.int n) (ms.map V.int) = decide (n ∈ ms)
  | [] => by simp [inV]
  | m :: ms => by
    have ih := inV_int (n := n) (ms := ms)
    unfold inV at ih ⊢
    rw [List.map_cons, List.any_cons, ih]
    have : eqV (.int m) (.int n) = (m == n) := rfl
    rw [this]
    by_cases h : m = n
    · subst h; simp
    · have h2 : ¬ n = m := fun z => h z.symm
      simp [h, h2]
theorem flat_int : ∀ {ms : List Int}, (ms.map V.int).all flatV = true
  | [] => rfl
  | m :: ms => by
    rw [List.map_cons, List.all_cons, flat_int]
    rfl
theorem od_inI {ms : List Int} : OpD X c (compareOp .In) S (.d (.int n)) (.d (.lst (ms.map .int))) (.d (.bl (decide (n ∈ ms)))) S := ⟨_, op_in_seq, fun x y H O hs hx hy Q q => by
  have hy' : At X.K _ y (.lst (ms.map .int)) := hy
  cases hx
  cases hy' with
  | lst g1 g2 =>
    rw [atall_int g2] at g1
    refine ⟨_, _, rfl, .inl (vw_le.l g1), rfl, flat_int, ?_⟩
    rw [inV_int]
    exact q.here hs (.bl _)⟩
theorem od_notInO {ms : List Int} (hk : S[k]? = some (.l (ms.map .int))) : OpD X c (compareOp .NotIn) S (.d (.int n)) (.o k) (.d (.bl (!decide (n ∈ ms)))) S := ⟨_, op_notIn_seq, fun x y H O hs hx hy Q q => by
  obtain ⟨pp, e2, e3⟩ := hy
  subst e3
  cases hx
  obtain ⟨ws, d1, d2⟩ := hs.cell k pp _ e2 hk
  rw [atall_int d2] at d1
  refine ⟨_, _, rfl, .inl (.inl (.inl d1)), rfl, flat_int, ?_⟩
  rw [inV_int]
  exact q.here hs (.bl _)⟩

/-! ### remove, list(range) -/
theorem de_remove {ms : List Int} {j : Nat} (ho : DE X c ρ S o (.o k) S1) (he : DE X c ρ S1 e (.d (.int n)) S2) (hk1 : ∃ es, S1[k]? = some (.l es)) (hk : S2[k]? = some (.l (ms.map .int))) (hj : ms[j]? = some n) (hno : ∀ m : Nat, m < j → ms[m]? ≠ some n)
    (hbase : attributeBase o "remove" X.env (eval o X.env) = eval o X.env := by rfl)
    (hfew : ((backTo cpos (starEach [e] X.env)).all (fun x => !x.1) && (backToKw cpos (keywordEach [] X.env)).all (fun x => x.1.isSome) && decide (([e] : List Expr).length + ([] : List Keyword).length + (if ([] : List Keyword).isEmpty then 0 else 1) < 30)) = true := by rfl)
    (hline : (apos.endLine == cpos.line) = true := by rfl) (hs0 : starEach [e] X.env = (false, eval e X.env) :: starEach [] X.env := by rfl) (hplain : (backTo cpos (starEach [] X.env)).any (·.1) = false := by rfl) :
    DE X c ρ S (.Call (.Attribute o "remove" apos) [e] [] cpos) (.d .non) (S2.set k (.l ((ms.eraseIdx j).map .int))) :=
  de_of (pe_bm PySem.F.plainAttrs_list PySem.F.slot_list_remove PySem.F.type_list_remove mt_remove pe_tW (pa_cons pe_tW pa_nil hs0) hbase hfew hline hs0 hplain) fun σ H O hs sl Q q => ho σ H O hs sl _ fun v H1 O1 a1 a2 a3 => by
    obtain ⟨pp, e2, e3⟩ := a3
    subst e3
    obtain ⟨es', hk1⟩ := hk1
    obtain ⟨us, c1, c2⟩ := a1.cell k pp _ e2 hk1
    refine ⟨.inl ⟨rfl, us, .inl (.inl c1)⟩, ?_⟩
    refine he σ H1 _ a1 (sl.mono a2) _ fun w H2 O2 b1 b2 b3 => ?_
    have e4 : (O ++ O1 ++ O2)[k]? = some pp := at_get e2
    obtain ⟨us2, d1, d2⟩ := b1.cell k pp _ e4 hk
    rw [atall_int d2] at d1
    cases b3
    refine ⟨pp, ms, n, j, rfl, rfl, d1, hj, hno, ?_⟩
    have ha : ∀ l : List Int, AtAll X.K (vw c (O ++ O1 ++ O2) S2 H2) (l.map V.int) (l.map .int) := fun l => by
      induction l with
      | nil => exact .nil
      | cons x l ih => exact .cons (.int x) ih
    have g1 : Hs X.K c (O ++ O1 ++ O2) (S2.set k (.l ((ms.eraseIdx j).map .int))) (upd H2 pp (.lst ((ms.eraseIdx j).map V.int))) := b1.set e4 hk rfl rfl ⟨_, upd_same, ha _⟩
    have gv : vw c (O ++ O1 ++ O2) (S2.set k (.l ((ms.eraseIdx j).map .int))) (upd H2 pp (.lst ((ms.eraseIdx j).map V.int))) = vw c (O ++ O1 ++ O2) S2 H2 := vw_set e4 hk rfl rfl
    have q2 := (q.step a2).step b2
    exact q2.go g1 (by rw [gv]; exact RX.refl _) .non
theorem de_listRg {m : Nat} {p2 pos2 : Pos} (hml : X.mg "list" = none) (hmr : X.mg "range" = none) (h : DE X c ρ S e (.d (.int (m : Nat))) S1) (hz : m ≤ 100000) (hc : X.calm = true := by rfl) (hg : Gl X "list" := by rfl) (hg2 : Gl X "range" := by rfl)
    (na : starEach [.Call (.Name "range" p2) [e] [] pos2] X.env = (false, eval (.Call (.Name "range" p2) [e] [] pos2) X.env) :: starEach [] X.env := by rfl) (na2 : starEach [e] X.env = (false, eval e X.env) :: starEach [] X.env := by rfl) :
    DE X c ρ S (.Call (.Name "list" p) [.Call (.Name "range" p2) [e] [] pos2] [] pos) (.o S1.length) (S1 ++ [.l (((List.range m).map fun (i : Nat) => ((i : Nat) : Int)).map .int)]) :=
  de_of (pe_listRg hc hg hml (prg_1 hg2 hmr pe_tW na2) na) fun σ H O hs sl Q q => h σ H O hs sl _ fun v H1 O1 a1 a2 a3 => by
    cases a3
    refine ⟨_, rfl, RgOk.of_le (by omega) (by omega) (by omega) (by omega), fun pp hp => ?_⟩
    have e : rgV 0 ((m : Nat) : Int) = ((List.range m).map fun (i : Nat) => ((i : Nat) : Int)).map V.int := by
      unfold rgV
      rw [List.map_map, show (((m : Nat) : Int) - 0).toNat = m by omega]
      apply List.map_congr_left
      intro i _
      show V.int (0 + (i : Int)) = V.int (i : Int)
      rw [Int.zero_add]
    rw [e]
    refine (q.step a2).own a1 hp rfl ⟨_, upd_same, ?_⟩
    have ha : ∀ l : List Int, AtAll X.K (vw c (O ++ O1) S1 H1) (l.map V.int) (l.map .int) := fun l => by
      induction l with
      | nil => exact .nil
      | cons x l ih => exact .cons (.int x) ih
    exact ha _

/-! ### lists that are lent -/
inductive Lend : List Sl → List Ct → List Dat → List Ct → Prop
  | nil {S : List Ct} : Lend [] S [] S
  | d {x : Dat} {rs : List Sl} {S S0 : List Ct} {ds : List Dat} : Lend rs S ds S0 → Lend (.d x :: rs) S (x :: ds) S0
  | o {i : Nat} {t : Ct} {rs : List Sl} {S S0 : List Ct} {ds : List Dat} : S[i]? = some t → t.datOk = true → Lend rs (S.set i .gone) ds S0 → Lend (.o i :: rs) S (t.dat :: ds) S0
theorem Lend.go {K : PySem.W.Frag} {O : List Addr} {H : Hp} : ∀ {rs : List Sl} {S S0 : List Ct} {ds : List Dat} {vs : List V}, Lend rs S ds S0 → Hs K c O S H → VsOk K O (vw c O S H) rs vs → Hs K c O S0 H ∧ AtAll K (vw c O S0 H) vs ds ∧ RX (vw c O S H) (vw c O S0 H)
  | _, _, _, _, _, .nil, h, v => by
    have v' : _ = [] := v
    subst v'
    exact ⟨h, .nil, RX.refl _⟩
  | _, _, _, _, _, .d l, h, ⟨v, ws, e, h1, h2⟩ => by
    subst e
    obtain ⟨k1, k2, k3⟩ := Lend.go l h h2
    exact ⟨k1, .cons (At.mono k3 h1) k2, k3⟩
  | _, _, _, _, _, .o (i := i) hs hd l, h, ⟨v, ws, e, h1, h2⟩ => by
    subst e
    obtain ⟨p, e1, e2⟩ := h1
    subst e2
    have g0 := VsOk.mono (O' := []) (RX.gone (c := c) (O := O) (i := i) (H := H)) h2
    rw [List.append_nil] at g0
    obtain ⟨k1, k2, k3⟩ := Lend.go l (h.gone i) g0
    exact ⟨k1, .cons (At.mono k3 (h.goneAt e1 hs hd)) k2, RX.gone.trans k3⟩
end
end Tw
end
section
set_option Elab.async false
set_option linter.all false
set_option maxRecDepth 100000
set_option maxHeartbeats 1000000
/-! TwDict2: calls with lists that are lent; list(d), d.pop(k). -/
namespace Tw
open PySem PySem.Spec PyProof.Rows L2
open Evl (Ex)

/-! ### data of tuples alone -/
mutual
def tupD : Dat → Bool
  | .lst _ => false
  | .dic _ => false
  | .tup ds => tupDs ds
  | _ => true
def tupDs : List Dat → Bool
  | [] => true
  | d :: ds => tupD d && tupDs ds
end
theorem tupDs_all {ds : List Dat} (h : ∀ d ∈ ds, tupD d = true) : tupDs ds = true := by
  induction ds with
  | nil => rfl
  | cons d ds ih =>
    rw [tupDs, h d List.mem_cons_self, ih fun x hx => h x (List.mem_cons_of_mem _ hx)]
    rfl
/-- tuples stay -/
def TX (H H' : Hp) : Prop := ∀ a u, ((∃ xs, u = .tup xs) ∨ ∃ o v, u = .frz o v) → H a = some u → H' a = some u
section
variable {K : PySem.W.Frag} {H H' : Hp}
theorem TX.t (e : TX H H') {a : Addr} {xs : List V} (h : SqT K H a xs) : SqT K H' a xs := h.imp (fun z => by
  rcases z with z | ⟨o, z⟩
  · exact .inl (e a _ (.inl ⟨_, rfl⟩) z)
  · exact .inr ⟨o, e a _ (.inr ⟨_, _, rfl⟩) z⟩) id
mutual
theorem At.tmono (e : TX H H') : ∀ {d : Dat} {v : V}, tupD d = true → At K H v d → At K H' v d
  | .non, _, _, h => by cases h; exact .non
  | .bl _, _, _, h => by cases h; exact .bl _
  | .int _, _, _, h => by cases h; exact .int _
  | .str _, _, _, h => by cases h; exact .str _
  | .tup ds, _, t, h => by
    cases h with
    | tup a b =>
      rw [tupD] at t
      exact .tup (e.t a) (AtAll.tmono e t b)
  | .st ns, _, _, h => by
    cases h with
    | st a => exact .st (e _ _ (.inl ⟨_, rfl⟩) a)
  | .lst ds, _, t, _ => by rw [tupD] at t; cases t
  | .dic kvs, _, t, _ => by rw [tupD] at t; cases t
theorem AtAll.tmono (e : TX H H') : ∀ {ds : List Dat} {vs : List V}, tupDs ds = true → AtAll K H vs ds → AtAll K H' vs ds
  | [], _, _, h => by cases h; exact .nil
  | d :: ds, _, t, h => by
    cases h with
    | cons a b =>
      rw [tupDs, Bool.and_eq_true] at t
      exact .cons (At.tmono e t.1 a) (AtAll.tmono e t.2 b)
end
end
section
variable {K : PySem.W.Frag} {c : Cz} {O : List Addr} {S S0 : List Ct} {H H1 : Hp}
theorem Hs.frz (h : Hs K c O S H) {a : Addr} {u : HO} (hu : (∃ xs, u = .tup xs) ∨ ∃ o v, u = .frz o v) (e : H a = some u) : a ∉ live O S := fun z => by
  obtain ⟨i, t, h1, h2, h3⟩ := mem_live.mp z
  have hc := h.cell i a t h1 h2
  cases t with
  | gone => cases h3
  | l ds =>
    obtain ⟨_, x, _⟩ := hc
    rw [e] at x
    rcases hu with ⟨_, rfl⟩ | ⟨_, _, rfl⟩ <;> cases x
  | m ds =>
    obtain ⟨_, x, _⟩ := hc
    rw [e] at x
    rcases hu with ⟨_, rfl⟩ | ⟨_, _, rfl⟩ <;> cases x
  | k ds =>
    obtain ⟨_, x, _⟩ := hc
    rw [e] at x
    rcases hu with ⟨_, rfl⟩ | ⟨_, _, rfl⟩ <;> cases x
theorem Hs.tx (h : Hs K c O S H) : TX (vw c O S0 H) (vw c O S H) := fun a u hu e => by
  obtain ⟨h1, h2, _⟩ := vw_some e
  rw [vw_of h2 (h.frz hu h1)]
  exact h1
end
section
variable {X : Cx} {c : Cz} {ρ : List Sl} {S S1 S0 S2 : List Ct} {e a b o : Expr} {es : List Expr} {rs : List Sl} {ds : List Dat} {d : Dat} {x : Str} {p pos apos cpos : Pos} {k : Nat}
/-- lists of one's own are lent -/
theorem de_callJ {R : List Dat → Dat → Prop} (C : Cal X.prog X.w X.K X.mg X.base k x (spP X.K R)) (hr : Room k X.A) (hA : DA X c ρ S (e :: es) rs S1) (hl : Lend rs S1 ds S0) (hR : R ds d) (hi : Imm d = true) (hg : Gl X x := by rfl)
    (hdb : (x == ("__debug__" : Str)) = false := by decide) (he : starEach (e :: es) X.env = (false, eval e X.env) :: starEach es X.env := by rfl) (hpl : (backTo pos (starEach es X.env)).any (·.1) = false := by rfl) : DE X c ρ S (.Call (.Name x p) (e :: es) [] pos) (.d d) S1 := by
  obtain ⟨f, fd, ps, F, hm, hk, hb⟩ := C.ex
  refine de_of (pe_call F hr hg hm hk hb .nil (E := E0) pass0 pa_tW hdb he hpl) fun σ H O hs sl Q q => ?_
  refine hA σ H O hs sl _ fun vs H1 O1 a1 a2 a3 => ?_
  rw [List.append_nil]
  obtain ⟨g1, g2, g3⟩ := hl.go a1 a3
  refine ⟨hid c (O ++ O1) S0 H1, ds, d, g1.hidOk, g2.mono RX.into, hR, fun H' v f1 f2 => ?_⟩
  exact q v H' O1 (a1.ex f1) (a2.trans (RX.vw_ex f1)) (f2.imm hi)
/-- .., a new list comes back -/
theorem de_callLJ {R : List Dat → List Dat → Prop} {zs : List Dat} (C : Cal X.prog X.w X.K X.mg X.base k x (spL X.K R)) (hr : Room k X.A) (hA : DA X c ρ S (e :: es) rs S1) (hl : Lend rs S1 ds S0) (hR : R ds zs) (ht : tupDs zs = true) (hg : Gl X x := by rfl)
    (hdb : (x == ("__debug__" : Str)) = false := by decide) (he : starEach (e :: es) X.env = (false, eval e X.env) :: starEach es X.env := by rfl) (hpl : (backTo pos (starEach es X.env)).any (·.1) = false := by rfl) : DE X c ρ S (.Call (.Name x p) (e :: es) [] pos) (.o S1.length) (S1 ++ [.l zs]) := by
  obtain ⟨f, fd, ps, F, hm, hk, hb⟩ := C.ex
  refine de_of (pe_call F hr hg hm hk hb .nil (E := E0) pass0 pa_tW hdb he hpl) fun σ H O hs sl Q q => ?_
  refine hA σ H O hs sl _ fun vs H1 O1 a1 a2 a3 => ?_
  rw [List.append_nil]
  obtain ⟨g1, g2, g3⟩ := hl.go a1 a3
  refine ⟨hid c (O ++ O1) S0 H1, ds, zs, g1.hidOk, g2.mono RX.into, hR, fun H' pp xs e1 hp e2 e3 => ?_⟩
  have ex : Ex H1 (less H' pp) := fun a o h => by
    unfold less
    rw [if_neg (ne_of_none h hp)]
    exact e1 a o h
  have hl' : less H' pp pp = none := by unfold less; rw [if_pos rfl]
  have g0 := a1.ex ex
  have eu := less_upd e2
  have q2 := (q.step a2).step (O1 := []) (H1 := less H' pp) (S1 := S1) (by rw [List.append_nil]; exact RX.vw_ex ex)
  rw [List.append_nil] at q2
  have := q2.own (t := .l zs) (o := .lst xs) g0 hl' rfl ⟨xs, upd_same, ?_⟩
  · rw [eu] at this; exact this
  · refine AtAll.tmono (g0.tx (S0 := S0)) ht ?_
    refine AtAll.mono (RX.outOf g1 ex) (AtAll.mono (RX.ex fun a o h => ?_) e3)
    unfold vN at h ⊢
    by_cases hz : a = pp
    · subst hz
      rw [if_pos (by simp)] at h
      cases h
    · unfold less
      rw [if_neg hz]
      by_cases hN : hid c (O ++ O1) S0 H1 a = true
      · rw [if_pos (by show (hid c (O ++ O1) S0 H1 a || decide (a = pp)) = true; rw [hN]; rfl)] at h
        cases h
      · rw [if_neg hN]
        rw [if_neg (by show ¬ (hid c (O ++ O1) S0 H1 a || decide (a = pp)) = true; rw [decide_eq_false hz, Bool.or_false]; exact hN)] at h
        exact h
/-! ### list(d) -/
def keysD (kvs : List (List Int × Dat)) : List Dat := kvs.map fun kv => .st kv.1
theorem keys_at {K : PySem.W.Frag} {H Hm : Hp} {O : List Addr} (hs : Hs K c O S H) : ∀ {ws : List (List Key × V)} {kvs : List (List Int × Dat)} {bs : List Addr}, AtKv K Hm ws kvs → IsKeys H ws bs → AtAll K (vw c O S H) (bs.map V.ref) (keysD kvs)
  | _, _, _, .nil, h => by
    unfold IsKeys at h
    cases h
    exact .nil
  | _, _, _, .cons _ t, h => by
    unfold IsKeys at h
    cases h with
    | cons h1 h2 =>
      have h1' := h1
      rw [kI_kV] at h1'
      exact .cons (.st (hs.st h1')) (keys_at hs t h2)
theorem de_listM {kvs : List (List Int × Dat)} (hm : X.mg "list" = none) (h : DA X c ρ S (e :: es) [.o k] S1) (hk : S1[k]? = some (.m kvs)) (hc : X.calm = true := by rfl) (hg : Gl X "list" := by rfl) (he : starEach (e :: es) X.env = (false, eval e X.env) :: starEach es X.env := by rfl) (hpl : (backTo pos (starEach es X.env)).any (·.1) = false := by rfl) :
    DE X c ρ S (.Call (.Name "list" p) (e :: es) [] pos) (.d (.lst (keysD kvs))) S1 := de_callTy (call_list_dT hc) hm (by decide +kernel) h (fun vs H O hs hv Q q => by
  obtain ⟨v, e1, ⟨pp, e2, e3⟩⟩ := hv.one
  subst e3
  obtain ⟨ws, c1, c2⟩ := hs.cell k pp _ e2 hk
  refine ⟨pp, ws, e1, .inl c1, fun l bs hl hb => ?_⟩
  have ex := Ex.new (o := .lst (bs.map V.ref)) hl
  exact q.ex hs ex (.lst (.inl (.inl (vw_fresh hs hl))) ((keys_at hs c2 hb).mono (RX.vw_ex ex)))) hg (he := he) (hpl := hpl)

/-! ### d.pop(k) -/
theorem meetsPop1 {prog : Program} {w : World} {knd : HeapKind prog w (List Key)} {dd b : Addr} {kk : List Key} (hd : (dd == sysModules) = false) :
    MeetsIn prog w (Builtin.«dict.pop» ⟨[.ref dd, .ref b], []⟩) (fun A R s => ∃ xs p, knd.room A.in1 ∧ knd.is s.heap kk b ∧ s.heap.DictOfH knd dd xs ∧ xs.length ≤ sizeLine ∧
      atKey xs kk = some p ∧ ∀ h' tk, h'.DictOfH knd dd (DT.dropH xs kk) → Heap.SameBut dd s.heap h' → R (.ok (.ret p.2)) { s with heap := h', toks := tk }) :=
  .of_wp fun A R s ⟨xs, p, hu, hkey, hm, hsz, hp, hsome⟩ => by
    obtain ⟨o, es, ep, ho, hc, hdat, he, his, hn⟩ := id hm
    have hes : es.size = xs.length := size_of_entries he
    have hpart : (keyPart (Value.ref b)).isSome = false := rfl
    unfold Builtin.«dict.pop»
    refine wpAny_bind ?_
    unfold Builtin.Dict.keyAndDefault
    refine wpAny_bind (wpAny_notOrdered_dict hm.typeIs ?_)
    show wpAny _ _ (pure (dd, Value.ref b, none)) _ _ s
    refine wpAny_pure ?_
    simp only [hpart, Bool.false_eq_true, if_false]
    refine wpAny_bind (wpAny_dictEntries ho hdat (wpAny_bind (wpAny_pure ?_)))
    cases hem : es.isEmpty with
    | true =>
      have h0 : xs = [] := by
        have z : es.size = 0 := by simpa using hem
        exact List.length_eq_zero_iff.mp (by omega)
      rw [h0] at hp
      cases hp
    | false =>
      simp only [Bool.false_eq_true, if_false]
      refine wpAny_bind (DT.takeH hu hkey hm hsz (fun hno => ?_) fun p' e hp' hev h' hm' hs' => ?_)
      · rw [hp] at hno; cases hno
      · simp only [Option.isNone_some, Bool.false_eq_true, if_false]
        rw [hp] at hp'
        cases hp'
        exact wpAny_bind (wpAny_letGo (wpAny_pure ⟨e.val, rfl, by rw [hev]; exact hsome h' _ hm' hs'⟩))
def rPop1 : V → List V → Hp → VK → Prop := fun x xs H Q => ∃ (a : Addr) (kvs : List (List Key × V)) (k : List Key) (b : Addr) (v : V), x = .ref a ∧ xs = [.ref b] ∧ H a = some (.dT kvs) ∧ H b = some (.tup (k.map kV)) ∧ valV kvs k = some v ∧ Q v (upd H a (.dT (dropK kvs k)))
theorem mt_pop1 (hu : X.A.units + 64 < cLine) : MtR X "dict.pop" rPop1 := by
  intro pins s σ H x xs v us Q I rx rxs h
  obtain ⟨a, kvs, k, b, d, rfl, rfl, ha, hb, hv, q1⟩ := h
  cases rx
  obtain ⟨u1, rfl, r1⟩ := rxs.one
  cases r1
  obtain ⟨z, hd, xs', rel, dd⟩ := L2.dt_of I.hok ha
  have hz : xs'.length ≤ sizeLine := by rw [← Paired.length rel]; exact z
  have r := rel.val k
  rw [hv] at r
  obtain ⟨w', hw, rw'⟩ := RelO.some_of (v := d) (o := (atKey xs' k).map (·.2)) r
  obtain ⟨p, hp, hp2⟩ := Option.map_eq_some_iff.mp hw
  refine call_meetsIn PySem.F.slot_dict_pop dd.typeIs PySem.F.entry_dict_pop (PySem.F.args_dict_pop_2 _ _) (meetsPop1 (knd := tupleKind (mixKind X.prog X.w)) (kk := k) hd)
    ⟨xs', p, tupleKind_room_in1 (by omega), key_of I.hok hb, dd, hz, hp, fun h' tk dd' hs => ?_⟩
  obtain ⟨o, es, ep, hq, h2, h3, h4, _, h5⟩ := dd'
  have I2 : Inv X pins σ (upd H a (.dT (dropK kvs k))) { s with heap := h', toks := tk } :=
    d_write I (by rw [ha]; exact True.intro) hs ⟨o, hq⟩ ⟨Nat.le_trans (dropK_le kvs k) z, hd, _, (L2.DX.KT_drop k rel).keeps (fun c ys ec => (by rw [upd_ne (ne_of ec ha (fun z => nomatch z))]; exact ec)), o, es, ep, hq, h2, h3, h4, h5⟩
  show EP X pins σ Q p.2 _
  exact ⟨d, _, I2, by rw [hp2]; exact rw', q1⟩
theorem de_popM {kvs : List (List Int × Dat)} {ns : List Int} (hu : X.A.units + 64 < cLine) (ho : DE X c ρ S o (.o k) S1) (he : DE X c ρ S1 e (.d (.st ns)) S2) (hk1 : ∃ es, S1[k]? = some (.m es)) (hk : S2[k]? = some (.m kvs)) (hv : valD kvs ns = some d)
    (hbase : attributeBase o "pop" X.env (eval o X.env) = eval o X.env := by rfl)
    (hfew : ((backTo cpos (starEach [e] X.env)).all (fun x => !x.1) && (backToKw cpos (keywordEach [] X.env)).all (fun x => x.1.isSome) && decide (([e] : List Expr).length + ([] : List Keyword).length + (if ([] : List Keyword).isEmpty then 0 else 1) < 30)) = true := by rfl)
    (hline : (apos.endLine == cpos.line) = true := by rfl) (hs0 : starEach [e] X.env = (false, eval e X.env) :: starEach [] X.env := by rfl) (hplain : (backTo cpos (starEach [] X.env)).any (·.1) = false := by rfl) :
    DE X c ρ S (.Call (.Attribute o "pop" apos) [e] [] cpos) (.d d) (S2.set k (.m (dropD kvs ns))) :=
  de_of (pe_bm PySem.F.plainAttrs_dict PySem.F.slot_dict_pop PySem.F.type_dict_pop (mt_pop1 hu) pe_tW (pa_cons pe_tW pa_nil hs0) hbase hfew hline hs0 hplain) fun σ H O hs sl Q q => ho σ H O hs sl _ fun v H1 O1 a1 a2 a3 => by
    obtain ⟨pp, e2, e3⟩ := a3
    subst e3
    obtain ⟨es', hk1⟩ := hk1
    obtain ⟨us, c1, c2⟩ := a1.cell k pp _ e2 hk1
    refine ⟨?_, ?_⟩
    · exact .inr (.inr (.inl ⟨rfl, .inr ⟨us, c1⟩⟩))
    refine he σ H1 _ a1 (sl.mono a2) _ fun w H2 O2 b1 b2 b3 => ?_
    have e4 : (O ++ O1 ++ O2)[k]? = some pp := at_get e2
    obtain ⟨us2, d1, d2⟩ := b1.cell k pp _ e4 hk
    have b3' : At X.K _ w (.st ns) := b3
    cases b3' with
    | st e5 =>
      obtain ⟨v, f1, f2⟩ := d2.found hv
      refine ⟨pp, us2, kI ns, _, v, rfl, rfl, d1, by rw [kI_kV]; exact vw_le.tp _ _ e5, f1, ?_⟩
      have g1 : Hs X.K c (O ++ O1 ++ O2) (S2.set k (.m (dropD kvs ns))) (upd H2 pp (.dT (dropK us2 (kI ns)))) := b1.set e4 hk rfl rfl ⟨_, upd_same, d2.drop ns⟩
      have gv : vw c (O ++ O1 ++ O2) (S2.set k (.m (dropD kvs ns))) (upd H2 pp (.dT (dropK us2 (kI ns)))) = vw c (O ++ O1 ++ O2) S2 H2 := vw_set e4 hk rfl rfl
      have q2 := (q.step a2).step b2
      exact q2.go g1 (by rw [gv]; exact RX.refl _) (by rw [gv]; exact f2)
end
end Tw
end
section
set_option Elab.async false
set_option linter.all false
set_option maxRecDepth 100000
set_option maxHeartbeats 1000000
/-! TwWalk: dicts that are walked: locked all the while. -/
namespace Tw
open PySem PySem.Spec PyProof.Rows L2
open Evl (Ex)

/-! ### the values of a dict with keys that are tuples -/
def Itdt (d : Addr) (o : Obj) (kvs : List (List Key × V)) : It :=
  ⟨fun i H => H d = some (.frz o (.dT kvs)) ∧ i < kvs.length, fun i H x H' => H' = H ∧ ∃ k, kvs[i]? = some (k, x), fun i H => H d = some (.frz o (.dT kvs)) ∧ kvs.length ≤ i⟩
theorem frzTv {X : Cx} {pins : List (Addr × Obj)} {σ : L2.St} {H : Hp} {s : Shared} {d : Addr} {o : Obj} {kvs : List (List Key × V)} (I : Inv X pins σ H s) (h : H d = some (.frz o (.dT kvs))) :
    (d == sysModules) = false ∧ s.heap.get? d = some o ∧ o.ExactDict ∧ ∃ (es : Array DictEntry) (ep : Nat), o.data = .dict es ep ∧ es.size = kvs.length ∧ ∀ (i : Nat) (k : List Key) (v : V), kvs[i]? = some (k, v) → ∃ (en : DictEntry), es[i]? = some en ∧ RelV v en.val := by
  obtain ⟨hd, z, hs, xs, pr, o', es, ep, ho, hx, hdt, he, _⟩ := I.hok d _ h
  rw [hd] at ho
  cases ho
  refine ⟨hs, hd, hx, es, ep, hdt, ?_, fun i k v e => ?_⟩
  · have l1 : es.size = xs.length := size_of_entries he
    have l2 : kvs.length = xs.length := Paired.length pr
    omega
  · obtain ⟨b, hb, e1, e2, e3⟩ := paired_get pr e
    have q := entry_at he i
    rw [hb] at q
    exact ⟨_, q, e3⟩
section
variable {P : Program} {w : World} {K : PySem.W.Frag} {tg : Expr} {d : Addr} {o : Obj} {es : Array DictEntry} {ep : Nat}
theorem turn_valsT {kvs : List (List Key × V)} (it : Addr) (hod : o.data = .dict es ep) : Turn P w K tg (Itdt d o kvs) [it] it (fun i h => h.IsValIter it d i kvs.length ep) where
  mem := by simp
  obj := fun i h st b hb => by
    have e : b = it := by simpa using hb
    subst e
    obtain ⟨oi, e, c, dd⟩ := st
    exact ⟨oi, e, fun v z => by rw [dd] at z; cases z⟩
  keep := fun i h h' st k => st.at fun oi e => k it (by simp) oi e
  item := by
    intro X hP hw hK hc i pins s σ H E I hf st hg
    subst hP hw hK
    obtain ⟨hd, hi⟩ := hg
    obtain ⟨f0, f1, f2, f3, f4, f5⟩ := hf it (by simp)
    obtain ⟨hs, hgd, hx, es', ep', hdt, hsz, ent⟩ := frzTv I hd
    obtain ⟨rfl, rfl⟩ := dict_ep hod hdt
    obtain ⟨⟨k, v⟩, hkv⟩ : ∃ p, kvs[i]? = some p := ⟨kvs[i], List.getElem?_eq_getElem hi⟩
    obtain ⟨en, hen, ru⟩ := ent i k v hkv
    rw [← hsz] at st
    have hi2 : i < es'.size := by omega
    have een : es'[i] = en := by
      rw [Array.getElem?_eq_getElem hi2] at hen
      exact Option.some.inj hen
    refine wpAny_pyNext_values_item_raw st ⟨o, hgd, hx, hdt⟩ hi2 fun h' st' sb => ?_
    have I1 : Inv X pins σ H { s with heap := h' } := I.turned (t' := s.toks) (fun b ob hb e => (sb.2 b hb).trans e) f0 f1 f3 f4 f5
    obtain ⟨oi, e, c, dd⟩ := id st'
    refine ⟨_, rfl, go_of (s := { s with heap := h' }) e c dd (by decide) ⟨v, H, I1, by rw [een]; exact ru, ⟨rfl, k, hkv⟩, ?_, fun b hb => (hf b hb).1⟩⟩
    show h'.IsValIter it d (i + 1) kvs.length _
    rw [← hsz]
    exact st'
  done := by
    intro X hP hw hK hc i pins s σ H E I hf st hg
    subst hP hw hK
    obtain ⟨hd, hi⟩ := hg
    obtain ⟨f0, f1, f2, f3, f4, f5⟩ := hf it (by simp)
    obtain ⟨hs, hgd, hx, es', ep', hdt, hsz, ent⟩ := frzTv I hd
    obtain ⟨rfl, rfl⟩ := dict_ep hod hdt
    rw [← hsz] at st
    exact wpAny_pyNext_values_end_raw (I.ok.hd hc) st ⟨o, hgd, hx, hdt⟩ (by omega) fun h' eb => ⟨rfl, I.turned (t' := s.toks) (fun b ob hb e => eb b ob hb e) f0 f1 f3 f4 f5⟩
  self := fun A i s Q E st h => wpAny_pyIter_valiter st h
end
def iValsT (td : TE) : TI := fun σ H R => td σ H fun x H1 => ∃ d o kvs, x = .ref d ∧ H1 d = some (.frz o (.dT kvs)) ∧ R (Itdt d o kvs) H1
theorem pi_valuesT {X : Cx} {tg e : Expr} {td : TE} {apos cpos : Pos} (he : PE X e td) (hbase : attributeBase e "values" X.env (eval e X.env) = eval e X.env := by rfl) (hline : (apos.endLine == cpos.line) = true := by rfl) : PI X tg (.Call (.Attribute e "values" apos) [] [] cpos) (iValsT td) := by
  refine ⟨fun pins s σ H R I h => ?_⟩
  refine wpAny_Call_method (T := "dict") (id := "dict.values") hbase rfl hline F.plainAttrs_dict F.slot_dict_values F.type_dict_values (thn (he.run pins s σ H _ I h) fun u s1 ⟨x, H1, I1, rx, d, o, kvs, ex, hd, q⟩ => ?_)
  subst ex
  obtain rfl : u = Value.ref d := rx
  obtain ⟨hs, hgd, hx, es, ep, hdt, hsz, ent⟩ := frzTv I1 hd
  have raw : s1.heap.DictRaw d es ep := ⟨o, hgd, hx, hdt⟩
  refine ⟨raw.typeIs, fun b hb => ⟨o, by cases hb; exact hgd, hx.2.1⟩, ?_⟩
  have I2 : Inv X pins σ H1 { s1 with heap := s1.heap.push { cls := .type "dict_values", data := .fields #[.ref d] } } := I1.kept (t' := s1.toks) fun b ob q => Heap.get?_push_of_some _ q
  have fin : wpAny (model X.prog X.w) X.A (pyIter (.ref s1.heap.objs.size)) (PIE X pins σ tg R) X.xe { s1 with heap := s1.heap.push { cls := .type "dict_values", data := .fields #[.ref d] } } := by
    refine wpAny_pyIter_values_raw (d := d) (es := es) (ep := ep) ⟨_, Heap.get?_push_size _ rfl, rfl, rfl⟩ (raw.at fun o e => Heap.get?_push_of_some _ e) (pi_one (tk := s1.toks) I2 _ (turn_valsT _ hdt) ⟨_, Heap.get?_push_size _ rfl, rfl, ?_⟩ q)
    rw [hsz] <;> rfl
  show wpAny _ _ (callWith cpos (.builtin "dict.values") [.ref d] [] []) _ X.xe s1
  exact method_meetsIn F.slot_dict_values F.entry_dict_values rfl (PySem.evalArgs_none ⟨rfl, raw.typeIs, F.args_dict_values_1 _, _, meets_dict_values_raw d hs, ⟨es, ep, raw⟩, fin⟩)

/-! ### locked -/
def cF (c : Cz) (a : Addr) (od : Obj) (u : HO) : Cz := ⟨fun H => H a = some (.frz od u) ∧ c.φ (upd H a u), c.N, fun b => c.B b || decide (b = a)⟩
section
variable {K : PySem.W.Frag} {c : Cz} {O : List Addr} {S : List Ct} {H : Hp} {a : Addr} {od : Obj} {u : HO}
theorem upd_comm {H : Hp} {a b : Addr} {o p : HO} (h : a ≠ b) : upd (upd H a o) b p = upd (upd H b p) a o := by
  funext x
  by_cases e : x = b
  · subst e
    rw [upd_same, upd_ne (Ne.symm h), upd_same]
  · rw [upd_ne e]
    by_cases e2 : x = a
    · subst e2; rw [upd_same, upd_same]
    · rw [upd_ne e2, upd_ne e2, upd_ne e]
theorem cF_ok (h : c.Ok) : (cF c a od u).Ok := by
  refine ⟨fun H H' p e => ⟨e a _ p.1, h.ex _ _ p.2 fun b o hb => ?_⟩, fun H q p hq => ?_, fun p hp H o q => ?_, fun H q p hN xs hq => ?_⟩
  · by_cases z : b = a
    · subst z; rw [upd_same] at hb ⊢; exact hb
    · rw [upd_ne z] at hb ⊢; exact e b o hb
  · have ne : q ≠ a := fun z => by
      subst z
      have := p.1
      rw [hq] at this; cases this
    obtain ⟨f1, f2⟩ := h.fr _ q p.2 (by rw [upd_ne ne]; exact hq)
    exact ⟨f1, by show (c.B q || decide (q = a)) = false; rw [f2, decide_eq_false ne]; rfl⟩
  · have hp' : (c.B p || decide (p = a)) = false := hp
    rw [Bool.or_eq_false_iff, decide_eq_false_iff_not] at hp'
    refine ⟨by rw [upd_ne (Ne.symm hp'.2)]; exact q.1, ?_⟩
    rw [upd_comm hp'.2]
    exact h.up p hp'.1 _ o q.2
  · have ne : q ≠ a := fun z => by
      subst z
      have := p.1
      rw [hq] at this; cases this
    exact h.nt _ q p.2 hN xs (by rw [upd_ne ne]; exact hq)
theorem vwF : ∀ b, vw (cF c a od u) O S H b = vw c O S H b := fun b => rfl
theorem RX.lockd (e : H a = some u) (hu : NF u) (ht : ∀ xs, u ≠ .tup xs) : RX (vw c O S H) (vw (cF c a od u) O S (upd H a (.frz od u))) := by
  have same : ∀ b o, b ≠ a → vw c O S H b = some o → vw (cF c a od u) O S (upd H a (.frz od u)) b = some o := fun b o ne h => by
    obtain ⟨h1, h2, h3⟩ := vw_some h
    have : vw (cF c a od u) O S (upd H a (.frz od u)) b = upd H a (.frz od u) b := vw_of h2 h3
    rw [this, upd_ne ne]
    exact h1
  refine ⟨fun b w nf h => ?_, fun b xs h => ?_⟩
  · by_cases z : b = a
    · subst z
      rcases h with h | ⟨o, h⟩
      · obtain ⟨h1, h2, h3⟩ := vw_some h
        rw [e] at h1
        cases h1
        refine .inr ⟨od, ?_⟩
        have : vw (cF c b od u) O S (upd H b (.frz od u)) b = upd H b (.frz od u) b := vw_of h2 h3
        rw [this, upd_same]
      · obtain ⟨h1, _, _⟩ := vw_some h
        rw [e] at h1
        cases h1
        exact hu.elim
    · rcases h with h | ⟨o, h⟩
      · exact .inl (same b _ z h)
      · exact .inr ⟨o, same b _ z h⟩
  · refine same b _ (fun z => ?_) h
    subst z
    obtain ⟨h1, _, _⟩ := vw_some h
    rw [e] at h1
    cases h1
    exact ht _ rfl
theorem RX.unlockd (e : H a = some (.frz od u)) : RX (vw (cF c a od u) O S H) (vw c O S (upd H a u)) := by
  have same : ∀ b o, b ≠ a → vw (cF c a od u) O S H b = some o → vw c O S (upd H a u) b = some o := fun b o ne h => by
    obtain ⟨h1, h2, h3⟩ := vw_some h
    have : vw c O S (upd H a u) b = upd H a u b := vw_of h2 h3
    rw [this, upd_ne ne]
    exact h1
  refine ⟨fun b w nf h => ?_, fun b xs h => ?_⟩
  · by_cases z : b = a
    · subst z
      rcases h with h | ⟨o, h⟩
      · obtain ⟨h1, _, _⟩ := vw_some h
        rw [e] at h1
        cases h1
        exact nf.elim
      · obtain ⟨h1, h2, h3⟩ := vw_some h
        rw [e] at h1
        cases h1
        refine .inl ?_
        have : vw c O S (upd H b u) b = upd H b u b := vw_of h2 h3
        rw [this, upd_same]
    · rcases h with h | ⟨o, h⟩
      · exact .inl (same b _ z h)
      · exact .inr ⟨o, same b _ z h⟩
  · refine same b _ (fun z => ?_) h
    subst z
    obtain ⟨h1, _, _⟩ := vw_some h
    rw [e] at h1
    cases h1
theorem Hs.lockd (h : Hs K c O S H) (e : H a = some u) (hu : NF u) (ht : ∀ xs, u ≠ .tup xs) (na : a ∉ live O S) : Hs K (cF c a od u) O S (upd H a (.frz od u)) := by
  have ne : ∀ (i : Nat) (p : Addr) (t : Ct), O[i]? = some p → S[i]? = some t → t.live = true → p ≠ a := fun i p t h1 h2 h3 z => by
    subst z
    exact na (mem_live.mpr ⟨i, t, h1, h2, h3⟩)
  refine ⟨cF_ok h.ok, ⟨upd_same, ?_⟩, h.len, h.nd, fun i p t h1 h2 => (h.cell i p t h1 h2).mono (RX.lockd e hu ht) fun hl => upd_ne (ne i p t h1 h2 hl), fun i p t h1 h2 h3 => ?_⟩
  · have : upd (upd H a (.frz od u)) a u = H := by
      funext b
      by_cases z : b = a
      · subst z; rw [upd_same]; exact e.symm
      · rw [upd_ne z, upd_ne z]
    rw [this]
    exact h.ph
  · obtain ⟨o1, o2⟩ := h.own i p t h1 h2 h3
    exact ⟨o1, by show (c.B p || decide (p = a)) = false; rw [o2, decide_eq_false (ne i p t h1 h2 h3)]; rfl⟩
theorem Hs.unlockd (h : Hs K (cF c a od u) O S H) (ok : c.Ok) : Hs K c O S (upd H a u) := by
  have sp : ∀ (i : Nat) (p : Addr) (t : Ct), O[i]? = some p → S[i]? = some t → t.live = true → c.N p = false ∧ c.B p = false ∧ p ≠ a := fun i p t h1 h2 h3 => by
    obtain ⟨o1, o2⟩ := h.own i p t h1 h2 h3
    have o2' : (c.B p || decide (p = a)) = false := o2
    rw [Bool.or_eq_false_iff, decide_eq_false_iff_not] at o2'
    exact ⟨o1, o2'.1, o2'.2⟩
  refine ⟨ok, h.ph.2, h.len, h.nd, fun i p t h1 h2 => (h.cell i p t h1 h2).mono (RX.unlockd h.ph.1) fun hl => upd_ne (sp i p t h1 h2 hl).2.2, fun i p t h1 h2 h3 => ⟨(sp i p t h1 h2 h3).1, (sp i p t h1 h2 h3).2.1⟩⟩
end
/-- what comes while it is locked is what comes -/
theorem SlOk.mono0 {K : PySem.W.Frag} {O : List Addr} {Hm Hm' : Hp} {ρ : List Sl} {σ : L2.St} (e : RX Hm Hm') (h : SlOk K O Hm ρ σ) : SlOk K O Hm' ρ σ := by
  have := h.mono (O' := []) e
  rw [List.append_nil] at this
  exact this
theorem AtKv.get {K : PySem.W.Frag} {H : Hp} : ∀ {ws : List (List Key × V)} {kvs : List (List Int × Dat)} {i : Nat} {k : List Key} {v : V}, AtKv K H ws kvs → ws[i]? = some (k, v) → ∃ ns d, kvs[i]? = some (ns, d) ∧ k = kI ns ∧ At K H v d
  | _, _, i, k, v, .nil, e => by simp at e
  | _, _, 0, k, v, .cons h _, e => by
    simp at e
    obtain ⟨rfl, rfl⟩ := e
    exact ⟨_, _, rfl, rfl, h⟩
  | _, _, i + 1, k, v, .cons _ t, e => by
    obtain ⟨ns, d, h1, h2, h3⟩ := AtKv.get (i := i) t (by simpa using e)
    exact ⟨ns, d, by simpa using h1, h2, h3⟩
def valsD (kvs : List (List Int × Dat)) : List Dat := kvs.map (·.2)
section
variable {K : PySem.W.Frag} {c : Cz} {O : List Addr} {S : List Ct} {H Hm : Hp} {a : Addr} {od : Obj} {ws : List (List Key × V)} {kvs : List (List Int × Dat)}
theorem walk_keysT (hφ : ∀ H, c.φ H → H a = some (.frz od (.dT ws))) (h : AtKv K (vw c O S H) ws kvs) : Walk K c (Itkt a od ws) (keysD kvs) O S H := fun c' O' S' H' h0 h1 h2 => by
  have e := hφ H' (h0 H' h1.ph)
  have hl : (keysD kvs).length = ws.length := by unfold keysD; rw [List.length_map, h.length]
  refine ⟨fun i hi => ⟨e, by omega⟩, ⟨e, by omega⟩, fun i x H'' d hd hy => ?_⟩
  obtain ⟨rfl, k, v, q, hk, rfl, hq⟩ := hy
  obtain ⟨ns, d', g1, g2, _⟩ := h.get hk
  unfold keysD at hd
  rw [List.getElem?_map, g1] at hd
  cases hd
  refine ⟨Ex.refl _, .st ?_⟩
  rw [g2, kI_kV] at hq
  exact h1.st hq
theorem walk_valsT (hφ : ∀ H, c.φ H → H a = some (.frz od (.dT ws))) (h : AtKv K (vw c O S H) ws kvs) : Walk K c (Itdt a od ws) (valsD kvs) O S H := fun c' O' S' H' h0 h1 h2 => by
  have e := hφ H' (h0 H' h1.ph)
  have hl : (valsD kvs).length = ws.length := by unfold valsD; rw [List.length_map, h.length]
  refine ⟨fun i hi => ⟨e, by omega⟩, ⟨e, by omega⟩, fun i x H'' d hd hy => ?_⟩
  obtain ⟨rfl, k, hk⟩ := hy
  obtain ⟨ns, d', g1, g2, g3⟩ := (h.mono h2).get hk
  unfold valsD at hd
  rw [List.getElem?_map, g1] at hd
  cases hd
  exact ⟨Ex.refl _, g3⟩
end
section
variable {X : Cx} {c : Cz} {ρ : List Sl} {S S1 : List Ct} {e tg iter elt : Expr} {pos p apos cpos : Pos} {scope : Scope} {own : List (Str × Nat)} {T : Tg} {kvs : List (List Int × Dat)} {x : Str} {st : Stmt} {body : List Stmt} {D : De}
theorem pe_or {t t' : TE} (h : PE X e t) (h' : PE X e t') : PE X e (fun σ H Q => t σ H Q ∨ t' σ H Q) := ⟨fun pins s σ H Q I q => q.elim (h.run pins s σ H Q I) (h'.run pins s σ H Q I)⟩
theorem ps_or {t t' : TS} (h : PS X st t) (h' : PS X st t') : PS X st (fun E σ H => t E σ H ∨ t' E σ H) := ⟨fun pins s σ H E I q => q.elim (h.run pins s σ H E I) (h'.run pins s σ H E I)⟩
/-- it is locked already -/
def cG (c : Cz) (a : Addr) (od : Obj) (u : HO) : Cz := ⟨fun H => H a = some (.frz od u) ∧ c.φ H, c.N, fun b => c.B b || decide (b = a)⟩
theorem cG_ok {a : Addr} {od : Obj} {u : HO} (h : c.Ok) : (cG c a od u).Ok := by
  refine ⟨fun H H' p e => ⟨e a _ p.1, h.ex _ _ p.2 e⟩, fun H q p hq => ?_, fun p hp H o q => ?_, fun H q p hN xs hq => h.nt _ q p.2 hN xs hq⟩
  · have ne : q ≠ a := fun z => by
      subst z
      have := p.1
      rw [hq] at this; cases this
    obtain ⟨f1, f2⟩ := h.fr _ q p.2 hq
    exact ⟨f1, by show (c.B q || decide (q = a)) = false; rw [f2, decide_eq_false ne]; rfl⟩
  · have hp' : (c.B p || decide (p = a)) = false := hp
    rw [Bool.or_eq_false_iff, decide_eq_false_iff_not] at hp'
    exact ⟨by rw [upd_ne (Ne.symm hp'.2)]; exact q.1, h.up p hp'.1 _ o q.2⟩
theorem Hs.toG {K : PySem.W.Frag} {O : List Addr} {H : Hp} {a : Addr} {od : Obj} {u : HO} (h : Hs K c O S H) (e : H a = some (.frz od u)) : Hs K (cG c a od u) O S H := by
  have na := h.frz (.inr ⟨_, _, rfl⟩) e
  refine ⟨cG_ok h.ok, ⟨e, h.ph⟩, h.len, h.nd, h.cell, fun i p t h1 h2 h3 => ?_⟩
  obtain ⟨o1, o2⟩ := h.own i p t h1 h2 h3
  have ne : p ≠ a := fun z => by
    subst z
    exact na (mem_live.mpr ⟨i, t, h1, h2, h3⟩)
  exact ⟨o1, by show (c.B p || decide (p = a)) = false; rw [o2, decide_eq_false ne]; rfl⟩
theorem Hs.ofG {K : PySem.W.Frag} {O : List Addr} {H : Hp} {a : Addr} {od : Obj} {u : HO} (h : Hs K (cG c a od u) O S H) (ok : c.Ok) : Hs K c O S H := by
  refine ⟨ok, h.ph.2, h.len, h.nd, h.cell, fun i p t h1 h2 h3 => ?_⟩
  obtain ⟨o1, o2⟩ := h.own i p t h1 h2 h3
  have o2' : (c.B p || decide (p = a)) = false := o2
  rw [Bool.or_eq_false_iff] at o2'
  exact ⟨o1, o2'.1⟩
/-- a dict that is read only is locked, or it is so already -/
theorem lock_read {K : PySem.W.Frag} {O : List Addr} {S' : List Ct} {r : Sl} {H : Hp} {t : TE} {Q : VK} {σ : L2.St} {v : V} (hs : Hs K c O S H) (hv : At K (vw c O S H) v (.dic kvs)) (q : PostE K c O S H S' r Q)
    (h : ∀ (a : Addr) (ws : List (List Key × V)) (od : Obj) (c' : Cz) (H1 : Hp), v = .ref a → (∀ H, c'.φ H → H a = some (.frz od (.dT ws))) → AtKv K (vw c' O S H1) ws kvs → Hs K c' O S H1 → RX (vw c O S H) (vw c' O S H1) → ∀ Q', PostE K c' O S H1 S' r Q' → t σ H1 Q') : tLockE t σ H Q ∨ t σ H Q := by
  cases hv with
  | dic h1 h2 =>
    rename_i a ws
    rcases h1 with h1 | ⟨od, h1⟩
    · obtain ⟨e1, e2, e3⟩ := vw_some h1
      refine .inl ⟨a, .dT ws, e1, trivial, fun od => ?_⟩
      have rx := RX.lockd (c := c) (O := O) (S := S) (od := od) e1 trivial nofun
      refine h a ws od (cF c a od (.dT ws)) _ rfl (fun H hp => hp.1) (h2.mono rx) (hs.lockd e1 trivial nofun e3) rx _ fun u H' O' g1 g2 g3 => ?_
      have ru := RX.unlockd (c := c) (O := O ++ O') (S := S') g1.ph.1
      exact ⟨g1.ph.1, q u _ O' (g1.unlockd hs.ok) ((rx.trans g2).trans ru) (g3.mono0 ru)⟩
    · obtain ⟨e1, e2, e3⟩ := vw_some h1
      refine .inr (h a ws od (cG c a od (.dT ws)) H rfl (fun H hp => hp.1) h2 (hs.toG e1) (RX.refl _) _ fun u H' O' g1 g2 g3 => ?_)
      exact q u _ O' (g1.ofG hs.ok) g2 g3
theorem lockS_read {K : PySem.W.Frag} {O : List Addr} {H : Hp} {t : TS} {E : Ends} {σ : L2.St} {v : V} (hs : Hs K c O S H) (hv : At K (vw c O S H) v (.dic kvs)) (q : PostS K c O S H D E)
    (h : ∀ (a : Addr) (ws : List (List Key × V)) (od : Obj) (c' : Cz) (H1 : Hp), v = .ref a → (∀ H, c'.φ H → H a = some (.frz od (.dT ws))) → AtKv K (vw c' O S H1) ws kvs → Hs K c' O S H1 → RX (vw c O S H) (vw c' O S H1) → ∀ E', PostS K c' O S H1 D E' → t E' σ H1) : tLock t E σ H ∨ t E σ H := by
  cases hv with
  | dic h1 h2 =>
    rename_i a ws
    rcases h1 with h1 | ⟨od, h1⟩
    · obtain ⟨e1, e2, e3⟩ := vw_some h1
      refine .inl ⟨a, .dT ws, e1, trivial, fun od => ?_⟩
      have rx := RX.lockd (c := c) (O := O) (S := S) (od := od) e1 trivial nofun
      have fN : ∀ {N : List Sl → List Ct → Prop} {Q : L2.St → Hp → Prop}, PostN K c O S H N Q → PostN K (cF c a od (.dT ws)) O S (upd H a (.frz od (.dT ws))) N fun σ' H' => H' a = some (.frz od (.dT ws)) ∧ Q σ' (upd H' a (.dT ws)) := fun {N Q} q ρ' S' σ' H' O' n g1 g2 g3 => by
        have ru := RX.unlockd (c := c) (O := O ++ O') (S := S') g1.ph.1
        exact ⟨g1.ph.1, q ρ' S' σ' _ O' n (g1.unlockd hs.ok) (g2.mono0 ru) ((rx.trans g3).trans ru)⟩
      refine h a ws od (cF c a od (.dT ws)) _ rfl (fun H hp => hp.1) (h2.mono rx) (hs.lockd e1 trivial nofun e3) rx _ ⟨fN q.nx, fun r S' u H' O' n g1 g2 g3 => ?_, fN q.bk, fN q.ct⟩
      have ru := RX.unlockd (c := c) (O := O ++ O') (S := S') g1.ph.1
      exact ⟨g1.ph.1, q.rt r S' u _ O' n (g1.unlockd hs.ok) ((rx.trans g2).trans ru) (g3.mono0 ru)⟩
    · obtain ⟨e1, e2, e3⟩ := vw_some h1
      refine .inr (h a ws od (cG c a od (.dT ws)) H rfl (fun H hp => hp.1) h2 (hs.toG e1) (RX.refl _) _ ⟨fun ρ' S' σ' H' O' n g1 g2 g3 => q.nx ρ' S' σ' H' O' n (g1.ofG hs.ok) g2 g3, fun r S' u H' O' n g1 g2 g3 => q.rt r S' u H' O' n (g1.ofG hs.ok) g2 g3,
        fun ρ' S' σ' H' O' n g1 g2 g3 => q.bk ρ' S' σ' H' O' n (g1.ofG hs.ok) g2 g3, fun ρ' S' σ' H' O' n g1 g2 g3 => q.ct ρ' S' σ' H' O' n (g1.ofG hs.ok) g2 g3⟩)
theorem one_nil {K : PySem.W.Frag} {O : List Addr} {H : Hp} {c : Cz} {S : List Ct} {J : It} {ys : List Dat} {R : It → Hp → Prop} (hs : Hs K c O S H) (w : Walk K c J ys O S H) (hR : ∀ J H1 O1, Hs K c (O ++ O1) S H1 → RX (vw c O S H) (vw c (O ++ O1) S H1) → Walk K c J ys (O ++ O1) S H1 → R J H1) : R J H :=
  hR J H [] (by rw [List.append_nil]; exact hs) (by rw [List.append_nil]; exact RX.refl _) (by rw [List.append_nil]; exact w)
/-- [.. for k in d], d a name -/
theorem de_lcKeys (j : Nat) (zs : List Dat) (own : List (Str × Nat)) (T : Tg) (hr : ρ[j]? = some (.d (.dic kvs))) (hN : X.N.Nodup) (ok : BlkOk X.N X.env.scope scope own) (hg : EltP X scope fun Y => PG Y tg (T.g Y.K)) (L : LcM X ρ elt scope own T (keysD kvs) zs (fun _ => S))
    (hc : X.calm = true := by rfl) (hNj : X.N[j]? = some x := by rfl) (hv : Vis X.env.scope x := by first | exact Or.inl rfl | exact Or.inr (Or.inl rfl) | exact Or.inr (Or.inr rfl))
    (hd : (x == ("__debug__" : Str)) = false := by decide) (hcd : (x == ("__classdict__" : Str)) = false := by decide) (hs0 : ∀ y, foldedSetIterable (.Name x p) X.env y = pure y := by intro _; rfl) :
    DE X c ρ S (.ListComp elt [⟨tg, .Name x p, [], 0⟩] scope pos) (.d (.lst zs)) S := by
  have PL := pe_lc (X := X) (pos := pos) (elt := elt) (g := T.g X.K) hc hN (pi_keys (tg := tg) (pe_var (pos := p) hNj hv hd hcd)) ok (fun s H C cl fp => hg s H C cl fp) (pts_elt (ifs := [])) (pe_elt (ifs := [])) hs0
  refine de_of (pe_or (pe_lock PL) PL) fun σ H O hs sl Q q => ?_
  obtain ⟨v, e1, e2⟩ := sl.at' j _ hr nofun
  refine lock_read hs e2 q fun a ws od c' H1 ev hφ hkv hs' rx Q' q' => ?_
  subst ev
  have e := kept_zs zs
  rw [L.eq] at e
  refine lc_read L.ok hs' (sl.mono0 rx) (fun R hR => ?_) ?_
  · exact ⟨_, e1, a, od, rfl, .inr ⟨ws, hφ H1 hs'.ph, one_nil hs' (walk_keysT hφ hkv) hR⟩⟩
  · rw [e]
    exact lc_dat (Sf := fun _ => S) (n := (keysD kvs).length) (σ := σ) hs' q'
/-- [.. for v in d.values()], d a name -/
theorem de_lcVals (j : Nat) (zs : List Dat) (own : List (Str × Nat)) (T : Tg) (hr : ρ[j]? = some (.d (.dic kvs))) (hN : X.N.Nodup) (ok : BlkOk X.N X.env.scope scope own) (hg : EltP X scope fun Y => PG Y tg (T.g Y.K)) (L : LcM X ρ elt scope own T (valsD kvs) zs (fun _ => S))
    (hc : X.calm = true := by rfl) (hNj : X.N[j]? = some x := by rfl) (hv : Vis X.env.scope x := by first | exact Or.inl rfl | exact Or.inr (Or.inl rfl) | exact Or.inr (Or.inr rfl))
    (hd : (x == ("__debug__" : Str)) = false := by decide) (hcd : (x == ("__classdict__" : Str)) = false := by decide) (hbase : attributeBase (.Name x p) "values" X.env (eval (.Name x p) X.env) = eval (.Name x p) X.env := by rfl) (hline : (apos.endLine == cpos.line) = true := by rfl)
    (hs0 : ∀ y, foldedSetIterable (.Call (.Attribute (.Name x p) "values" apos) [] [] cpos) X.env y = pure y := by intro _; rfl) :
    DE X c ρ S (.ListComp elt [⟨tg, .Call (.Attribute (.Name x p) "values" apos) [] [] cpos, [], 0⟩] scope pos) (.d (.lst zs)) S := by
  have PL := pe_lc (X := X) (pos := pos) (elt := elt) (g := T.g X.K) hc hN (pi_valuesT (tg := tg) (apos := apos) (cpos := cpos) (pe_var (pos := p) hNj hv hd hcd) hbase hline) ok (fun s H C cl fp => hg s H C cl fp) (pts_elt (ifs := [])) (pe_elt (ifs := [])) hs0
  refine de_of (pe_or (pe_lock PL) PL) fun σ H O hs sl Q q => ?_
  obtain ⟨v, e1, e2⟩ := sl.at' j _ hr nofun
  refine lock_read hs e2 q fun a ws od c' H1 ev hφ hkv hs' rx Q' q' => ?_
  subst ev
  have e := kept_zs zs
  rw [L.eq] at e
  refine lc_read L.ok hs' (sl.mono0 rx) (fun R hR => ?_) ?_
  · exact ⟨_, e1, a, od, ws, rfl, hφ H1 hs'.ph, one_nil hs' (walk_valsT hφ hkv) hR⟩
  · rw [e]
    exact lc_dat (Sf := fun _ => S) (n := (valsD kvs).length) (σ := σ) hs' q'
/-- for k in d, d a name -/
theorem ds_forKeys (j : Nat) {T : Tg} (hr : ρ[j]? = some (.d (.dic kvs))) (hg : PG X tg (T.g X.K)) (I : Nat → List Sl → List Ct → Prop) (hS : ∀ i ρ' S', I i ρ' S' → S.length ≤ S'.length) (h0 : IN I 0 ρ S)
    (turn : ∀ (c : Cz) i d ρ' S', (keysD kvs)[i]? = some d → I i ρ' S' → ∃ ρ2, T.St d ρ' ρ2 ∧ DSs X c ρ2 S' body { D with nx := IN I (i + 1), ct := IN I (i + 1), bk := D.nx }) (hd : ∀ ρ' S', I (keysD kvs).length ρ' S' → D.nx ρ' S')
    (hp : PassesOwn (model X.prog X.w) X.A X.env X.xe := by exact PassesOwn.never) (hc : X.calm = true := by rfl) (hNj : X.N[j]? = some x := by rfl) (hv : Vis X.env.scope x := by first | exact Or.inl rfl | exact Or.inr (Or.inl rfl) | exact Or.inr (Or.inr rfl))
    (hdb : (x == ("__debug__" : Str)) = false := by decide) (hcd : (x == ("__classdict__" : Str)) = false := by decide) (hs0 : ∀ y, foldedSetIterable (.Name x p) X.env y = pure y := by intro _; rfl) : DS X c ρ S (.For tg (.Name x p) body [] pos) D := by
  have PL := ps_for (X := X) (pos := pos) (body := body) hp hc (pi_keys (tg := tg) (pe_var (pos := p) hNj hv hdb hcd)) hg pss_tW hs0
  refine ds_of (ps_or (ps_lock PL) PL) fun σ H O hs sl E q => ?_
  obtain ⟨v, e1, e2⟩ := sl.at' j _ hr nofun
  refine lockS_read hs e2 q fun a ws od c' H1 ev hφ hkv hs' rx E' q' => ?_
  subst ev
  refine for_read hs' (sl.mono0 rx) (fun R hR => ?_) I hS h0 (turn c') hd q'
  exact ⟨_, e1, a, od, rfl, .inr ⟨ws, hφ H1 hs'.ph, one_nil hs' (walk_keysT hφ hkv) hR⟩⟩
end
end Tw
end
section
set_option Elab.async false
set_option linter.all false
set_option maxRecDepth 100000
set_option maxHeartbeats 1000000
/-! TwZip: zip of two lists as an argument: dict(zip(..)). -/
namespace Tw
open PySem PySem.Spec PyProof.Rows L2
open Evl (Ex)

/-- what zip of the lists at l1, l2 has laid -/
def ZipAt (h : Heap) (z TI TO i1 i2 l1 l2 : Addr) (xs ys : Array Value) : Prop := IsZip h z TI TO .none ∧ PySem.IsPair h TI (.ref i1) (.ref i2) ∧ (∃ a b, PySem.IsPair h TO a b) ∧ h.IsListIter i1 l1 0 ∧ h.IsListIter i2 l2 0 ∧ h.IsList l1 xs ∧ h.IsList l2 ys
/-- an expression that makes a zip -/
def PZp (X : Cx) (e : Expr) (t : L2.St → Hp → (Addr → Addr → List V → List V → Hp → Prop) → Prop) : Prop :=
  ∀ (pins : List (Addr × Obj)) (s : Shared) (σ : L2.St) (H : Hp) (Q : Addr → Addr → List V → List V → Hp → Prop), Inv X pins σ H s → t σ H Q →
    wpAny (model X.prog X.w) X.A (eval e X.env) (fun x s' => ∃ (z TI TO i1 i2 l1 l2 : Addr) (vs ws : List V) (xs ys : List Value) (H' : Hp) (s1 : Shared) (h' : Heap), x = .ref z ∧ s' = { s1 with heap := h' } ∧ ZipApart z TI TO i1 i2 l1 l2 ∧ ZipAt h' z TI TO i1 i2 l1 l2 xs.toArray ys.toArray ∧
      Vals vs xs ∧ Vals ws ys ∧ Inv X pins σ H' s1 ∧ (∀ b o, s1.heap.get? b = some o → h'.get? b = some o) ∧ s1.heap.objs.size < h'.objs.size ∧ (∀ b ∈ [z, TO, i1, i2], s1.heap.objs.size ≤ b) ∧ Q l1 l2 vs ws H') X.xe s
def tZp (K : PySem.W.Frag) (ta : TA) : L2.St → Hp → (Addr → Addr → List V → List V → Hp → Prop) → Prop := fun σ H Q => ta σ H fun us H1 => ∃ l1 l2 vs ws, us = [.ref l1, .ref l2] ∧ SqL K H1 l1 vs ∧ SqL K H1 l2 ws ∧ Q l1 l2 vs ws H1
theorem pzp {X : Cx} {e e2 : Expr} {ta : TA} {p pos : Pos} (hg : Gl X "zip") (hm : X.mg "zip" = none) (ha : PA X [e, e2] ta)
    (hs : starEach [e, e2] X.env = (false, eval e X.env) :: starEach [e2] X.env := by rfl) (hpl : (backTo pos (starEach [e2] X.env)).any (·.1) = false := by rfl) :
    PZp X (.Call (.Name "zip" p) [e, e2] [] pos) (tZp X.K ta) := by
  intro pins s σ H Q I h
  refine Call_ (ld_blt I hg hm PyProof.Rows.boot_zip (PyProof.Rows.callWith_type1 (thn (ha.run pos pins s σ H _ I h) fun us s1 ⟨vs, H1, I1, r1, q1⟩ => ?_) hs hpl))
  obtain ⟨a, b, xs, ys, ex, hqx, hqy, q⟩ := q1
  subst ex
  obtain ⟨u1, u2, eu, r, r'⟩ := r1.two
  subst eu
  cases r
  cases r'
  obtain ⟨its, rv, p1, _⟩ := I1.list hqx
  obtain ⟨its2, rv2, p2, _⟩ := I1.list hqy
  refine call_zip_2 p1.isList p2.isList fun h' hz hTI hTO h1 h2 hsz hk => ?_
  refine ⟨_, _, _, _, _, a, b, xs, ys, its, its2, H1, s1, h', rfl, rfl, PySem.W.ktu_apart s1.heap.objs.size a b p1.lt p2.lt, ⟨hz, hTI, ⟨_, _, hTO⟩, h1, h2, p1.isList.at fun o => hk a o, p2.isList.at fun o => hk b o⟩, rv, rv2, I1, hk, by omega, fun b hb => ?_, q⟩
  simp only [List.mem_cons, List.not_mem_nil, or_false] at hb
  rcases hb with e | e | e | e <;> rw [e]
  · exact Nat.le_add_right _ _
  · exact Nat.le_add_right _ _
  · exact Nat.le_refl _
  · exact Nat.le_add_right _ _

/-! ### dict(zip(keys, values)) -/
def mkPs : List (List Key) → List Addr → List Value → List (List Key × Addr × Value)
  | k :: ks, b :: bs, v :: vs => (k, b, v) :: mkPs ks bs vs
  | _, _, _ => []
theorem mkPs_len : ∀ {ks : List (List Key)} {bs : List Addr} {vs : List Value}, ks.length = bs.length → bs.length = vs.length → (mkPs ks bs vs).length = vs.length
  | [], [], [], _, _ => rfl
  | _ :: ks, _ :: bs, _ :: vs, h1, h2 => by
    rw [mkPs, List.length_cons, List.length_cons, mkPs_len (by simpa using h1) (by simpa using h2)]
  | [], _ :: _, _, h, _ => by simp at h
  | _ :: _, [], _, h, _ => by simp at h
  | _, [], _ :: _, _, h => by simp at h
  | _, _ :: _, [], _, h => by simp at h
theorem mkPs_keys : ∀ {ks : List (List Key)} {bs : List Addr} {vs : List Value}, ks.length = bs.length → bs.length = vs.length → (mkPs ks bs vs).map (·.1) = ks
  | [], [], [], _, _ => rfl
  | _ :: ks, _ :: bs, _ :: vs, h1, h2 => by
    rw [mkPs, List.map_cons, mkPs_keys (by simpa using h1) (by simpa using h2)]
  | [], _ :: _, _, h, _ => by simp at h
  | _ :: _, [], _, h, _ => by simp at h
  | _, [], _ :: _, _, h => by simp at h
  | _, _ :: _, [], _, h => by simp at h
theorem mkPs_get : ∀ {ks : List (List Key)} {bs : List Addr} {vs : List Value} {i : Nat} {b : Addr} {v : Value}, ks.length = bs.length → bs[i]? = some b → vs[i]? = some v → ∃ k, (mkPs ks bs vs)[i]? = some (k, b, v)
  | _ :: ks, _ :: bs, _ :: vs, 0, b, v, _, h1, h2 => by
    simp at h1 h2
    subst h1 h2
    exact ⟨_, rfl⟩
  | _ :: ks, _ :: bs, _ :: vs, i + 1, b, v, h, h1, h2 => by
    obtain ⟨k, e⟩ := mkPs_get (ks := ks) (i := i) (by simpa using h) (by simpa using h1) (by simpa using h2)
    exact ⟨k, by simpa [mkPs] using e⟩
  | [], [], _, _, _, _, _, h, _ => by simp at h
  | [], _ :: _, _, _, _, _, h, _, _ => by simp at h
  | _ :: _, [], _, _, _, _, h, _, _ => by simp at h
  | _ :: _, _ :: _, [], _, _, _, _, _, h => by simp at h
def KeysAt (H : Hp) : List (List Key) → List Addr → Prop := Paired fun k b => H b = some (.tup (k.map kV))
theorem mkPs_kt {H : Hp} : ∀ {ks : List (List Key)} {bs : List Addr} {ys : List V} {vs : List Value}, KeysAt H ks bs → bs.length = ys.length → Vals ys vs → L2.KT H (ks.zip ys) (mkPs ks bs vs)
  | [], [], [], _, _, _, r => by cases r; exact .nil
  | _ :: ks, _ :: bs, _ :: ys, _, h, hl, r => by
    cases r with
    | cons r1 r2 =>
      unfold KeysAt at h
      cases h with
      | cons k1 k2 =>
        rw [mkPs, List.zip_cons_cons]
        exact .cons ⟨rfl, k1, r1⟩ (mkPs_kt k2 (by simpa using hl) r2)
  | [], _ :: _, _, _, h, _, _ => by unfold KeysAt at h; cases h
  | _ :: _, [], _, _, h, _, _ => by unfold KeysAt at h; cases h
  | _, [], _ :: _, _, _, h, _ => by simp at h
  | _, _ :: _, [], _, _, h, _ => by simp at h
theorem KeysAt.length {H : Hp} {ks : List (List Key)} {bs : List Addr} (h : KeysAt H ks bs) : ks.length = bs.length := Paired.length h
theorem mkPs_is {prog : Program} {w : World} {H : Hp} {h : Heap} (ok : HOk prog w H h) : ∀ {ks : List (List Key)} {bs : List Addr} {vs : List Value}, KeysAt H ks bs → ∀ x ∈ mkPs ks bs vs, (tupleKind (mixKind prog w)).is h x.1 x.2.1
  | _ :: ks, _ :: bs, _ :: vs, hk, x, hx => by
    unfold KeysAt at hk
    cases hk with
    | cons k1 k2 =>
      rw [mkPs] at hx
      rcases List.mem_cons.mp hx with e | hx
      · subst e
        exact key_of ok k1
      · exact mkPs_is ok k2 x hx
  | [], _, _, _, x, hx => by simp [mkPs] at hx
  | _ :: _, [], _, _, x, hx => by simp [mkPs] at hx
  | _ :: _, _ :: _, [], _, x, hx => by simp [mkPs] at hx
theorem vals_refs_eq : ∀ {bs : List Addr} {us : List Value}, Vals (bs.map V.ref) us → us = bs.map Value.ref
  | [], _, h => by cases h; rfl
  | b :: bs, _, h => by
    cases h with
    | cons r t =>
      cases r
      rw [List.map_cons, vals_refs_eq t]
def tDictZip (t : L2.St → Hp → (Addr → Addr → List V → List V → Hp → Prop) → Prop) : TE := fun σ H Q => t σ H fun l1 l2 vs ws H1 => ∃ (ks : List (List Key)) (bs : List Addr), vs = bs.map V.ref ∧ KeysAt H1 ks bs ∧ bs.length = ws.length ∧ ks.Nodup ∧ ws.length ≤ 100000 ∧ ∀ q, H1 q = none → Q (.ref q) (upd H1 q (.dT (ks.zip ws)))
theorem boot_dictT : bootBuiltins "dict" = some (.type "dict") := by decide +kernel
theorem pe_dictZip {X : Cx} {e : Expr} {t : L2.St → Hp → (Addr → Addr → List V → List V → Hp → Prop) → Prop} {p pos : Pos} (hc : X.calm = true) (hu : X.A.units + 64 < cLine) (hg : Gl X "dict") (hm : X.mg "dict" = none) (he : PZp X e t)
    (na : starEach [e] X.env = (false, eval e X.env) :: starEach [] X.env := by rfl) : PE X (.Call (.Name "dict" p) [e] [] pos) (tDictZip t) := by
  refine ⟨fun pins s σ H Q I h => ?_⟩
  refine Call_ (ld_blt I hg hm boot_dictT (PyProof.Rows.callWith_type1 (args_cons (thn (he pins s σ H _ I h) fun x s' hx => args_nil ?_) na) na))
  obtain ⟨z, TI, TO, i1, i2, l1, l2, vs, ws, xs, ys, H1, s1, h', rfl, rfl, D, Z, r1, r2, I1, hk, hlt, hnew, ks, bs, ev, hks, hl, hnd, hz, q⟩ := hx
  subst ev
  have exs := vals_refs_eq r1
  subst exs
  have lk := hks.length
  have lw := r2.length
  have lps := mkPs_len (ks := ks) (bs := bs) (vs := ys) lk (by omega)
  have line := line63
  have hzl : ws.length ≤ sizeLine := Evl.sz_of hz
  have P := PairArg.zip (prog := X.prog) (w := X.w) z TI TO i1 i2 l1 l2 D (bs.map Value.ref).toArray ys.toArray
  refine call_dict_pairsH (knd := tupleKind (mixKind X.prog X.w)) (ps := mkPs ks bs ys) P (I1.ok.hd hc) (by show X.A.units + 1 + 1 < cLine; omega) Z ⟨by rw [lps]; simp; omega, fun i key v ⟨e1, e2⟩ => ?_⟩ (fun h'' hk2 x hx => ?_) (by simp; omega) fun h'' tk dd hk2 => ?_
  · rw [List.getElem?_toArray] at e1 e2
    rw [List.getElem?_map] at e1
    cases eb : bs[i]? with
    | none => rw [eb] at e1; cases e1
    | some b =>
      rw [eb] at e1
      obtain ⟨k, ek⟩ := mkPs_get (ks := ks) lk eb e2
      exact ⟨k, b, ek, (Option.some.inj e1).symm⟩
  · refine tupleKind_stays.stays (fun b o vs' n' e _ => ?_) (mkPs_is I1.hok hks x hx)
    have hb := Heap.lt_size e
    refine hk2 b o (by have := Nat.ne_of_lt (Nat.lt_trans hb hlt); exact this) (fun hm => ?_) (hk b o e)
    have := hnew b hm
    exact absurd hb (Nat.not_lt.mpr this)
  · rw [storedAllH_nil_of_nodup _ (by rw [mkPs_keys lk (by omega)]; exact hnd)] at dd
    obtain ⟨o, es, ep, ho, hx, hdat, hes, his, hn⟩ := dd
    have hk3 : ∀ b o, s1.heap.get? b = some o → h''.get? b = some o := fun b o e => by
      have hb := Heap.lt_size e
      refine hk2 b o (fun hm => ?_) (hk b o e)
      have := hnew b hm
      exact absurd hb (Nat.not_lt.mpr this)
    have hle : s1.heap.objs.size ≤ h'.objs.size := Nat.le_of_lt hlt
    have fr := I1.hok.fresh hle
    refine ⟨.ref h'.objs.size, upd H1 h'.objs.size (.dT (ks.zip ws)), I1.laid (h' := h'') (t' := tk) hk3 hle ⟨?_, ?_, _, (mkPs_kt hks hl r2).keeps fun c ys' ec => ?_, o, es, ep, ho, hx, hdat, hes, hn⟩, rfl, q _ fr⟩
    · rw [List.length_zip]; omega
    · have hb := I1.big
      exact beq_eq_false_iff_ne.mpr (Ne.symm (Nat.ne_of_lt (Nat.lt_trans hb hlt)))
    · rw [upd_ne (ne_of_none ec fr)]; exact ec
section
variable {X : Cx} {c : Cz} {ρ : List Sl} {S S1 : List Ct} {a b : Expr} {pos p p2 pos2 : Pos} {keys : List (List Int)} {ds : List Dat}
theorem atall_st {K : PySem.W.Frag} {H Hm : Hp} (ht : ∀ a xs, Hm a = some (.tup xs) → H a = some (.tup xs)) : ∀ {keys : List (List Int)} {vs : List V}, AtAll K Hm vs (keys.map .st) → ∃ bs : List Addr, vs = bs.map V.ref ∧ KeysAt H (keys.map kI) bs
  | [], _, h => by cases h; exact ⟨[], rfl, .nil⟩
  | k :: keys, _, h => by
    rw [List.map_cons] at h
    cases h with
    | cons h1 h2 =>
      obtain ⟨bs, e, g⟩ := atall_st ht h2
      cases h1 with
      | st a1 =>
        subst e
        exact ⟨_ :: bs, rfl, .cons (by rw [kI_kV]; exact ht _ _ a1) g⟩
theorem kv_at {K : PySem.W.Frag} {H : Hp} : ∀ {keys : List (List Int)} {ws : List V} {ds : List Dat}, keys.length = ds.length → AtAll K H ws ds → AtKv K H ((keys.map kI).zip ws) (keys.zip ds)
  | [], _, [], _, h => by cases h; exact .nil
  | k :: keys, _, d :: ds, hl, h => by
    cases h with
    | cons h1 h2 => exact .cons h1 (kv_at (by simpa using hl) h2)
  | [], _, _ :: _, hl, _ => by simp at hl
  | _ :: _, _, [], hl, _ => by simp at hl
theorem de_dictZip (hu : X.A.units + 64 < cLine) (hmd : X.mg "dict" = none) (hmz : X.mg "zip" = none) (h : DA X c ρ S [a, b] [.d (.lst (keys.map .st)), .d (.lst ds)] S1) (hl : keys.length = ds.length) (hnd : keys.Nodup) (hz : ds.length ≤ 100000) (hc : X.calm = true := by rfl) (hg : Gl X "dict" := by rfl) (hg2 : Gl X "zip" := by rfl)
    (hs : starEach [a, b] X.env = (false, eval a X.env) :: starEach [b] X.env := by rfl) (hpl : (backTo pos2 (starEach [b] X.env)).any (·.1) = false := by rfl)
    (na : starEach [.Call (.Name "zip" p2) [a, b] [] pos2] X.env = (false, eval (.Call (.Name "zip" p2) [a, b] [] pos2) X.env) :: starEach [] X.env := by rfl) :
    DE X c ρ S (.Call (.Name "dict" p) [.Call (.Name "zip" p2) [a, b] [] pos2] [] pos) (.d (.dic (keys.zip ds))) S1 :=
  de_of (pe_dictZip hc hu hg hmd (pzp hg2 hmz pa_tW hs hpl) na) fun σ H O hs' sl Q q => h σ H O hs' sl _ fun vs H1 O1 a1 a2 a3 => by
    obtain ⟨v, w, ev, h1, h2⟩ := a3.two
    subst ev
    have h1' : At X.K _ v (.lst (keys.map .st)) := h1
    have h2' : At X.K _ w (.lst ds) := h2
    cases h1' with
    | lst f1 f2 =>
      cases h2' with
      | @lst _ xs2 _ g1 g2 =>
        obtain ⟨bs, e1, e2⟩ := atall_st (vw_le (c := c) (O := O ++ O1) (S := S1) (H := H1)).tp f2
        have lf := f2.length
        have lg := g2.length
        rw [e1] at f1 lf
        rw [List.length_map, List.length_map] at lf
        refine ⟨_, _, _, _, rfl, vw_le.l f1, vw_le.l g1, keys.map kI, bs, rfl, e2, by omega, ?_, by omega, fun pp hp => ?_⟩
        · unfold List.Nodup
          rw [List.pairwise_map]
          exact hnd.imp fun h e => h (kI_inj e)
        · have ex := Ex.new (o := .dT ((keys.map kI).zip xs2)) hp
          exact (q.step a2).ex a1 ex (.dic (.inl (vw_fresh a1 hp)) ((kv_at hl g2).mono (RX.vw_ex ex)))
end
end Tw
end
section
set_option Elab.async false
set_option linter.all false
set_option maxRecDepth 100000
set_option maxHeartbeats 1000000
namespace Tw
open PySem PySem.Spec PyProof.Rows L2
open Evl (Ex)
theorem SysOk.good {n : Nat} {rows : List (List Fr)} {sums : List Fr} (h : SysOk n rows sums) (hn : n ≤ 18) : GoodSys rows sums n (2 ^ 53) 1110 := ⟨h.len, h.len2, by omega, h.dom, h.small hn, by decide, fun i r s h1 h2 => h.rowB h1 h2⟩
section
variable {X : Cx} {c : Cz} {ρ : List Sl} {S : List Ct} {sts : List Stmt} {D : De}
/-- a cell of one's own becomes data -/
theorem dss_free (j k : Nat) {t : Ct} (hj : ρ[j]? = some (.o k)) (hk : S[k]? = some t) (hd : t.datOk = true) (h : DSs X c (ρ.set j (.d t.dat)) (S.set k .gone) sts D) : DSs X c ρ S sts D := fun σ H O hs sl E q => by
  have g1 := hs.gone k
  obtain ⟨v, e1, ⟨p, e2, e3⟩⟩ := sl.at' j _ hj nofun
  subst e3
  have g2 := hs.goneAt e2 hk hd
  have sl2 : SlOk X.K O (vw c O (S.set k .gone) H) ρ σ := sl.mono0 RX.gone
  have sl3 := sl2.set (r := .d t.dat) (v := .ref p) j g2
  have eσ : σ.set j (some (V.ref p)) = σ := by
    apply List.ext_getElem?
    intro i
    by_cases z : j = i
    · subst z
      rw [List.getElem?_set_self (List.getElem?_eq_some_iff.mp e1).1, e1]
    · rw [List.getElem?_set_ne z]
  rw [eσ] at sl3
  have q2 := q.step (O1 := []) (S1 := S.set k .gone) (H1 := H) (by rw [List.append_nil]; exact RX.gone)
  rw [List.append_nil] at q2
  exact h σ H O g1 sl3 E q2
end
def natsD (l : List Nat) : Dat := .lst ((l.map fun n => ((n : Nat) : Int)).map .int)
theorem mem_nats {n : Nat} {l : List Nat} : ((n : Nat) : Int) ∈ (l.map fun n => ((n : Nat) : Int)) ↔ n ∈ l := by
  rw [List.mem_map]
  constructor
  · rintro ⟨m, h1, h2⟩
    have : m = n := by omega
    subst this
    exact h1
  · intro h
    exact ⟨n, h, rfl⟩
theorem map_setD {r : List Fr} {b : Nat} {x : Fr} : (r.map frD).set b (frD x) = (r.set b x).map frD := by rw [List.map_set]
theorem of_map {α : Type} {f : α → Dat} {l : List α} {i : Nat} {d : Dat} (h : (l.map f)[i]? = some d) : ∃ x, l[i]? = some x ∧ d = f x := by
  rw [List.getElem?_map] at h
  cases e : l[i]? with
  | none => rw [e] at h; cases h
  | some x => rw [e] at h; exact ⟨x, rfl, (Option.some.inj h).symm⟩
theorem mkP_take {part : Fr} {g : Nat → Nat} {P : Move → Bool} {ms : List Move} {j : Nat} {m : Move} (h : ms[j]? = some m) (r : List Fr) : putRow (mkP part g ((ms.take (j + 1)).filter P)) r = if P m = true then (putRow (mkP part g ((ms.take j).filter P)) r).set (g m.2) (fSub (0, 1) (fMul part m.1)) else putRow (mkP part g ((ms.take j).filter P)) r := by
  rw [List.take_add_one, h, List.filter_append]
  unfold mkP putRow
  rw [List.map_append, List.foldl_append]
  show List.foldl _ _ (List.map _ (List.filter P [m])) = _
  rw [List.filter_cons]
  split <;> rfl
section
variable {P : Program} {w : World} {K : PySem.W.Frag} {mg : Str → Option Value} {base : Heap}
def R_look_at_book (ds : List Dat) (r : Dat) : Prop := ∃ k : Book, BookOk k ∧ ds = [bookD k] ∧ r = .non
theorem ok_look_at_book (F : FT K mg "look_at_book" s_look_at_book P_look_at_book) (z : Zb mg) (g_MOST_STATES : GC K mg "MOST_STATES" (.int 64)) (c_is_book : Cal P w K mg base 7 "is_book" (spP K R_is_book)) : Cal P w K mg base 8 "look_at_book" (spP K R_look_at_book) := by
  obtain ⟨f, fd, F, gm, hb⟩ := F.ex
  refine cal_of F gm hb sc_look_at_book (by decide) (fun ds r ⟨_, _, h, _⟩ => by rw [h]; rfl) fun cdv A outer s H E hr c ds r hR => ?_
  obtain ⟨k, hk0, rfl, rfl⟩ := hR
  refine dss_cons (ds_if (dt_not (dt_val (de_call c_is_book (hr.mono (by decide)) (da_cons (de_var 0 rfl) da_nil) (by walk_at "dats") ⟨k, hk0, rfl, rfl⟩))) (fun hk => ff hk) fun hk => ?_)
  refine dss_nil ?_
  refine dss_cons (ds_set 1 de_int ?_ sc_look_at_book.nd)
  refine dss_cut (fun ρ S => ∃ x, ρ = [.d (bookD k), .d (.int (many k : Nat)), x] ∧ S = []) (ds_for (T := .one 2) (di_list (de_ix (de_var 0 rfl) de_int (ix_t (atI_at 1 rfl)))) (pg_one 2 sc_look_at_book.nd) (fun i ρ S => ρ = [.d (bookD k), .d (.int ((((sizes k).take i).foldl (· * ·) 1 : Nat) : Nat)), .un] ∧ S = []) ?_ ?_ ?_ ?_) ?_
  · rintro i ρ S ⟨rfl, rfl⟩; exact Nat.le_refl _
  · exact ⟨_, _, ⟨by walk_at "lel", [], rfl⟩, rfl, rfl⟩
  · rintro i d ρ S hd ⟨rfl, rfl⟩
    obtain ⟨b, hb', rfl⟩ := of_map hd
    have l1 : lenD (benchD b) = some b.length := by simp [lenD, benchD]
    have hsz : (sizes k)[i]? = some b.length := by unfold sizes; rw [List.getElem?_map, hb']; rfl
    have hup := hk0.upto i
    have few := (hk0.bn b (List.mem_of_getElem? hb')).few
    have e : ((sizes k).take (i + 1)).foldl (· * ·) 1 = ((sizes k).take i).foldl (· * ·) 1 * b.length := by
      rw [List.take_add_one, hsz, List.foldl_append]
      rfl
    rw [show IN _ (i + 1) = IN _ (i + 1) from rfl]
    refine ⟨_, .one, ?_⟩
    refine dss_cons (ds_set 1 (de_bin (de_var 1 rfl) (de_len z.len (da_cons (de_var 2 rfl) da_nil) l1) (od_mul (wmul (a := 64) (b := 64) ?_ ?_ (by decide)))) ?_ sc_look_at_book.nd)
    · have : (2 : Nat) ^ 64 = 18446744073709551616 := by decide
      omega
    · have : (2 : Nat) ^ 64 = 18446744073709551616 := by decide
      omega
    · refine dss_nil ⟨_, _, ⟨?_, [], rfl⟩, rfl, rfl⟩
      rw [e, Int.natCast_mul]
      walk_at "lel"
  · rintro ρ S ⟨rfl, rfl⟩
    refine ⟨.un, ?_, rfl⟩
    rw [List.length_map, show k.2.length = (sizes k).length from (List.length_map _).symm, List.take_length]
    rfl
  · rintro ρ S ⟨x, rfl, rfl⟩
    have hm := hk0.many
    have d1 : decide ((64 : Int) < ((many k : Nat) : Int)) = false := decide_eq_false (by omega)
    refine dss_cons (ds_if (dt_cmp (de_var 1 rfl) (de_glob g_MOST_STATES) od_gt) (fun hk => ?_) fun hk => ?_)
    · rw [d1] at hk; exact ff hk
    · exact dss_nil (dss_nil rfl)
def R_went_on (ds : List Dat) (r : Dat) : Prop := ∃ (b : Bench) (part : Fr) (ws : List Nat), BenchOk b ∧ PartOk part ∧ ds = [benchD b, frD part, natsD ws] ∧ r = .tup [frsD (earned b part ws), frsD (tries b part ws)]
theorem ok_went_on (F : FT K mg "went_on" s_went_on P_went_on) (z : Zb mg) (g_NOTHING_going : GC K mg "NOTHING_going" (frD (0, 1))) (g_ONE : GC K mg "ONE" (frD (1, 1))) (c_frac_less : Cal P w K mg base 3 "frac_less" (spP K (R_fr fSub))) (c_frac_times : Cal P w K mg base 3 "frac_times" (spP K (R_fr fMul))) (c_solved_rows : Cal P w K mg base 3 "solved_rows" (spP K R_solved)) : Cal P w K mg base 4 "went_on" (spP K R_went_on) := by
  obtain ⟨f, fd, F, gm, hb⟩ := F.ex
  refine cal_of F gm hb sc_went_on (by decide) (fun ds r ⟨_, _, _, _, _, h, _⟩ => by rw [h]; rfl) fun cdv A outer s H E hr c ds r hR => ?_
  obtain ⟨b, part, ws, hbn, hp, rfl, rfl⟩ := hR
  have few := hbn.few
  have hlen : (goRows b part ws).length = b.length := by unfold goRows; simp
  refine dss_cons (ds_set 3 (de_lstO da_nil (by walk_at "dats") (by walk_at "le")) ?_ sc_went_on.nd)
  refine dss_cut (fun ρ S => ∃ x y z w v, ρ = [.d (benchD b), .d (frD part), .d (natsD ws), .o 0, x, y, z, w, v, .un, .un, .un] ∧ S = [.l ((goRows b part ws).map frsD)]) (ds_for (T := .two 4 5) (di_enum z.enumerate (de_var 0 rfl)) (pg_two 4 5 sc_went_on.nd) (fun i ρ S => ρ = [.d (benchD b), .d (frD part), .d (natsD ws), .o 0, .un, .un, .un, .un, .un, .un, .un, .un] ∧ S = [.l (((goRows b part ws).take i).map frsD)]) ?_ ?_ ?_ ?_) ?_
  · rintro i ρ S ⟨rfl, rfl⟩; exact Nat.le_refl _
  · exact ⟨_, _, ⟨by walk_at "lel", [], rfl⟩, rfl, rfl⟩
  · rintro i d ρ S hd ⟨rfl, rfl⟩
    obtain ⟨d', hd3, rfl⟩ := of_numd hd
    obtain ⟨s', hs', rfl⟩ := of_map hd3
    have hi := (List.getElem?_eq_some_iff.mp hs').1
    have so := hbn.st s' (List.mem_of_getElem? hs')
    have ms_few := so.mv.few
    have grow : (goRows b part ws)[i]? = some (rowOf b.length (mkP part (fun a => a) (s'.2.filter (inW ws))) i) := by
      unfold goRows
      rw [List.getElem?_map, List.getElem?_range hi, Option.map_some, stOf_get hs']
    have step : (goRows b part ws).take (i + 1) = (goRows b part ws).take i ++ [rowOf b.length (mkP part (fun a => a) (s'.2.filter (inW ws))) i] := by
      rw [List.take_add_one, grow]
      rfl
    have tl : (((goRows b part ws).take i).map frsD).length < 100000 := by rw [List.length_map, List.length_take]; omega
    have ps := mkP_ps hp so.mv (inW ws) (fun a => a) (fun a b _ _ e => e) fun a h => h
    generalize goRows b part ws = gr at hlen grow step tl
    refine ⟨_, .two, ?_⟩
    refine dss_cons (ds_setLcO 6 ((List.replicate b.length (0, 1)).map frD) (fun _ => [Ct.l ((gr.take i).map frsD)]) [("place", 9)] (.one 9) (sw_true rfl rfl rfl (by decide +kernel)) (di_list (de_var 0 rfl)) sc_went_on.nd (blkOk_by (N := N_went_on) (sc := defScope s_went_on) (by decide +kernel)) (fun _ _ _ _ _ => pg_one 9 sc_went_on.nd)
      ⟨by rw [List.length_map]; omega, by simp, by simp [Tg.own], fun _ => Nat.le_refl _, fun j d zz hd hz => ⟨_, .one, fun c => fun s0 H0 C cl fp => ?_⟩⟩ ?_)
    · obtain ⟨x, hx, rfl⟩ := of_map hz
      have := List.eq_of_mem_replicate (List.mem_of_getElem? hx)
      subst this
      exact de_glob g_NOTHING_going
    refine dss_cut (fun ρ S => ∃ x y, ρ = [.d (benchD b), .d (frD part), .d (natsD ws), .o 0, .d (.int (i : Nat)), .d (standD s'), .o 1, x, y, .un, .un, .un] ∧ S = [.l ((gr.take i).map frsD), .l ((putRow (mkP part (fun a => a) (s'.2.filter (inW ws))) (List.replicate b.length (0, 1))).map frD)])
      (ds_for (T := .two 7 8) (di_list (de_ix (de_var 5 rfl) de_int (ix_t (ds := [frD s'.1, movesD s'.2]) (atI_at 1 rfl)))) (pg_two 7 8 sc_went_on.nd) (fun j ρ S => ρ = [.d (benchD b), .d (frD part), .d (natsD ws), .o 0, .d (.int (i : Nat)), .d (standD s'), .o 1, .un, .un, .un, .un, .un] ∧ S = [.l ((gr.take i).map frsD), .l ((putRow (mkP part (fun a => a) ((s'.2.take j).filter (inW ws))) (List.replicate b.length (0, 1))).map frD)]) ?_ ?_ ?_ ?_) ?_
    · rintro i ρ S ⟨rfl, rfl⟩; exact Nat.le_refl _
    · exact ⟨_, _, ⟨by walk_at "lel", [], rfl⟩, rfl, rfl⟩
    · rintro j d ρ S hd ⟨rfl, rfl⟩
      obtain ⟨m, hm, rfl⟩ := of_map hd
      have mem := List.mem_of_getElem? hm
      obtain ⟨l1, l2, l3⟩ := so.mv.low m mem
      have lt := so.mv.lt m mem
      have e := mkP_take (part := part) (g := fun a => a) (P := inW ws) hm (List.replicate b.length (0, 1))
      have rl : (putRow (mkP part (fun a => a) ((s'.2.take j).filter (inW ws))) (List.replicate b.length (0, 1))).length = b.length := by
        have : ∀ (ps : List (Nat × Fr)) (r : List Fr), (putRow ps r).length = r.length := fun ps => by
          induction ps with
          | nil => intro r; rfl
          | cons p ps ih => intro r; rw [putRow_cons, ih, List.length_set]
        rw [this, List.length_replicate]
      generalize putRow (mkP part (fun a => a) ((s'.2.take j).filter (inW ws))) (List.replicate b.length (0, 1)) = rw0 at e rl
      refine ⟨_, .two, ?_⟩
      have dm : decide (((m.2 : Nat) : Int) ∈ ws.map fun n => ((n : Nat) : Int)) = inW ws m := by
        unfold inW
        rw [decide_eq_decide]
        exact mem_nats
      refine dss_cons (ds_if (dt_cmp (de_var 8 rfl) (de_var 2 rfl) od_inI) (fun hk => ?_) fun hk => ?_)
      · rw [dm] at hk
        rw [if_pos hk] at e
        refine dss_cons (ds_setL (k := 1) (j := m.2) (de_call c_frac_less (hr.mono (by decide)) (da_cons (de_glob g_NOTHING_going) (da_cons (de_call c_frac_times (hr.mono (by decide)) (da_cons (de_var 1 rfl) (da_cons (de_var 7 rfl) da_nil)) (by walk_at "dats") ⟨part, m.1, 4, 5, hp.fb, l3, by decide, by decide, by decide, rfl, rfl⟩) da_nil)) (by walk_at "dats") ⟨(0, 1), fMul part m.1, 1, 9, ⟨by decide, by decide, by decide⟩, Fb.mul hp.fb l3, by decide, by decide, by decide, rfl, rfl⟩) (de_var 6 rfl) (de_var 8 rfl) rfl (by rw [List.length_map, rl]; exact ixN_nat lt) ?_)
        rw [map_setD, ← e]
        exact dss_nil (dss_nil ⟨_, _, ⟨by walk_at "lel", [], rfl⟩, rfl, rfl⟩)
      · rw [dm] at hk
        rw [if_neg (by rw [hk]; decide)] at e
        rw [← e]
        exact dss_nil (dss_nil ⟨_, _, ⟨by walk_at "lel", [], rfl⟩, rfl, rfl⟩)
    · rintro ρ S ⟨rfl, rfl⟩
      refine ⟨.un, .un, rfl, ?_⟩
      rw [List.length_map, List.take_length]
    · rintro ρ S ⟨x, y, rfl, rfl⟩
      have ra := ps.at
      have hx := List.getElem?_eq_getElem (show i < (putRow (mkP part (fun a => a) (s'.2.filter (inW ws))) (List.replicate b.length (0, 1))).length by rw [ra.len]; exact hi)
      have er : rowOf b.length (mkP part (fun a => a) (s'.2.filter (inW ws))) i = (putRow (mkP part (fun a => a) (s'.2.filter (inW ws))) (List.replicate b.length (0, 1))).set i (fSub ((putRow (mkP part (fun a => a) (s'.2.filter (inW ws))) (List.replicate b.length (0, 1)))[i]?.getD (0, 1)) (-1, 1)) := rfl
      rw [hx] at er
      have fx := (ra.ent _ (List.mem_of_getElem? hx)).1
      have rl := ra.len
      generalize (putRow (mkP part (fun a => a) (s'.2.filter (inW ws))) (List.replicate b.length (0, 1)))[i]'(by rw [ra.len]; exact hi) = x0 at hx er fx
      generalize putRow (mkP part (fun a => a) (s'.2.filter (inW ws))) (List.replicate b.length (0, 1)) = rw0 at hx er rl
      have hx2 : (rw0.map frD)[i]? = some (frD x0) := by rw [List.getElem?_map, hx]; rfl
      refine dss_cons (ds_setL (k := 1) (j := i) (de_call c_frac_less (hr.mono (by decide)) (da_cons (de_ix (de_var 6 rfl) (de_var 4 rfl) (ix_o rfl (atI_at i hx2))) (da_cons (de_tup (da_cons (de_neg de_int) (da_cons de_int da_nil)) (by walk_at "dats") (by walk_at "le")) da_nil)) (by walk_at "dats") ⟨x0, (-1, 1), 11, 1, fx, ⟨by decide, by decide, by decide⟩, by decide, by decide, by decide, rfl, rfl⟩) (de_var 6 rfl) (de_var 4 rfl) rfl (by rw [List.length_map, rl]; exact ixN_nat hi) ?_)
      rw [map_setD]
      refine dss_cons (ds_expr (de_append (de_var 3 rfl) (de_dat (de_var 6 rfl) rfl rfl) ⟨_, rfl⟩ rfl tl) ?_)
      refine dss_nil ⟨_, [.l ((gr.take (i + 1)).map frsD)], ⟨by walk_at "lel", [.gone], ?_⟩, rfl, rfl⟩
      rw [step, List.map_append]
      show _ = [Ct.l ((gr.take i).map frsD ++ [frsD (rowOf b.length (mkP part (fun a => a) (s'.2.filter (inW ws))) i)])] ++ [Ct.gone]
      rw [er]
      rfl
  · rintro ρ S ⟨rfl, rfl⟩
    refine ⟨.un, .un, .un, .un, .un, rfl, ?_⟩
    rw [numd_len, List.length_map, List.take_of_length_le (by rw [hlen]; exact Nat.le_refl _)]
  · rintro ρ S ⟨x, y, z', w', v, rfl, rfl⟩
    obtain ⟨o1, o2⟩ := gains_ok hbn
    obtain ⟨p1, p2, p3⟩ := ones_ok (b := b)
    refine dss_free 3 0 rfl rfl rfl ?_
    refine dss_cons (ds_ret (de_tup (da_cons (de_call c_solved_rows (hr.mono (by decide)) (da_cons (de_var 3 rfl) (da_cons (de_lc ((gains b).map frD) (fun _ => [.gone]) [("gain", 10), ("moves", 11)] (.two 10 11) (di_list (de_var 0 rfl)) sc_went_on.nd (blkOk_by (N := N_went_on) (sc := defScope s_went_on) (by decide +kernel)) (fun _ _ _ _ _ => pg_two 10 11 sc_went_on.nd)
        ⟨by rw [List.length_map]; omega, by rw [List.length_map, List.length_map, o1], by simp [Tg.own], fun _ => Nat.le_refl _, fun i d zz hd hz => ?_⟩) da_nil)) (by walk_at "dats") ⟨goRows b part ws, gains b, b.length, _, _, (goRows_ok hbn hp o1 o2).good (by omega), rfl, rfl⟩)
      (da_cons (de_call c_solved_rows (hr.mono (by decide)) (da_cons (de_var 3 rfl) (da_cons (de_lc ((ones b).map frD) (fun _ => [.gone]) [("stand", 5)] (.one 5) (di_list (de_var 0 rfl)) sc_went_on.nd (blkOk_by (N := N_went_on) (sc := defScope s_went_on) (by decide +kernel)) (fun _ _ _ _ _ => pg_one 5 sc_went_on.nd)
        ⟨by rw [List.length_map]; omega, by rw [List.length_map, List.length_map, p1], by simp [Tg.own], fun _ => Nat.le_refl _, fun i d zz hd hz => ?_⟩) da_nil)) (by walk_at "dats") ⟨goRows b part ws, ones b, b.length, _, _, (goRows_ok hbn hp p1 p2).good (by omega), rfl, rfl⟩) da_nil)) (by walk_at "dats") (by walk_at "le")) ?_)
    · obtain ⟨s', hs', rfl⟩ := of_map hd
      obtain ⟨q, hq, rfl⟩ := of_map hz
      unfold gains at hq
      rw [List.getElem?_map, hs'] at hq
      cases hq
      exact ⟨_, .two, fun c => fun s0 H0 C cl fp => de_var 10 rfl⟩
    · obtain ⟨q, hq, rfl⟩ := of_map hz
      unfold ones at hq
      obtain ⟨s', hs', rfl⟩ := of_map hd
      rw [List.getElem?_map, hs'] at hq
      cases hq
      exact ⟨_, .one, fun c => fun s0 H0 C cl fp => de_glob g_ONE⟩
    · rfl
end
end Tw
end
section
set_option Elab.async false
set_option linter.all false
set_option maxRecDepth 100000
set_option maxHeartbeats 1000000
namespace Tw
open PySem PySem.Spec PyProof.Rows L2
open Evl (Ex)
theorem tup_frs (l : List Fr) : tupDs (l.map frD) = true := tupDs_all fun d hd => by
  obtain ⟨p, _, rfl⟩ := List.mem_map.mp hd
  rfl
def accD (acc : List (Nat × Fr)) : List (Int × Dat) := acc.map fun p => (((p.1 : Nat) : Int), frD p.2)
theorem accD_val : ∀ {acc : List (Nat × Fr)} {k : Nat}, valD (accD acc) ((k : Nat) : Int) = (lookF acc k).map frD
  | [], k => rfl
  | p :: acc, k => by
    have ih := accD_val (acc := acc) (k := k)
    unfold accD at ih ⊢
    rw [List.map_cons]
    by_cases e : p.1 = k
    · have e2 : ((p.1 : Nat) : Int) = ((k : Nat) : Int) := by omega
      rw [valD_pos (by exact e2)]
      unfold lookF
      rw [List.find?_cons, decide_eq_true e]
      rfl
    · have e2 : ¬ ((p.1 : Nat) : Int) = ((k : Nat) : Int) := by omega
      rw [valD_neg (by exact e2), ih]
      unfold lookF
      rw [List.find?_cons, decide_eq_false e]
theorem valD_any {κ : Type} [DecidableEq κ] (k : κ) : ∀ kvs : List (κ × Dat), (kvs.any fun kv => decide (kv.1 = k)) = (valD kvs k).isSome
  | [] => rfl
  | p :: r => by
    rw [List.any_cons]
    by_cases e : p.1 = k
    · simp only [valD_pos e, decide_eq_true e, Bool.true_or, Option.isSome_some]
    · rw [valD_neg e, decide_eq_false e, Bool.false_or]; exact valD_any k r
theorem putD_new {κ : Type} [DecidableEq κ] {kvs : List (κ × Dat)} {k : κ} (d : Dat) (h : valD kvs k = none) : putD kvs k d = kvs ++ [(k, d)] := by
  unfold putD
  rw [valD_any, h]
  exact if_neg (by decide)
theorem accD_put {acc : List (Nat × Fr)} {k : Nat} {p : Fr} (h : lookF acc k = none) : putD (accD acc) ((k : Nat) : Int) (frD p) = accD (acc ++ [(k, p)]) := by
  rw [putD_new _ (by rw [accD_val, h]; rfl)]
  unfold accD
  rw [List.map_append]
  rfl
def casts (l : List Nat) : List Int := l.map fun n => ((n : Nat) : Int)
theorem casts_len (l : List Nat) : (casts l).length = l.length := List.length_map _
theorem casts_snoc (l : List Nat) (n : Nat) : casts (l ++ [n]) = casts l ++ [((n : Nat) : Int)] := by unfold casts; rw [List.map_append]; rfl
theorem casts_get {l : List Nat} {i n : Nat} : (casts l)[i]? = some ((n : Nat) : Int) ↔ l[i]? = some n := by
  unfold casts
  rw [List.getElem?_map]
  cases l[i]? with
  | none => simp
  | some m =>
    simp only [Option.map_some, Option.some.injEq]
    omega
/-- the first place of a member -/
theorem first_of {l : List Nat} {n : Nat} (h : n ∈ l) : ∃ j, l[j]? = some n ∧ (∀ m, m < j → l[m]? ≠ some n) ∧ l.erase n = l.eraseIdx j := by
  induction l with
  | nil => simp at h
  | cons a l ih =>
    by_cases e : a = n
    · subst e
      exact ⟨0, rfl, fun m hm => absurd hm (Nat.not_lt_zero m), by simp⟩
    · rcases List.mem_cons.mp h with h | h
      · exact absurd h.symm e
      · obtain ⟨j, h1, h2, h3⟩ := ih h
        refine ⟨j + 1, by simpa using h1, fun m hm => ?_, ?_⟩
        · cases m with
          | zero => simpa using e
          | succ m => simpa using h2 m (by omega)
        · rw [List.erase_cons_tail (by simpa using e), h3]
          rfl
theorem casts_erase (l : List Nat) (j : Nat) : (casts l).eraseIdx j = casts (l.eraseIdx j) := by
  unfold casts
  induction l generalizing j with
  | nil => simp
  | cons a l ih =>
    cases j with
    | zero => rfl
    | succ j => simp [ih]
theorem IdxAt.end' {b : Bench} {part : Fr} (hb : BenchOk b) (hp : PartOk part) : ∀ (m : Nat) {ws rest : List Nat} {acc : List (Nat × Fr)}, rest.length = m → IdxAt b part ws rest acc → ∀ k, k < b.length → ∃ p, lookF (idxAll b part) k = some p ∧ Fb 2220 p
  | 0, ws, rest, acc, hm, h, k, hk => by
    have e0 : rest = [] := List.eq_nil_of_length_eq_zero hm
    subst e0
    have hf := h.fin
    rw [List.length_nil, idxLoop] at hf
    rw [← hf]
    rcases h.all k hk with h1 | h1
    · simp at h1
    · exact h1
  | m + 1, ws, rest, acc, hm, h, k, hk => by
    have hne : rest ≠ [] := fun e => by rw [e] at hm; simp at hm
    obtain ⟨h1, h2⟩ := h.next hb hp hne
    exact IdxAt.end' hb hp m (by rw [List.length_erase_of_mem h1]; omega) h2 k hk
theorem idx_get {b : Bench} {part : Fr} (hb : BenchOk b) (hp : PartOk part) {k : Nat} (hk : k < b.length) : ∃ p, lookF (idxAll b part) k = some p ∧ Fb 2220 p := IdxAt.end' hb hp _ rfl (IdxAt.zero b part) k hk
theorem indices_get {b : Bench} {part : Fr} (hb : BenchOk b) (hp : PartOk part) {k : Nat} (hk : k < b.length) : ∃ p, (indices b part)[k]? = some p ∧ lookF (idxAll b part) k = some p ∧ Fb 2220 p := by
  obtain ⟨p, h1, h2⟩ := idx_get hb hp hk
  refine ⟨p, ?_, h1, h2⟩
  unfold indices
  rw [List.getElem?_map, List.getElem?_range hk, Option.map_some, h1]
  rfl
section
variable {P : Program} {w : World} {K : PySem.W.Frag} {mg : Str → Option Value} {base : Heap}
def R_quotients (ds : List Dat) (zs : List Dat) : Prop := ∃ (b : Bench) (part : Fr) (ws : List Nat), BenchOk b ∧ PartOk part ∧ ds = [benchD b, frD part, natsD ws] ∧ zs = (quot b part ws).map frD
theorem ok_quotients (F : FT K mg "quotients" s_quotients P_quotients) (z : Zb mg) (c_went_on : Cal P w K mg base 4 "went_on" (spP K R_went_on)) (c_frac_by : Cal P w K mg base 3 "frac_by" (spP K R_by)) : Cal P w K mg base 5 "quotients" (spL K R_quotients) := by
  obtain ⟨f, fd, F, gm, hb⟩ := F.ex
  refine cal_ofL F gm hb sc_quotients (by decide) (fun ds r ⟨_, _, _, _, _, h, _⟩ => by rw [h]; rfl) fun cdv A outer s H E hr c ds r hR => ?_
  obtain ⟨b, part, ws, hbn, hp, rfl, rfl⟩ := hR
  have few := hbn.few
  have le : (earned b part ws).length = b.length := solve_len _ _
  have lt : (tries b part ws).length = b.length := solve_len _ _
  have lq := quot_len b part ws
  refine dss_cons (ds_unpack (T := .two 3 4) (pg_two 3 4 sc_quotients.nd) (de_call c_went_on (hr.mono (by decide)) (da_cons (de_var 0 rfl) (da_cons (de_var 1 rfl) (da_cons (de_var 2 rfl) da_nil))) (by walk_at "dats") ⟨b, part, ws, hbn, hp, rfl, rfl⟩) .two ?_)
  refine dss_cons (ds_ret (de_lcO ((quot b part ws).map frD) (fun _ => []) [("one", 5), ("other", 6)] (.two 5 6) (di_zip z.zip (de_var 3 rfl) (de_var 4 rfl)) sc_quotients.nd (blkOk_by (N := N_quotients) (sc := defScope s_quotients) (by decide +kernel)) (fun _ _ _ _ _ => pg_two 5 6 sc_quotients.nd)
    ⟨by rw [pairs_len, List.length_map, List.length_map]; omega, by rw [pairs_len, List.length_map, List.length_map, List.length_map]; omega, by simp [Tg.own], fun _ => Nat.le_refl _, fun i d zz hd hz => ?_⟩) ⟨0, rfl, rfl⟩)
  obtain ⟨x, y, hx, hy, rfl⟩ := of_pairs hd
  obtain ⟨p, hp1, rfl⟩ := of_map hx
  obtain ⟨q, hq1, rfl⟩ := of_map hy
  obtain ⟨u, hu1, rfl⟩ := of_map hz
  unfold quot at hu1
  rw [List.getElem?_zipWith, hp1, hq1] at hu1
  cases hu1
  refine ⟨_, .two, fun c => fun s0 H0 C cl fp => ?_⟩
  exact de_call c_frac_by (hr.mono (by decide)) (da_cons (de_var 5 rfl) (da_cons (de_var 6 rfl) da_nil)) (by walk_at "dats") ⟨p, q, 1110, 1110, earned_ok hbn hp p (List.mem_of_getElem? hp1), tries_ok hbn hp q (List.mem_of_getElem? hq1), tries_pos hbn hp q (List.mem_of_getElem? hq1), by decide, by decide, by decide, rfl, rfl⟩
def R_greatest_of (ds : List Dat) (r : Dat) : Prop := ∃ (found : List Fr) (rest : List Nat), (∀ p ∈ found, Fb 4000 p) ∧ rest ≠ [] ∧ (∀ k ∈ rest, k < found.length) ∧ rest.length ≤ 1000 ∧ ds = [frsD found, natsD rest] ∧ r = .int (gOf found rest : Nat)
theorem ok_greatest_of (F : FT K mg "greatest_of" s_greatest_of P_greatest_of) (c_frac_below : Cal P w K mg base 1 "frac_below" (spP K R_below)) : Cal P w K mg base 2 "greatest_of" (spP K R_greatest_of) := by
  obtain ⟨f, fd, F, gm, hb⟩ := F.ex
  refine cal_of F gm hb sc_greatest_of (by decide) (fun ds r ⟨_, _, _, _, _, _, h, _⟩ => by rw [h]; rfl) fun cdv A outer s H E hr c ds r hR => ?_
  obtain ⟨found, rest, hf, hne, hlt, hle, rfl, rfl⟩ := hR
  obtain ⟨a, rt, er⟩ : ∃ a rt, rest = a :: rt := by cases rest with
    | nil => exact absurd rfl hne
    | cons a rt => exact ⟨a, rt, rfl⟩
  have h0 : atI ((rest.map fun n => ((n : Nat) : Int)).map Dat.int) 0 = some (.int ((rest.head?.getD 0 : Nat) : Int)) := by
    rw [er]
    exact atI_at 0 rfl
  have hh : rest.head?.getD 0 ∈ rest := by rw [er]; simp
  have get : ∀ k, k < found.length → ∃ p, found[k]? = some p ∧ Fb 4000 p ∧ gAt found k = p := fun k hk => by
    have e := List.getElem?_eq_getElem hk
    exact ⟨_, e, hf _ (List.mem_of_getElem? e), by unfold gAt; rw [e]; rfl⟩
  refine dss_cons (ds_set 2 (de_ix (de_var 1 rfl) de_int (ix_l h0)) ?_ sc_greatest_of.nd)
  refine dss_cut (fun ρ S => ∃ x, ρ = [.d (frsD found), .d (natsD rest), .d (.int (gOf found rest : Nat)), x] ∧ S = []) (ds_for (T := .one 3) (di_list (de_var 1 rfl)) (pg_one 3 sc_greatest_of.nd) (fun i ρ S => ∃ bst : Nat, ρ = [.d (frsD found), .d (natsD rest), .d (.int (bst : Nat)), .un] ∧ S = [] ∧ bst = (rest.take i).foldl (gStep found) (rest.head?.getD 0) ∧ bst < found.length) ?_ ?_ ?_ ?_) ?_
  · rintro i ρ S ⟨_, rfl, rfl, _⟩; exact Nat.le_refl _
  · exact ⟨_, _, ⟨by walk_at "lel", [], rfl⟩, _, rfl, rfl, rfl, hlt _ hh⟩
  · rintro i d ρ S hd ⟨bst, rfl, rfl, hb1, hb2⟩
    obtain ⟨v, hv, rfl⟩ := of_map hd
    rw [List.getElem?_map] at hv
    cases hk : rest[i]? with
    | none => rw [hk] at hv; cases hv
    | some k =>
      rw [hk] at hv
      cases hv
      have hkl := hlt k (List.mem_of_getElem? hk)
      obtain ⟨p, p1, p2, p3⟩ := get bst hb2
      obtain ⟨q, q1, q2, q3⟩ := get k hkl
      have ip : atI (found.map frD) ((bst : Nat) : Int) = some (frD p) := atI_at bst (by rw [List.getElem?_map, p1]; rfl)
      have iq : atI (found.map frD) ((k : Nat) : Int) = some (frD q) := atI_at k (by rw [List.getElem?_map, q1]; rfl)
      have st : (rest.take (i + 1)).foldl (gStep found) (rest.head?.getD 0) = gStep found bst k := by
        rw [List.take_add_one, hk, List.foldl_append, ← hb1]
        rfl
      refine ⟨_, .one, ?_⟩
      refine dss_cons (ds_if (dt_val (de_call c_frac_below (hr.mono (by decide)) (da_cons (de_ix (de_var 0 rfl) (de_var 2 rfl) (ix_l ip)) (da_cons (de_ix (de_var 0 rfl) (de_var 3 rfl) (ix_l iq)) da_nil)) (by walk_at "dats") ⟨p, q, 4000, 4000, p2, q2, by decide, by decide, by decide, rfl, rfl⟩)) (fun hk2 => ?_) fun hk2 => ?_)
      · refine dss_cons (ds_set 2 (de_var 3 rfl) ?_ sc_greatest_of.nd)
        refine dss_nil (dss_nil ⟨_, _, ⟨by walk_at "lel", [], rfl⟩, k, rfl, rfl, ?_, hkl⟩)
        rw [st]
        unfold gStep
        rw [p3, q3, if_pos hk2]
      · refine dss_nil (dss_nil ⟨_, _, ⟨by walk_at "lel", [], rfl⟩, bst, rfl, rfl, ?_, hb2⟩)
        rw [st]
        unfold gStep
        rw [p3, q3, if_neg (by rw [hk2]; decide)]
  · rintro ρ S ⟨bst, rfl, rfl, hb1, _⟩
    rw [List.length_map, List.length_map, List.take_length] at hb1
    subst hb1
    exact ⟨.un, rfl, rfl⟩
  · rintro ρ S ⟨x, rfl, rfl⟩
    exact dss_cons (ds_ret (de_var 2 rfl) rfl)
def R_indices (ds : List Dat) (r : Dat) : Prop := ∃ (b : Bench) (part : Fr), BenchOk b ∧ PartOk part ∧ ds = [benchD b, frD part] ∧ r = frsD (indices b part)
theorem ok_indices_found (F : FT K mg "indices_found" s_indices_found P_indices_found) (z : Zb mg) (c_quotients : Cal P w K mg base 5 "quotients" (spL K R_quotients)) (c_greatest_of : Cal P w K mg base 2 "greatest_of" (spP K R_greatest_of)) : Cal P w K mg base 6 "indices_found" (spP K R_indices) := by
  obtain ⟨f, fd, F, gm, hb⟩ := F.ex
  refine cal_of F gm hb sc_indices_found (by decide) (fun ds r ⟨_, _, _, _, h, _⟩ => by rw [h]; rfl) fun cdv A outer s H E hr c ds r hR => ?_
  obtain ⟨b, part, hbn, hp, rfl, rfl⟩ := hR
  have few := hbn.few
  have l1 : lenD (benchD b) = some b.length := by simp [lenD, benchD]
  have hu := hr.units
  refine dss_cons (ds_set 2 de_dnewK ?_ sc_indices_found.nd)
  refine dss_cons (ds_set 3 (de_lstO da_nil (by walk_at "dats") (by walk_at "le")) ?_ sc_indices_found.nd)
  refine dss_cons (ds_set 4 (de_listRg (m := b.length) z.list z.range (de_len z.len (da_cons (de_var 0 rfl) da_nil) l1) (by omega)) ?_ sc_indices_found.nd)
  refine dss_cut (fun ρ S => ∃ x y T, ρ = [.d (benchD b), .d (frD part), .o 0, .o 1, .o 2, x, y, .un] ∧ S = .k (accD (idxAll b part)) :: T) (ds_while (fun n ρ S => ∃ ws rest acc, n = rest.length ∧ IdxAt b part ws rest acc ∧ ρ = [.d (benchD b), .d (frD part), .o 0, .o 1, .o 2, .un, .un, .un] ∧ S = [.k (accD acc), .l ((casts ws).map .int), .l ((casts rest).map .int)]) b.length ?_ ⟨[], List.range b.length, [], by rw [List.length_range], IdxAt.zero b part, rfl, rfl⟩ ?_) ?_
  · rintro n ρ S ⟨ws, rest, acc, _, _, rfl, rfl⟩; exact Nat.le_refl _
  · rintro n ρ S ⟨ws, rest, acc, rfl, ia, rfl, rfl⟩
    refine ⟨_, _, dt_cmp (de_lenO z.len (da_cons (de_var 4 rfl) da_nil) rfl) de_int od_gt, fun hk => ?_, fun hk => ?_⟩
    · have hk2 := of_decide_eq_true hk
      rw [List.length_map, casts_len] at hk2
      have hne : rest ≠ [] := fun e => by rw [e] at hk2; simp at hk2
      obtain ⟨gm', inx⟩ := ia.next hbn hp hne
      have hq := quot_ok (ws := ws) hbn hp
      have hql := quot_len b part ws
      have hbl := ia.lt _ gm'
      have hnew := ia.new _ gm'
      have hal := ia.al
      have hwr := ia.wr
      obtain ⟨j, j1, j2, j3⟩ := first_of gm'
      have hle : (rest.erase (gOf (quot b part ws) rest)).length < rest.length := by
        rw [List.length_erase_of_mem gm']
        have := List.length_pos_of_mem gm'
        omega
      have R1 : R_greatest_of [frsD (quot b part ws), natsD rest] (.int (gOf (quot b part ws) rest : Nat)) := ⟨quot b part ws, rest, fun p h => (hq p h).mono (by decide), hne, fun k h => by rw [hql]; exact ia.lt k h, by omega, rfl, rfl⟩
      have hfb : (quot b part ws)[gOf (quot b part ws) rest]? = some (gAt (quot b part ws) (gOf (quot b part ws) rest)) := by
        have e := List.getElem?_eq_getElem (show gOf (quot b part ws) rest < (quot b part ws).length by omega)
        unfold gAt
        rw [e]
        rfl
      generalize hbest : gOf (quot b part ws) rest = best at *
      have hix : atI ((quot b part ws).map frD) ((best : Nat) : Int) = some (frD (gAt (quot b part ws) best)) := atI_at best (by rw [List.getElem?_map, hfb]; rfl)
      refine dss_cons (ds_set 5 (de_callLJ (zs := (quot b part ws).map frD) c_quotients (hr.mono (by decide)) (da_cons (de_var 0 rfl) (da_cons (de_var 1 rfl) (da_cons (de_var 3 rfl) da_nil))) (.d (.d (.o (i := 1) rfl rfl .nil))) ⟨b, part, ws, hbn, hp, rfl, rfl⟩ (tup_frs _)) ?_ sc_indices_found.nd)
      refine dss_cons (ds_set 6 (de_callJ c_greatest_of (hr.mono (by decide)) (da_cons (de_var 5 rfl) (da_cons (de_var 4 rfl) da_nil)) (.o (i := 3) rfl rfl (.o (i := 2) rfl rfl .nil)) R1 rfl) ?_ sc_indices_found.nd)
      refine dss_cons (ds_putK (k := 0) (kis := accD acc) hu (de_ix (de_var 5 rfl) (de_var 6 rfl) (ix_o (k := 3) rfl hix)) (de_var 2 rfl) (de_var 6 rfl) rfl (by unfold accD; rw [List.length_map]; omega) ?_)
      rw [accD_put hnew]
      refine dss_cons (ds_expr (de_append (k := 1) (de_var 3 rfl) (de_var 6 rfl) ⟨_, rfl⟩ rfl (by rw [List.length_map, casts_len]; omega)) ?_)
      refine dss_cons (ds_expr (de_remove (k := 2) (ms := casts rest) (j := j) (de_var 4 rfl) (de_var 6 rfl) ⟨_, rfl⟩ rfl (casts_get.mpr j1) (fun m hm e => j2 m hm (casts_get.mp e))) ?_)
      rw [casts_erase, ← j3]
      refine dss_nil ⟨_, hle, _, [.k (accD (acc ++ [(best, gAt (quot b part ws) best)])), .l ((casts (ws ++ [best])).map .int), .l ((casts (rest.erase best)).map .int)], ⟨by walk_at "lel", [.l ((quot b part ws).map frD)], ?_⟩, _, _, _, rfl, inx, rfl, rfl⟩
      rw [casts_snoc, List.map_append]
      rfl
    · have hk2 := of_decide_eq_false hk
      rw [List.length_map, casts_len] at hk2
      have e0 : rest = [] := List.eq_nil_of_length_eq_zero (by omega)
      subst e0
      have hf := ia.fin
      rw [List.length_nil, idxLoop] at hf
      subst hf
      exact ⟨_, _, _, rfl, rfl⟩
  · rintro ρ S ⟨x, y, T, rfl, rfl⟩
    have il := indices_len b part
    refine dss_cons (ds_ret (de_lc ((indices b part).map frD) (fun _ => .k (accD (idxAll b part)) :: T) [("stand", 7)] (.one 7) (di_range1 z.range (de_len z.len (da_cons (de_var 0 rfl) da_nil) l1) (by omega) (by omega)) sc_indices_found.nd (blkOk_by (N := N_indices_found) (sc := defScope s_indices_found) (by decide +kernel)) (fun _ _ _ _ _ => pg_one 7 sc_indices_found.nd)
      ⟨by rw [nums_len]; omega, by rw [nums_len, List.length_map, il]; omega, by simp [Tg.own], fun _ => Nat.le_refl _, fun i d zz hd hz => ?_⟩) rfl)
    obtain ⟨hi, ed⟩ := of_nums hd
    have hi' : i < b.length := by omega
    have e0 : (0 : Int) + ((i : Nat) : Int) = ((i : Nat) : Int) := by omega
    rw [e0] at ed
    subst ed
    obtain ⟨q, hq, rfl⟩ := of_map hz
    obtain ⟨p, p1, p2, p3⟩ := indices_get hbn hp hi'
    rw [p1] at hq
    cases hq
    exact ⟨_, .one, fun c => fun s0 H0 C cl fp => de_getK (k := 0) (kis := accD (idxAll b part)) hu (de_var 2 rfl) (de_var 7 rfl) rfl (by rw [accD_val, p2]; rfl)⟩
end
end Tw
end
section
set_option Elab.async false
set_option linter.all false
set_option maxRecDepth 100000
set_option maxHeartbeats 1000000
namespace Tw
open PySem PySem.Spec PyProof.Rows L2
open Evl (Ex)
theorem valD_zip : ∀ {keys : List (List Int)} {ds : List Dat} {i : Nat} {k : List Int} {d : Dat}, keys.Nodup → keys[i]? = some k → ds[i]? = some d → valD (keys.zip ds) k = some d
  | k0 :: keys, d0 :: ds, 0, k, d, _, h1, h2 => by
    simp at h1 h2
    subst h1 h2
    exact valD_pos rfl
  | k0 :: keys, d0 :: ds, i + 1, k, d, hn, h1, h2 => by
    rw [List.nodup_cons] at hn
    have h1' : keys[i]? = some k := by simpa using h1
    have h2' : ds[i]? = some d := by simpa using h2
    rw [List.zip_cons_cons, valD_neg (by exact fun z => hn.1 (by rw [show k0 = k from z]; exact List.mem_of_getElem? h1'))]
    exact valD_zip hn.2 h1' h2'
  | [], _, _, _, _, _, h, _ => by simp at h
  | _ :: _, [], _, _, _, _, _, h => by simp at h
/-- the number of a bench -/
def isBN (nb : Nat) : Dat → Bool
  | .int i => decide (0 ≤ i) && decide (i < (nb : Nat))
  | _ => false
def hasSt (k : Book) : Dat → Bool
  | .dic kvs => decide (kvs.length = (sts k).length) && (sts k).all fun s => (valD kvs s).isSome
  | _ => false
theorem hasSt_dic (k : Book) (kvs : List (List Int × Dat)) : hasSt k (.dic kvs) = (decide (kvs.length = (sts k).length) && (sts k).all fun s => (valD kvs s).isSome) := rfl
def isPl (k : Book) : Dat → Bool
  | .dic kvs => hasSt k (.dic kvs) && kvs.all fun kv => isBN k.2.length kv.2
  | _ => false
theorem isPl_dic (k : Book) (kvs : List (List Int × Dat)) : isPl k (.dic kvs) = (hasSt k (.dic kvs) && kvs.all fun kv => isBN k.2.length kv.2) := rfl
def areW (k : Book) : Dat → Bool
  | .dic kvs => hasSt k (.dic kvs) && kvs.all fun kv => isFrD kv.2
  | _ => false
theorem areW_dic (k : Book) (kvs : List (List Int × Dat)) : areW k (.dic kvs) = (hasSt k (.dic kvs) && kvs.all fun kv => isFrD kv.2) := rfl
def stAt (k : Book) (bn : Nat) (s : List Int) : Stand := stOf (k.2[bn]?.getD []) (s[bn]?.getD 0).toNat
theorem stAt_get {k : Book} (hk : BookOk k) {s : List Int} (hs : s ∈ sts k) {bn : Nat} (hb : bn < k.2.length) : ∃ (b : Bench) (j : Nat) (t : Stand), k.2[bn]? = some b ∧ s[bn]? = some ((j : Nat) : Int) ∧ b[j]? = some t ∧ stAt k bn s = t ∧ BenchOk b ∧ StandOk b.length t ∧ (sizes k)[bn]? = some b.length := by
  have e := List.getElem?_eq_getElem hb
  generalize k.2[bn] = b at e
  have hbo := hk.bn b (List.mem_of_getElem? e)
  have hsz : (sizes k)[bn]? = some b.length := by unfold sizes; rw [List.getElem?_map, e]; rfl
  obtain ⟨_, h2⟩ := sts_ok.mp hs
  obtain ⟨j, e1, e2⟩ := h2 bn _ hsz
  have et := List.getElem?_eq_getElem e2
  refine ⟨b, j, _, e, e1, et, ?_, hbo, hbo.st _ (List.mem_of_getElem? et), hsz⟩
  unfold stAt stOf
  rw [e, e1]
  show b[((j : Nat) : Int).toNat]?.getD _ = _
  rw [show ((j : Nat) : Int).toNat = j by omega, et]
  rfl
def triedS (s : List Int) (bn : Nat) (W : List Int → Fr) (ms : List Move) : Fr := ms.foldl (fun t m => fAdd t (fMul m.1 (W (moved s bn m.2)))) (0, 1)
def tried (k : Book) (s : List Int) (bn : Nat) (W : List Int → Fr) : Fr := fAdd (stAt k bn s).1 (fMul k.1 (triedS s bn W (stAt k bn s).2))
theorem triedS_take {s : List Int} {bn : Nat} {W : List Int → Fr} {ms : List Move} {i : Nat} {m : Move} (h : ms[i]? = some m) : triedS s bn W (ms.take (i + 1)) = fAdd (triedS s bn W (ms.take i)) (fMul m.1 (W (moved s bn m.2))) := by
  unfold triedS
  rw [List.take_add_one, h, List.foldl_append]
  rfl
/-- worths of less than w bits at all states -/
structure Wd (k : Book) (kvs : List (List Int × Dat)) (W : List Int → Fr) (w : Nat) : Prop where
  at' : ∀ s ∈ sts k, valD kvs s = some (frD (W s)) ∧ Fb w (W s)
  lo : 1 ≤ w
  hi : w ≤ 1200
theorem moved_mem {k : Book} {s : List Int} (hs : s ∈ sts k) {bn n to : Nat} (hb : (sizes k)[bn]? = some n) (ht : to < n) : moved s bn to ∈ sts k := sts_ok.mpr (moved_ok (sts_ok.mp hs) hb ht)
theorem triedS_fb {k : Book} {kvs : List (List Int × Dat)} {W : List Int → Fr} {w n : Nat} (hW : Wd k kvs W w) {s : List Int} (hs : s ∈ sts k) {bn : Nat} (hb : (sizes k)[bn]? = some n) {ms : List Move} (hm : MovesOk n ms) : ∀ i, i ≤ ms.length → Fb (1 + (w + 6) * i) (triedS s bn W (ms.take i))
  | 0, _ => (⟨by decide, by decide, by decide⟩ : Fb 1 ((0, 1) : Fr)).mono (by omega)
  | i + 1, hi => by
    have e := List.getElem?_eq_getElem (show i < ms.length by omega)
    rw [triedS_take e]
    have mem := List.mem_of_getElem? e
    have ih := triedS_fb hW hs hb hm i (by omega)
    have h1 := Fb.mul (hm.low _ mem).2.2 (hW.at' _ (moved_mem hs hb (hm.lt _ mem))).2
    have e2 : (w + 6) * (i + 1) = (w + 6) * i + (w + 6) := Nat.mul_succ _ _
    exact (Fb.add ih h1).mono (by omega)
section
variable {P : Program} {w : World} {K : PySem.W.Frag} {mg : Str → Option Value} {base : Heap}
def R_is_bench_number (ds : List Dat) (r : Dat) : Prop := ∃ (k : Book) (d : Dat), ds = [bookD k, d] ∧ r = .bl (isBN k.2.length d)
theorem ok_is_bench_number (F : FT K mg "is_bench_number" s_is_bench_number P_is_bench_number) (z : Zb mg) : Cal P w K mg base 1 "is_bench_number" (spP K R_is_bench_number) := by
  obtain ⟨f, fd, F, gm, hb⟩ := F.ex
  refine cal_of F gm hb sc_is_bench_number (by decide) (fun ds r ⟨_, _, h, _⟩ => by rw [h]; rfl) fun cdv A outer s H E hr c ds r hR => ?_
  obtain ⟨k, d, rfl, rfl⟩ := hR
  have l1 : lenD (.lst (k.2.map benchD)) = some k.2.length := by simp [lenD]
  by_cases hi : ∃ i, d = .int i
  · obtain ⟨i, rfl⟩ := hi
    refine dss_cons (ds_ret (de_and (de_isi z.isinstance z.int (de_var 1 rfl) (kit_int _) boot_int') fun hk => (de_and (de_not (de_isi z.isinstance z.bool (de_var 1 rfl) (kit_bool _) boot_bool')) fun hk => (de_one (de_chain (k2 := decide (i < (k.2.length : Nat))) de_int (de_var 1 rfl) od_le op_lt (fun _ => de_len z.len (da_cons (de_ix (de_var 0 rfl) de_int (ix_t (atI_at 1 rfl))) da_nil) l1) (fun _ => do_I0 fun _ => .bl _))))) ?_)
    rfl
  · have e : isBN k.2.length d = false := by
      cases d <;> first | rfl | exact absurd ⟨_, rfl⟩ hi
    rw [e]
    cases hb' : isBlT d with
    | true =>
      refine dss_cons (ds_ret (r := .d (.bl (isIntT d && (!isBlT d && false)))) (de_and (de_isi z.isinstance z.int (de_var 1 rfl) (kit_int d) boot_int') fun hk => (de_and (de_not (de_isi z.isinstance z.bool (de_var 1 rfl) (kit_bool d) boot_bool')) fun hk => ?_)) ?_)
      · rw [hb'] at hk; exact ff hk
      · rw [hb']
        cases isIntT d <;> rfl
    | false =>
      have ht : isIntT d = false := by cases d <;> first | rfl | (exfalso; exact hi ⟨_, rfl⟩) | cases hb'
      refine dss_cons (ds_ret (r := .d (.bl (isIntT d && false))) (de_and (de_isi z.isinstance z.int (de_var 1 rfl) (kit_int d) boot_int') fun hk => ?_) ?_)
      · rw [ht] at hk; exact ff hk
      · rw [ht]; rfl
def R_has_states (ds : List Dat) (r : Dat) : Prop := ∃ (k : Book) (d : Dat), BookOk k ∧ ds = [bookD k, d] ∧ r = .bl (hasSt k d)
theorem hasSt_not {k : Book} {d : Dat} (h : isDicT d = false) : hasSt k d = false := by cases d <;> first | rfl | cases h
theorem sts_few {k : Book} (h : BookOk k) : (sts k).length ≤ 64 := by rw [sts_len]; exact h.many
theorem ok_has_states (F : FT K mg "has_states" s_has_states P_has_states) (z : Zb mg) (c_all_states : Cal P w K mg base 1 "all_states" (spP K R_all_states)) : Cal P w K mg base 2 "has_states" (spP K R_has_states) := by
  obtain ⟨f, fd, F, gm, hb⟩ := F.ex
  refine cal_of F gm hb sc_has_states (by decide) (fun ds r ⟨_, _, _, h, _⟩ => by rw [h]; rfl) fun cdv A outer s H E hr c ds r hR => ?_
  obtain ⟨k, d, hk0, rfl, rfl⟩ := hR
  have few := sts_few hk0
  have hu := hr.units
  refine dss_cons (ds_set 2 (de_call c_all_states (hr.mono (by decide)) (da_cons (de_var 0 rfl) da_nil) (by walk_at "dats") ⟨k, hk0, rfl, rfl⟩) ?_ sc_has_states.nd)
  cases hd : isDicT d with
  | false =>
    refine dss_cons (ds_if (dw_dt (dw_or (k2 := false) (dt_not (dt_val (de_isi z.isinstance z.dict (de_var 1 rfl) (kit_dict d) boot_dict'))) fun hk => ?_)) (fun hk => ?_) fun hk => ?_)
    · rw [hd] at hk; exact tf hk
    · refine dss_cons (ds_ret de_bl ?_)
      rw [hasSt_not hd]
      rfl
    · rw [hd] at hk; exact tf hk
  | true =>
    obtain ⟨kvs, rfl⟩ : ∃ kvs, d = .dic kvs := by cases d <;> first | exact ⟨_, rfl⟩ | cases hd
    have l2 : lenD (statesD (statesOf (sizes k))) = some (sts k).length := by simp [lenD, statesD, sts]
    refine dss_cons (ds_if (dw_dt (dw_or (dt_not (dt_val (de_isi z.isinstance z.dict (de_var 1 rfl) (kit_dict _) boot_dict'))) fun hk => (dw_or1 (dt_cmp (de_lenM z.len (da_cons (de_var 1 rfl) da_nil)) (de_len z.len (da_cons (de_var 2 rfl) da_nil) l2) od_ne)))) (fun hk => ?_) fun hk => ?_)
    · refine dss_cons (ds_ret de_bl ?_)
      have e : ¬ kvs.length = (sts k).length := fun e => by
        rw [e] at hk
        simp [isDicT] at hk
      show _ = Sl.d (.bl (hasSt k (.dic kvs)))
      rw [hasSt_dic, decide_eq_false e]
      rfl
    · refine dss_nil ?_
      have e : kvs.length = (sts k).length := by
        simp [isDicT] at hk
        omega
      refine dss_cons (ds_ret (de_all (bs := (sts k).map fun s => (valD kvs s).isSome) z.all (da_cons (de_lc (((sts k).map fun s => (valD kvs s).isSome).map .bl) (fun _ => []) [("state", 3)] (.one 3) (di_list (de_var 2 rfl)) sc_has_states.nd (blkOk_by (N := N_has_states) (sc := defScope s_has_states) (by decide +kernel)) (fun _ _ _ _ _ => pg_one 3 sc_has_states.nd)
        ⟨by rw [List.length_map]; show (sts k).length ≤ _; omega, by rw [List.length_map, List.length_map, List.length_map]; rfl, by simp [Tg.own], fun _ => Nat.le_refl _, fun i d zz hd hz => ?_⟩) da_nil)) ?_)
      · obtain ⟨s', hs', rfl⟩ := of_map hd
        obtain ⟨y, hy, rfl⟩ := of_map hz
        have hs2 : (sts k)[i]? = some s' := hs'
        rw [List.getElem?_map, hs2] at hy
        cases hy
        exact ⟨_, .one, fun c => fun s0 H0 C cl fp => de_cmp (de_var 3 rfl) (de_var 1 rfl) (od_inD hu)⟩
      · show _ = Sl.d (.bl (hasSt k (.dic kvs)))
        rw [hasSt_dic, decide_eq_true e, List.all_map]
        rfl
def R_is_plan (ds : List Dat) (r : Dat) : Prop := ∃ (k : Book) (d : Dat), BookOk k ∧ ds = [bookD k, d] ∧ r = .bl (isPl k d)
theorem ok_is_plan (F : FT K mg "is_plan" s_is_plan P_is_plan) (z : Zb mg) (c_has_states : Cal P w K mg base 2 "has_states" (spP K R_has_states)) (c_is_bench_number : Cal P w K mg base 1 "is_bench_number" (spP K R_is_bench_number)) : Cal P w K mg base 3 "is_plan" (spP K R_is_plan) := by
  obtain ⟨f, fd, F, gm, hb⟩ := F.ex
  refine cal_of F gm hb sc_is_plan (by decide) (fun ds r ⟨_, _, _, h, _⟩ => by rw [h]; rfl) fun cdv A outer s H E hr c ds r hR => ?_
  obtain ⟨k, d, hk0, rfl, rfl⟩ := hR
  have few := sts_few hk0
  refine dss_cons (ds_if (dt_not (dt_val (de_call c_has_states (hr.mono (by decide)) (da_cons (de_var 0 rfl) (da_cons (de_var 1 rfl) da_nil)) (by walk_at "dats") ⟨k, d, hk0, rfl, rfl⟩))) (fun hk => ?_) fun hk => ?_)
  · refine dss_cons (ds_ret de_bl ?_)
    have e : hasSt k d = false := by simpa using hk
    have e2 : isPl k d = false := by
      cases d <;> first | rfl | (show (hasSt k _ && _) = false; rw [e]; rfl)
    rw [e2]
    rfl
  · have e : hasSt k d = true := by simpa using hk
    obtain ⟨kvs, rfl⟩ : ∃ kvs, d = .dic kvs := by cases d <;> first | exact ⟨_, rfl⟩ | (cases (show false = true from e); done)
    have el : kvs.length = (sts k).length := by
      rw [hasSt_dic, Bool.and_eq_true] at e
      exact of_decide_eq_true e.1
    refine dss_nil ?_
    refine dss_cons (ds_ret (de_all (bs := kvs.map fun kv => isBN k.2.length kv.2) z.all (da_cons (de_lcVals 1 ((kvs.map fun kv => isBN k.2.length kv.2).map .bl) [("bench", 2)] (.one 2) rfl sc_is_plan.nd (blkOk_by (N := N_is_plan) (sc := defScope s_is_plan) (by decide +kernel)) (fun _ _ _ _ _ => pg_one 2 sc_is_plan.nd)
        ⟨by unfold valsD; rw [List.length_map]; omega, by unfold valsD; rw [List.length_map, List.length_map, List.length_map], by simp [Tg.own], fun _ => Nat.le_refl _, fun i d zz hd hz => ?_⟩) da_nil)) ?_)
    · unfold valsD at hd
      rw [List.getElem?_map] at hd
      rw [List.getElem?_map, List.getElem?_map] at hz
      cases hkv : kvs[i]? with
      | none => rw [hkv] at hd; cases hd
      | some kv =>
        rw [hkv] at hd hz
        cases hd
        cases hz
        exact ⟨_, .one, fun c => fun s0 H0 C cl fp => de_call c_is_bench_number (hr.mono (by decide)) (da_cons (de_var 0 rfl) (da_cons (de_var 2 rfl) da_nil)) (by walk_at "dats") ⟨k, kv.2, rfl, rfl⟩⟩
    · show _ = Sl.d (.bl (isPl k (.dic kvs)))
      rw [isPl_dic, e, List.all_map]
      rfl
def R_look_at_plan (ds : List Dat) (r : Dat) : Prop := ∃ (k : Book) (d : Dat), BookOk k ∧ isPl k d = true ∧ ds = [bookD k, d] ∧ r = .non
theorem ok_look_at_plan (F : FT K mg "look_at_plan" s_look_at_plan P_look_at_plan) (c_is_plan : Cal P w K mg base 3 "is_plan" (spP K R_is_plan)) : Cal P w K mg base 4 "look_at_plan" (spP K R_look_at_plan) := by
  obtain ⟨f, fd, F, gm, hb⟩ := F.ex
  refine cal_of F gm hb sc_look_at_plan (by decide) (fun ds r ⟨_, _, _, _, h, _⟩ => by rw [h]; rfl) fun cdv A outer s H E hr c ds r hR => ?_
  obtain ⟨k, d, hk0, hpl, rfl, rfl⟩ := hR
  refine dss_cons (ds_if (dt_not (dt_val (de_call c_is_plan (hr.mono (by decide)) (da_cons (de_var 0 rfl) (da_cons (de_var 1 rfl) da_nil)) (by walk_at "dats") ⟨k, d, hk0, rfl, rfl⟩))) (fun hk => ?_) fun hk => ?_)
  · rw [hpl] at hk; exact ff hk
  · exact dss_nil (dss_nil rfl)
def R_moved_to (ds : List Dat) (r : Dat) : Prop := ∃ (s : List Int) (bn to : Nat), bn < s.length ∧ s.length ≤ 10 ∧ ds = [.st s, .int (bn : Nat), .int (to : Nat)] ∧ r = .st (moved s bn to)
theorem ok_moved_to (F : FT K mg "moved_to" s_moved_to P_moved_to) : Cal P w K mg base 1 "moved_to" (spP K R_moved_to) := by
  obtain ⟨f, fd, F, gm, hb⟩ := F.ex
  refine cal_of F gm hb sc_moved_to (by decide) (fun ds r ⟨_, _, _, _, _, h, _⟩ => by rw [h]; rfl) fun cdv A outer s H E hr c ds r hR => ?_
  obtain ⟨s', bn, to, hb', hl, rfl, rfl⟩ := hR
  have e1 : cutN s' none (some ((bn : Nat) : Int)) = s'.take bn := cutN_to (by omega)
  have e2 : cutN s' (some (((bn : Nat) : Int) + 1)) none = s'.drop (bn + 1) := cutN_from (k := bn + 1) (by omega)
  have t1 : (s'.take bn).length ≤ 10 := by rw [List.length_take]; omega
  have t2 : (s'.drop (bn + 1)).length ≤ 10 := by rw [List.length_drop]; omega
  refine dss_cons (ds_ret (de_bin (de_bin (de_slice (de_var 0 rfl) do_none (do_some (de_var 1 rfl))) (de_tupSt (ns := [((to : Nat) : Int)]) (da_cons (de_var 2 rfl) da_nil) (by walk_at "le")) (od_catS (by rw [e1]; simp; omega))) (de_slice (de_var 0 rfl) (do_some (de_bin (de_var 1 rfl) de_int od_add)) do_none) (od_catS (by rw [e1, e2]; simp; omega))) ?_)
  rw [e1, e2]
  rfl
def R_tried (ds : List Dat) (r : Dat) : Prop := ∃ (k : Book) (s : List Int) (bn : Nat) (kvs : List (List Int × Dat)) (W : List Int → Fr) (wb : Nat), BookOk k ∧ s ∈ sts k ∧ bn < k.2.length ∧ Wd k kvs W wb ∧ ds = [bookD k, .st s, .int (bn : Nat), .dic kvs] ∧ r = frD (tried k s bn W)
theorem ok_tried_worth (F : FT K mg "tried_worth" s_tried_worth P_tried_worth) (g_NOTHING_plans : GC K mg "NOTHING_plans" (frD (0, 1))) (c_frac_sum : Cal P w K mg base 3 "frac_sum" (spP K (R_fr fAdd))) (c_frac_times : Cal P w K mg base 3 "frac_times" (spP K (R_fr fMul))) (c_moved_to : Cal P w K mg base 1 "moved_to" (spP K R_moved_to)) : Cal P w K mg base 4 "tried_worth" (spP K R_tried) := by
  obtain ⟨f, fd, F, gm, hb⟩ := F.ex
  refine cal_of F gm hb sc_tried_worth (by decide) (fun ds r ⟨_, _, _, _, _, _, _, _, _, _, h, _⟩ => by rw [h]; rfl) fun cdv A outer s H E hr c ds r hR => ?_
  obtain ⟨k, st, bn, kvs, W, wb, hk0, hst, hbn, hW, rfl, rfl⟩ := hR
  obtain ⟨b, j, t, g1, g2, g3, g4, g5, g6, g7⟩ := stAt_get hk0 hst hbn
  have hu := hr.units
  have wlo := hW.lo
  have whi := hW.hi
  have mf := g6.mv.few
  have sl0 : st.length = k.2.length := by
    have := (sts_ok.mp hst).1
    rw [this]
    exact List.length_map _
  have kf := hk0.few
  refine dss_cons (ds_unpack (T := .two 4 5) (pg_two 4 5 sc_tried_worth.nd) (d := standD t) (de_ix (de_ix (de_ix (de_var 0 rfl) de_int (ix_t (atI_at 1 rfl))) (de_var 2 rfl) (ix_l (d := benchD b) (atI_at bn (by rw [List.getElem?_map, g1]; rfl)))) (de_ix (de_var 1 rfl) (de_var 2 rfl) (ix_s (n := ((j : Nat) : Int)) (atI_at bn g2))) (ix_l (d := standD t) (atI_at j (by rw [List.getElem?_map, g3]; rfl)))) .two ?_)
  refine dss_cons (ds_set 6 (de_glob g_NOTHING_plans) ?_ sc_tried_worth.nd)
  refine dss_cut (fun ρ S => ∃ x y, ρ = [.d (bookD k), .d (.st st), .d (.int (bn : Nat)), .d (.dic kvs), .d (frD t.1), .d (movesD t.2), .d (frD (triedS st bn W t.2)), x, y] ∧ S = []) (ds_for (T := .two 7 8) (di_list (de_var 5 rfl)) (pg_two 7 8 sc_tried_worth.nd) (fun i ρ S => ρ = [.d (bookD k), .d (.st st), .d (.int (bn : Nat)), .d (.dic kvs), .d (frD t.1), .d (movesD t.2), .d (frD (triedS st bn W (t.2.take i))), .un, .un] ∧ S = []) ?_ ?_ ?_ ?_) ?_
  · rintro i ρ S ⟨rfl, rfl⟩; exact Nat.le_refl _
  · exact ⟨_, _, ⟨by walk_at "lel", [], rfl⟩, rfl, rfl⟩
  · rintro i d ρ S hd ⟨rfl, rfl⟩
    obtain ⟨m, hm, rfl⟩ := of_map hd
    have mem := List.mem_of_getElem? hm
    have hi := (List.getElem?_eq_some_iff.mp hm).1
    obtain ⟨l1, l2, l3⟩ := g6.mv.low m mem
    have lt := g6.mv.lt m mem
    obtain ⟨w1, w2⟩ := hW.at' _ (moved_mem hst g7 lt)
    have fb := triedS_fb hW hst g7 g6.mv i (by omega)
    have e2 : (wb + 6) * i ≤ (wb + 6) * 4 := Nat.mul_le_mul (Nat.le_refl _) (by omega)
    refine ⟨_, .two, ?_⟩
    refine dss_cons (ds_set 6 (de_call c_frac_sum (hr.mono (by decide)) (da_cons (de_var 6 rfl) (da_cons (de_call c_frac_times (hr.mono (by decide)) (da_cons (de_var 7 rfl) (da_cons (de_getD hu (de_var 3 rfl) (de_call c_moved_to (hr.mono (by decide)) (da_cons (de_var 1 rfl) (da_cons (de_var 2 rfl) (da_cons (de_var 8 rfl) da_nil))) (by walk_at "dats") ⟨st, bn, m.2, by omega, by omega, rfl, rfl⟩) w1) da_nil)) (by walk_at "dats") ⟨m.1, W (moved st bn m.2), 5, wb, l3, w2, by decide, by omega, by omega, rfl, rfl⟩) da_nil)) (by walk_at "dats") ⟨_, _, _, 5 + wb, fb, Fb.mul l3 w2, by omega, by omega, by omega, rfl, rfl⟩) ?_ sc_tried_worth.nd)
    refine dss_nil ⟨_, _, ⟨?_, [], rfl⟩, rfl, rfl⟩
    rw [triedS_take hm]
    walk_at "lel"
  · rintro ρ S ⟨rfl, rfl⟩
    refine ⟨.un, .un, ?_, rfl⟩
    rw [List.length_map, List.take_length]
  · rintro ρ S ⟨x, y, rfl, rfl⟩
    have fb := triedS_fb hW hst g7 g6.mv t.2.length (Nat.le_refl _)
    rw [List.take_length] at fb
    have e2 : (wb + 6) * t.2.length ≤ (wb + 6) * 5 := Nat.mul_le_mul (Nat.le_refl _) mf
    have fb2 := Fb.mul hk0.part.fb fb
    refine dss_cons (ds_ret (de_call c_frac_sum (hr.mono (by decide)) (da_cons (de_var 4 rfl) (da_cons (de_call c_frac_times (hr.mono (by decide)) (da_cons (de_ix (de_var 0 rfl) de_int (ix_t (atI_at 0 rfl))) (da_cons (de_var 6 rfl) da_nil)) (by walk_at "dats") ⟨k.1, triedS st bn W t.2, 4, _, hk0.part.fb, fb, by decide, by omega, by omega, rfl, rfl⟩) da_nil)) (by walk_at "dats") ⟨t.1, _, 4, _, g6.fb, fb2, by decide, by omega, by omega, rfl, rfl⟩) ?_)
    unfold tried
    rw [g4]
    rfl
end
end Tw
end
section
/-! TwMir2: the rows of a plan, greatest benches; plain Lean. -/
set_option autoImplicit false
set_option linter.all false
namespace Tw
def stOf2 (k : Book) (bn : Nat) (s : List Int) : Stand := stOf (k.2[bn]?.getD []) (s[bn]?.getD 0).toNat
def ixS (k : Book) (s : List Int) : Nat := (sts k).idxOf s
theorem ixS_get {k : Book} {s : List Int} (h : s ∈ sts k) : ixS k s < (sts k).length ∧ (sts k)[ixS k s]? = some s := by
  have h1 : ixS k s < (sts k).length := List.idxOf_lt_length_iff.mpr h
  refine ⟨h1, ?_⟩
  rw [List.getElem?_eq_getElem h1]
  congr 1
  exact List.getElem_idxOf h1
def pl (ps : List Nat) (i : Nat) : Nat := ps[i]?.getD 0
structure PlOk (k : Book) (ps : List Nat) : Prop where
  len : ps.length = (sts k).length
  lt : ∀ n ∈ ps, n < k.2.length
theorem PlOk.at' {k : Book} {ps : List Nat} (h : PlOk k ps) {i : Nat} (hi : i < (sts k).length) : ps[i]? = some (pl ps i) ∧ pl ps i < k.2.length := by
  have hi2 : i < ps.length := by rw [h.len]; exact hi
  have e := List.getElem?_eq_getElem hi2
  have e2 : pl ps i = ps[i] := by unfold pl; rw [e]; rfl
  rw [e2]
  exact ⟨e, h.lt _ (List.mem_of_getElem? e)⟩
def wPs (k : Book) (s : List Int) (bn : Nat) : List (Nat × Fr) := mkP k.1 (fun to => ixS k (moved s bn to)) (stOf2 k bn s).2
def stN (k : Book) (i : Nat) : List Int := (sts k)[i]?.getD []
def wRows (k : Book) (ps : List Nat) : List (List Fr) := (List.range (sts k).length).map fun i => rowOf (sts k).length (wPs k (stN k i) (pl ps i)) i
def wSums (k : Book) (ps : List Nat) : List Fr := (List.range (sts k).length).map fun i => (stOf2 k (pl ps i) (stN k i)).1
def worthsF (k : Book) (ps : List Nat) : List Fr := solve (sysA (wRows k ps) (wSums k ps)) (sts k).length
theorem stOf2_get {k : Book} (hk : BookOk k) {s : List Int} (hs : s ∈ sts k) {bn : Nat} (hb : bn < k.2.length) : ∃ (b : Bench) (j : Nat) (t : Stand), k.2[bn]? = some b ∧ s[bn]? = some ((j : Nat) : Int) ∧ b[j]? = some t ∧ stOf2 k bn s = t ∧ BenchOk b ∧ StandOk b.length t ∧ (sizes k)[bn]? = some b.length := by
  have e := List.getElem?_eq_getElem hb
  generalize k.2[bn] = b at e
  have hbo := hk.bn b (List.mem_of_getElem? e)
  have hsz : (sizes k)[bn]? = some b.length := by unfold sizes; rw [List.getElem?_map, e]; rfl
  obtain ⟨_, h2⟩ := sts_ok.mp hs
  obtain ⟨j, e1, e2⟩ := h2 bn _ hsz
  have et := List.getElem?_eq_getElem e2
  refine ⟨b, j, _, e, e1, et, ?_, hbo, hbo.st _ (List.mem_of_getElem? et), hsz⟩
  unfold stOf2 stOf
  rw [e, e1]
  show b[((j : Nat) : Int).toNat]?.getD _ = _
  rw [show ((j : Nat) : Int).toNat = j by omega, et]
  rfl
theorem wPs_ok {k : Book} (hk : BookOk k) {s : List Int} (hs : s ∈ sts k) {bn : Nat} (hb : bn < k.2.length) : Ps (sts k).length (wPs k s bn) := by
  obtain ⟨b, j, t, g1, g2, g3, g4, g5, g6, g7⟩ := stOf2_get hk hs hb
  have e : (t.2.filter fun _ => true) = t.2 := List.filter_eq_self.mpr fun _ _ => rfl
  have mm : ∀ a, a < b.length → moved s bn a ∈ sts k := fun a ha => sts_ok.mpr (moved_ok (sts_ok.mp hs) g7 ha)
  have h := mkP_ps hk.part g6.mv (fun _ => true) (fun to => ixS k (moved s bn to)) (fun a c ha hc e => by
    have e1 := (ixS_get (mm a ha)).2
    have e2 := (ixS_get (mm c hc)).2
    rw [e, e2] at e1
    exact (moved_inj (Option.some.inj e1)).symm) (n := (sts k).length) fun a ha => (ixS_get (mm a ha)).1
  rw [e] at h
  unfold wPs
  rw [g4]
  exact h
theorem stN_get {k : Book} {i : Nat} (hi : i < (sts k).length) : (sts k)[i]? = some (stN k i) ∧ stN k i ∈ sts k := by
  have e := List.getElem?_eq_getElem hi
  have e2 : stN k i = (sts k)[i] := by unfold stN; rw [e]; rfl
  rw [e2]
  exact ⟨e, List.mem_of_getElem? e⟩
theorem wSys_ok {k : Book} (hk : BookOk k) {ps : List Nat} (hp : PlOk k ps) : SysOk (sts k).length (wRows k ps) (wSums k ps) := by
  refine ⟨by unfold wRows; simp, by unfold wSums; simp, fun i row h => ?_, fun s h => ?_⟩
  · unfold wRows at h
    rw [List.getElem?_map] at h
    have hi : i < (sts k).length := by
      cases e : (List.range (sts k).length)[i]? with
      | none => rw [e] at h; cases h
      | some j =>
        have := (List.getElem?_eq_some_iff.mp e).1
        rw [List.length_range] at this
        exact this
    rw [List.getElem?_range hi] at h
    cases h
    exact rowOf_ok (wPs_ok hk (stN_get hi).2 (hp.at' hi).2) hi
  · unfold wSums at h
    obtain ⟨i, hi, rfl⟩ := List.mem_map.mp h
    have hi := List.mem_range.mp hi
    obtain ⟨b, j, t, g1, g2, g3, g4, g5, g6, g7⟩ := stOf2_get hk (stN_get hi).2 (hp.at' hi).2
    rw [g4]
    exact g6.fb
theorem worthsF_len (k : Book) (ps : List Nat) : (worthsF k ps).length = (sts k).length := solve_len _ _
theorem worthsF_ok {k : Book} (hk : BookOk k) (hm : many k ≤ 18) {ps : List Nat} (hp : PlOk k ps) : ∀ p ∈ worthsF k ps, Low p ∧ Fb 1110 p := (wSys_ok hk hp).solve_fb (by rw [sts_len]; exact hm)
theorem not_take {α : Type} {l : List α} (h : l.Nodup) {j : Nat} {x : α} (e : l[j]? = some x) : x ∉ l.take j := by
  obtain ⟨hj, e2⟩ := List.getElem?_eq_some_iff.mp e
  have e3 : l = l.take j ++ l.drop j := (List.take_append_drop j l).symm
  rw [e3, List.nodup_append] at h
  intro hx
  refine h.2.2 x hx x ?_ rfl
  rw [List.drop_eq_getElem_cons hj, e2]
  exact List.mem_cons_self
theorem Ps.take {n : Nat} {ps : List (Nat × Fr)} (h : Ps n ps) (j : Nat) : RowAt n (putRow (ps.take j) (List.replicate n (0, 1))) (0 + sumV (ps.take j)) (0 + (ps.take j).length) (fun i => True ∧ i ∉ (ps.take j).map (·.1)) :=
  putRow_at (RowAt.zero n) (by rw [List.map_take]; exact h.nd.sublist (List.take_sublist _ _)) fun p hp => by
    have m := List.mem_of_mem_take hp
    exact ⟨h.lt p m, trivial, h.fb p m, h.pos p m, h.le1 p m⟩
theorem putRow_take {ps : List (Nat × Fr)} {j : Nat} {p : Nat × Fr} (e : ps[j]? = some p) (r : List Fr) : putRow (ps.take (j + 1)) r = (putRow (ps.take j) r).set p.1 (fSub (0, 1) p.2) := by
  rw [List.take_add_one, e]
  unfold putRow
  rw [List.foldl_append]
  rfl

/-! ### the greatest bench -/
def gbV (idx : List (List Fr)) (s : List Int) (b : Nat) : Fr := gAt (idx[b]?.getD []) (s[b]?.getD 0).toNat
def gbStep (idx : List (List Fr)) (s : List Int) (best b : Nat) : Nat := if fLt (gbV idx s best) (gbV idx s b) = true then b else best
def gBench (idx : List (List Fr)) (s : List Int) : Nat := (List.range s.length).foldl (gbStep idx s) 0
theorem gb_lt {idx : List (List Fr)} {s : List Int} {n : Nat} : ∀ {l : List Nat} {x : Nat}, (∀ b ∈ l, b < n) → x < n → l.foldl (gbStep idx s) x < n
  | [], x, _, hx => hx
  | b :: l, x, h, hx => by
    rw [List.foldl_cons]
    refine gb_lt (fun c hc => h c (List.mem_cons_of_mem _ hc)) ?_
    unfold gbStep
    split
    · exact h b List.mem_cons_self
    · exact hx
theorem gBench_lt {idx : List (List Fr)} {s : List Int} (h : 0 < s.length) : gBench idx s < s.length := gb_lt (fun b hb => List.mem_range.mp hb) h
def allIdx (k : Book) : List (List Fr) := k.2.map fun b => indices b k.1
def plIdx (k : Book) : List Nat := (sts k).map (gBench (allIdx k))
theorem sts_slen {k : Book} {s : List Int} (h : s ∈ sts k) : s.length = k.2.length := by
  rw [(sts_ok.mp h).1]
  exact List.length_map _
theorem plIdx_ok {k : Book} (hk : BookOk k) : PlOk k (plIdx k) := by
  refine ⟨by unfold plIdx; simp, fun n hn => ?_⟩
  unfold plIdx at hn
  obtain ⟨s, hs, rfl⟩ := List.mem_map.mp hn
  have := sts_slen hs
  have p := hk.pos
  rw [← this]
  exact gBench_lt (by omega)
end Tw
end
section
set_option Elab.async false
set_option linter.all false
set_option maxRecDepth 100000
set_option maxHeartbeats 1000000
namespace Tw
open PySem PySem.Spec PyProof.Rows L2
open Evl (Ex)
def planD (k : Book) (ps : List Nat) : Dat := .dic ((sts k).zip ((casts ps).map .int))
def worthsD (k : Book) (ps : List Nat) : Dat := .dic ((sts k).zip ((worthsF k ps).map frD))
theorem plan_val {k : Book} {ps : List Nat} (hp : PlOk k ps) {i : Nat} (hi : i < (sts k).length) : valD ((sts k).zip ((casts ps).map .int)) (stN k i) = some (.int ((pl ps i : Nat) : Int)) := by
  refine valD_zip (nodup_states _) (stN_get hi).1 ?_
  rw [List.getElem?_map]
  have := casts_get.mpr (hp.at' hi).1
  rw [this]
  rfl
/-- the places of the states -/
def plcs (k : Book) (i : Nat) : List (List Int × Dat) := ((sts k).take i).zip ((casts (List.range i)).map .int)
theorem valD_none {κ : Type} [DecidableEq κ] {kvs : List (κ × Dat)} {k : κ} (h : ∀ kv ∈ kvs, kv.1 ≠ k) : valD kvs k = none := by
  induction kvs with
  | nil => rfl
  | cons kv kvs ih =>
    rw [valD_neg (h kv List.mem_cons_self)]
    exact ih fun x hx => h x (List.mem_cons_of_mem _ hx)
theorem zip_keys {keys : List (List Int)} {ds : List Dat} {kv : List Int × Dat} (h : kv ∈ keys.zip ds) : kv.1 ∈ keys := by
  have : (kv.1, kv.2) ∈ keys.zip ds := h
  exact (List.of_mem_zip this).1
theorem zip_snoc {keys : List (List Int)} {ds : List Dat} {k : List Int} {d : Dat} (h : keys.length = ds.length) : (keys ++ [k]).zip (ds ++ [d]) = keys.zip ds ++ [(k, d)] := by
  rw [List.zip_append h]
  rfl
theorem plcs_put {k : Book} {i : Nat} {s : List Int} (h : (sts k)[i]? = some s) : putD (plcs k i) s (.int ((i : Nat) : Int)) = plcs k (i + 1) := by
  have hi := (List.getElem?_eq_some_iff.mp h).1
  rw [putD_new _ (valD_none fun kv hkv e => not_take (nodup_states _) h (by rw [← e]; exact zip_keys hkv))]
  unfold plcs
  rw [List.range_succ, casts_snoc, List.map_append, List.take_add_one, h]
  show _ = ((sts k).take i ++ [s]).zip (((casts (List.range i)).map Dat.int) ++ [Dat.int ((i : Nat) : Int)])
  rw [zip_snoc (by rw [List.length_take, List.length_map, casts_len, List.length_range]; omega)]
theorem plcs_val {k : Book} {s : List Int} (h : s ∈ sts k) : valD (plcs k (sts k).length) s = some (.int ((ixS k s : Nat) : Int)) := by
  obtain ⟨h1, h2⟩ := ixS_get h
  unfold plcs
  rw [List.take_length]
  refine valD_zip (nodup_states _) h2 ?_
  rw [List.getElem?_map, casts_get.mpr (List.getElem?_range h1)]
  rfl
theorem hasSt_zip {k : Book} {ds : List Dat} (h : ds.length = (sts k).length) : hasSt k (.dic ((sts k).zip ds)) = true := by
  rw [hasSt_dic, List.length_zip, h, Nat.min_self, decide_eq_true rfl, Bool.true_and, List.all_eq_true]
  intro s hs
  obtain ⟨h1, h2⟩ := ixS_get hs
  have e := List.getElem?_eq_getElem (show ixS k s < ds.length by rw [h]; exact h1)
  rw [valD_zip (keys := sts k) (nodup_states _) h2 e]
  rfl
theorem isPl_plan {k : Book} {ps : List Nat} (hp : PlOk k ps) : isPl k (planD k ps) = true := by
  unfold planD
  rw [isPl_dic, hasSt_zip (by rw [List.length_map, casts_len, hp.len]), Bool.true_and, List.all_eq_true]
  intro kv hkv
  have h2 := (List.of_mem_zip (show (kv.1, kv.2) ∈ _ from hkv)).2
  obtain ⟨x, hx, e⟩ := List.mem_map.mp h2
  unfold casts at hx
  obtain ⟨n, hn, rfl⟩ := List.mem_map.mp hx
  rw [← e]
  have := hp.lt n hn
  show (decide (0 ≤ ((n : Nat) : Int)) && decide (((n : Nat) : Int) < ((k.2.length : Nat) : Int))) = true
  rw [decide_eq_true (by omega), decide_eq_true (by omega)]
  rfl
section
variable {P : Program} {w : World} {K : PySem.W.Frag} {mg : Str → Option Value} {base : Heap}
def R_worths_by (ds : List Dat) (r : Dat) : Prop := ∃ (k : Book) (ps : List Nat), BookOk k ∧ many k ≤ 18 ∧ PlOk k ps ∧ ds = [bookD k, planD k ps] ∧ r = worthsD k ps
theorem ok_worths_by (F : FT K mg "worths_by" s_worths_by P_worths_by) (z : Zb mg) (g_NOTHING_plans : GC K mg "NOTHING_plans" (frD (0, 1))) (c_all_states : Cal P w K mg base 1 "all_states" (spP K R_all_states)) (c_frac_less : Cal P w K mg base 3 "frac_less" (spP K (R_fr fSub))) (c_frac_times : Cal P w K mg base 3 "frac_times" (spP K (R_fr fMul))) (c_moved_to : Cal P w K mg base 1 "moved_to" (spP K R_moved_to)) (c_solved_rows : Cal P w K mg base 3 "solved_rows" (spP K R_solved)) : Cal P w K mg base 4 "worths_by" (spP K R_worths_by) := by
  obtain ⟨f, fd, F, gm, hb⟩ := F.ex
  refine cal_of F gm hb sc_worths_by (by decide) (fun ds r ⟨_, _, _, _, _, h, _⟩ => by rw [h]; rfl) fun cdv A outer s H E hr c ds r hR => ?_
  obtain ⟨k, ps, hk0, hm18, hp, rfl, rfl⟩ := hR
  have hu := hr.units
  have few : (sts k).length ≤ 18 := by rw [sts_len]; exact hm18
  have kf := hk0.few
  have lw : (wRows k ps).length = (sts k).length := by unfold wRows; simp
  have ls : (wSums k ps).length = (sts k).length := by unfold wSums; simp
  refine dss_cons (ds_set 2 (de_call c_all_states (hr.mono (by decide)) (da_cons (de_var 0 rfl) da_nil) (by walk_at "dats") ⟨k, hk0, rfl, rfl⟩) ?_ sc_worths_by.nd)
  refine dss_cons (ds_set 3 de_dnewM ?_ sc_worths_by.nd)
  refine dss_cut (fun ρ S => ∃ x y, ρ = [.d (bookD k), .d (planD k ps), .d (statesD (sts k)), .o 0, x, y, .un, .un, .un, .un, .un, .un, .un, .un, .un] ∧ S = [.m (plcs k (sts k).length)]) (ds_for (T := .two 4 5) (di_enum z.enumerate (de_var 2 rfl)) (pg_two 4 5 sc_worths_by.nd) (fun i ρ S => ρ = [.d (bookD k), .d (planD k ps), .d (statesD (sts k)), .o 0, .un, .un, .un, .un, .un, .un, .un, .un, .un, .un, .un] ∧ S = [.m (plcs k i)]) ?_ ?_ ?_ ?_) ?_
  · rintro i ρ S ⟨rfl, rfl⟩; exact Nat.le_refl _
  · exact ⟨_, _, ⟨by walk_at "lel", [], rfl⟩, rfl, rfl⟩
  · rintro i d ρ S hd ⟨rfl, rfl⟩
    obtain ⟨d', hd3, rfl⟩ := of_numd hd
    obtain ⟨st, hst, rfl⟩ := of_map hd3
    have hst : (sts k)[i]? = some st := hst
    have hi := (List.getElem?_eq_some_iff.mp hst).1
    refine ⟨_, .two, ?_⟩
    refine dss_cons (ds_putM (k := 0) (kvs := plcs k i) hu (de_var 4 rfl) (de_var 3 rfl) (de_var 5 rfl) rfl (by unfold plcs; rw [List.length_zip, List.length_take]; omega) ?_)
    rw [plcs_put hst]
    exact dss_nil ⟨_, _, ⟨by walk_at "lel", [], rfl⟩, rfl, rfl⟩
  · rintro ρ S ⟨rfl, rfl⟩
    refine ⟨.un, .un, rfl, ?_⟩
    rw [numd_len, List.length_map]
    rfl
  · rintro ρ S ⟨x, y, rfl, rfl⟩
    refine dss_cons (ds_set 6 (de_lstO da_nil (by walk_at "dats") (by walk_at "le")) ?_ sc_worths_by.nd)
    refine dss_cons (ds_set 7 (de_lstO da_nil (by walk_at "dats") (by walk_at "le")) ?_ sc_worths_by.nd)
    generalize hpc : plcs k (sts k).length = pc
    have pcv : ∀ t ∈ sts k, valD pc t = some (.int ((ixS k t : Nat) : Int)) := fun t ht => by rw [← hpc]; exact plcs_val ht
    refine dss_cut (fun ρ S => ∃ x y v u t q a b, ρ = [.d (bookD k), .d (planD k ps), .d (statesD (sts k)), .o 0, x, y, .o 1, .o 2, v, u, t, q, a, b, .un] ∧ S = [.m pc, .l ((wRows k ps).map frsD), .l ((wSums k ps).map frD)]) (ds_for (T := .two 4 5) (di_enum z.enumerate (de_var 2 rfl)) (pg_two 4 5 sc_worths_by.nd) (fun i ρ S => ρ = [.d (bookD k), .d (planD k ps), .d (statesD (sts k)), .o 0, .un, .un, .o 1, .o 2, .un, .un, .un, .un, .un, .un, .un] ∧ S = [.m pc, .l (((wRows k ps).take i).map frsD), .l (((wSums k ps).take i).map frD)]) ?_ ?_ ?_ ?_) ?_
    · rintro i ρ S ⟨rfl, rfl⟩; exact Nat.le_refl _
    · exact ⟨_, _, ⟨by walk_at "lel", [], rfl⟩, rfl, rfl⟩
    · rintro i d ρ S hd ⟨rfl, rfl⟩
      obtain ⟨d', hd3, rfl⟩ := of_numd hd
      obtain ⟨st, hst, rfl⟩ := of_map hd3
      have hst : (sts k)[i]? = some st := hst
      have hi := (List.getElem?_eq_some_iff.mp hst).1
      obtain ⟨e1, e2⟩ := stN_get hi
      have est : stN k i = st := by rw [hst] at e1; exact (Option.some.inj e1).symm
      rw [est] at e2
      have pv := plan_val hp hi
      rw [est] at pv
      obtain ⟨p1, p2⟩ := hp.at' hi
      have wr : (wRows k ps)[i]? = some (rowOf (sts k).length (wPs k st (pl ps i)) i) := by
        unfold wRows
        rw [List.getElem?_map, List.getElem?_range hi, Option.map_some, est]
      have wsm : (wSums k ps)[i]? = some (stOf2 k (pl ps i) st).1 := by
        unfold wSums
        rw [List.getElem?_map, List.getElem?_range hi, Option.map_some, est]
      generalize pl ps i = bn at *
      obtain ⟨b, j, t, g1, g2, g3, g4, g5, g6, g7⟩ := stOf2_get hk0 e2 p2
      rw [g4] at wsm
      have pok := wPs_ok hk0 e2 p2
      have stepR : (wRows k ps).take (i + 1) = (wRows k ps).take i ++ [rowOf (sts k).length (wPs k st bn) i] := by
        rw [List.take_add_one, wr]
        rfl
      have stepS : (wSums k ps).take (i + 1) = (wSums k ps).take i ++ [t.1] := by
        rw [List.take_add_one, wsm]
        rfl
      have tl : (((wRows k ps).take i).map frsD).length < 100000 := by rw [List.length_map, List.length_take]; omega
      have tl2 : (((wSums k ps).take i).map frD).length < 100000 := by rw [List.length_map, List.length_take]; omega
      generalize wRows k ps = gr at lw wr stepR tl
      generalize wSums k ps = gs at ls wsm stepS tl2
      have hwps : wPs k st bn = mkP k.1 (fun to => ixS k (moved st bn to)) t.2 := by unfold wPs; rw [g4]
      have sl0 := sts_slen e2
      have mf := g6.mv.few
      refine ⟨_, .two, ?_⟩
      refine dss_cons (ds_unpack (T := .two 8 9) (pg_two 8 9 sc_worths_by.nd) (d := standD t) (de_ix (de_ix (de_ix (de_var 0 rfl) de_int (ix_t (atI_at 1 rfl))) (de_getD hu (de_var 1 rfl) (de_var 5 rfl) pv) (ix_l (d := benchD b) (atI_at bn (by rw [List.getElem?_map, g1]; rfl)))) (de_ix (de_var 5 rfl) (de_getD hu (de_var 1 rfl) (de_var 5 rfl) pv) (ix_s (n := ((j : Nat) : Int)) (atI_at bn g2))) (ix_l (d := standD t) (atI_at j (by rw [List.getElem?_map, g3]; rfl)))) .two ?_)
      refine dss_cons (ds_setLcO 10 ((List.replicate (sts k).length (0, 1)).map frD) (fun _ => [.m pc, .l ((gr.take i).map frsD), .l ((gs.take i).map frD)]) [("one", 14)] (.one 14) (sw_true rfl rfl rfl (by decide +kernel)) (di_list (de_var 2 rfl)) sc_worths_by.nd (blkOk_by (N := N_worths_by) (sc := defScope s_worths_by) (by decide +kernel)) (fun _ _ _ _ _ => pg_one 14 sc_worths_by.nd)
        ⟨by rw [List.length_map]; omega, by simp, by simp [Tg.own], fun _ => Nat.le_refl _, fun j d zz hd hz => ⟨_, .one, fun c => fun s0 H0 C cl fp => ?_⟩⟩ ?_)
      · obtain ⟨x, hx, rfl⟩ := of_map hz
        have := List.eq_of_mem_replicate (List.mem_of_getElem? hx)
        subst this
        exact de_glob g_NOTHING_plans
      refine dss_cut (fun ρ S => ∃ x y v, ρ = [.d (bookD k), .d (planD k ps), .d (statesD (sts k)), .o 0, .d (.int (i : Nat)), .d (.st st), .o 1, .o 2, .d (frD t.1), .d (movesD t.2), .o 3, x, y, v, .un] ∧ S = [.m pc, .l ((gr.take i).map frsD), .l ((gs.take i).map frD), .l ((putRow (wPs k st bn) (List.replicate (sts k).length (0, 1))).map frD)])
        (ds_for (T := .two 11 12) (di_list (de_var 9 rfl)) (pg_two 11 12 sc_worths_by.nd) (fun j ρ S => ρ = [.d (bookD k), .d (planD k ps), .d (statesD (sts k)), .o 0, .d (.int (i : Nat)), .d (.st st), .o 1, .o 2, .d (frD t.1), .d (movesD t.2), .o 3, .un, .un, .un, .un] ∧ S = [.m pc, .l ((gr.take i).map frsD), .l ((gs.take i).map frD), .l ((putRow ((wPs k st bn).take j) (List.replicate (sts k).length (0, 1))).map frD)]) ?_ ?_ ?_ ?_) ?_
      · rintro i ρ S ⟨rfl, rfl⟩; exact Nat.le_refl _
      · exact ⟨_, _, ⟨by walk_at "lel", [], rfl⟩, rfl, rfl⟩
      · rintro j2 d ρ S hd ⟨rfl, rfl⟩
        obtain ⟨m, hm, rfl⟩ := of_map hd
        have mem := List.mem_of_getElem? hm
        obtain ⟨l1, l2, l3⟩ := g6.mv.low m mem
        have lt := g6.mv.lt m mem
        have mvm : moved st bn m.2 ∈ sts k := sts_ok.mpr (moved_ok (sts_ok.mp e2) g7 lt)
        obtain ⟨ix1, ix2⟩ := ixS_get mvm
        have pcm := pcv _ mvm
        have ep : (wPs k st bn)[j2]? = some (ixS k (moved st bn m.2), fMul k.1 m.1) := by
          rw [hwps]
          unfold mkP
          rw [List.getElem?_map, hm]
          rfl
        have fresh : ixS k (moved st bn m.2) ∉ ((wPs k st bn).take j2).map (·.1) := by
          rw [List.map_take]
          exact not_take pok.nd (by rw [List.getElem?_map, ep]; rfl)
        have ra := pok.take j2
        have stp := putRow_take ep (List.replicate (sts k).length (0, 1))
        have rl := ra.len
        have rf := ra.free _ ix1 ⟨trivial, fresh⟩
        generalize putRow ((wPs k st bn).take j2) (List.replicate (sts k).length (0, 1)) = rw0 at rl rf stp
        generalize ixS k (moved st bn m.2) = ix at *
        refine ⟨_, .two, ?_⟩
        refine dss_cons (ds_set 13 (de_getM (k := 0) hu (de_var 3 rfl) (de_call c_moved_to (hr.mono (by decide)) (da_cons (de_var 5 rfl) (da_cons (de_getD hu (de_var 1 rfl) (de_var 5 rfl) pv) (da_cons (de_var 12 rfl) da_nil))) (by walk_at "dats") ⟨st, bn, m.2, by omega, by omega, rfl, rfl⟩) rfl pcm) ?_ sc_worths_by.nd)
        refine dss_cons (ds_setL (k := 3) (j := ix) (de_call c_frac_less (hr.mono (by decide)) (da_cons (de_ix (de_var 10 rfl) (de_var 13 rfl) (ix_o rfl (atI_at ix (by rw [List.getElem?_map, rf]; rfl)))) (da_cons (de_call c_frac_times (hr.mono (by decide)) (da_cons (de_ix (de_var 0 rfl) de_int (ix_t (atI_at 0 rfl))) (da_cons (de_var 11 rfl) da_nil)) (by walk_at "dats") ⟨k.1, m.1, 4, 5, hk0.part.fb, l3, by decide, by decide, by decide, rfl, rfl⟩) da_nil)) (by walk_at "dats") ⟨(0, 1), fMul k.1 m.1, 1, 9, ⟨by decide, by decide, by decide⟩, Fb.mul hk0.part.fb l3, by decide, by decide, by decide, rfl, rfl⟩) (de_var 10 rfl) (de_var 13 rfl) rfl (by rw [List.length_map, rl]; exact ixN_nat ix1) ?_)
        rw [map_setD, ← stp]
        exact dss_nil ⟨_, _, ⟨by walk_at "lel", [], rfl⟩, rfl, rfl⟩
      · rintro ρ S ⟨rfl, rfl⟩
        refine ⟨.un, .un, .un, rfl, ?_⟩
        have et : (wPs k st bn).take t.2.length = wPs k st bn := List.take_of_length_le (by rw [hwps]; unfold mkP; rw [List.length_map]; exact Nat.le_refl _)
        rw [List.length_map, et]
      · rintro ρ S ⟨x, y, v, rfl, rfl⟩
        have ra := pok.at
        have rl := ra.len
        have er : rowOf (sts k).length (wPs k st bn) i = (putRow (wPs k st bn) (List.replicate (sts k).length (0, 1))).set i (fSub ((putRow (wPs k st bn) (List.replicate (sts k).length (0, 1)))[i]?.getD (0, 1)) (-1, 1)) := rfl
        have hx := List.getElem?_eq_getElem (show i < (putRow (wPs k st bn) (List.replicate (sts k).length (0, 1))).length by rw [rl]; exact hi)
        have fx := (ra.ent _ (List.mem_of_getElem? hx)).1
        rw [hx] at er
        generalize (putRow (wPs k st bn) (List.replicate (sts k).length (0, 1)))[i]'(by rw [rl]; exact hi) = x0 at hx er fx
        generalize putRow (wPs k st bn) (List.replicate (sts k).length (0, 1)) = rw0 at hx er rl
        have hx2 : (rw0.map frD)[i]? = some (frD x0) := by rw [List.getElem?_map, hx]; rfl
        refine dss_cons (ds_setL (k := 3) (j := i) (de_call c_frac_less (hr.mono (by decide)) (da_cons (de_ix (de_var 10 rfl) (de_var 4 rfl) (ix_o rfl (atI_at i hx2))) (da_cons (de_tup (da_cons (de_neg de_int) (da_cons de_int da_nil)) (by walk_at "dats") (by walk_at "le")) da_nil)) (by walk_at "dats") ⟨x0, (-1, 1), 11, 1, fx, ⟨by decide, by decide, by decide⟩, by decide, by decide, by decide, rfl, rfl⟩) (de_var 10 rfl) (de_var 4 rfl) rfl (by rw [List.length_map, rl]; exact ixN_nat hi) ?_)
        rw [map_setD]
        refine dss_cons (ds_expr (de_append (k := 1) (de_var 6 rfl) (de_dat (de_var 10 rfl) rfl rfl) ⟨_, rfl⟩ rfl tl) ?_)
        refine dss_cons (ds_expr (de_append (k := 2) (de_var 7 rfl) (de_var 8 rfl) ⟨_, rfl⟩ rfl tl2) ?_)
        refine dss_nil ⟨_, [.m pc, .l ((gr.take (i + 1)).map frsD), .l ((gs.take (i + 1)).map frD)], ⟨by walk_at "lel", [.gone], ?_⟩, rfl, rfl⟩
        rw [stepR, stepS, List.map_append, List.map_append]
        show _ = [Ct.m pc, Ct.l ((gr.take i).map frsD ++ [frsD (rowOf (sts k).length (wPs k st bn) i)]), Ct.l ((gs.take i).map frD ++ [frD t.1])] ++ [Ct.gone]
        rw [er]
        rfl
    · rintro ρ S ⟨rfl, rfl⟩
      refine ⟨.un, .un, .un, .un, .un, .un, .un, .un, rfl, ?_⟩
      rw [numd_len, List.length_map, List.take_of_length_le (by rw [lw]; exact Nat.le_refl _), List.take_of_length_le (by rw [ls]; exact Nat.le_refl _)]
    · rintro ρ S ⟨x, y, v, u, t, q, a, b, rfl, rfl⟩
      have wl := worthsF_len k ps
      refine dss_cons (ds_ret (de_dictZip hu z.dict z.zip (da_cons (de_var 2 rfl) (da_cons (de_call c_solved_rows (hr.mono (by decide)) (da_cons (de_dat (de_var 6 rfl) rfl rfl) (da_cons (de_dat (de_var 7 rfl) rfl rfl) da_nil)) (by walk_at "dats") ⟨wRows k ps, wSums k ps, (sts k).length, _, _, (wSys_ok hk0 hp).good few, rfl, rfl⟩) da_nil)) (by rw [List.length_map]; exact wl.symm) (nodup_states _) (by rw [List.length_map]; show (worthsF k ps).length ≤ _; omega)) ?_)
      rfl
end
end Tw
end
section
set_option Elab.async false
set_option linter.all false
set_option maxRecDepth 100000
set_option maxHeartbeats 1000000
namespace Tw
open PySem PySem.Spec PyProof.Rows L2
open Evl (Ex)
def idxD (k : Book) : Dat := .lst ((allIdx k).map frsD)
theorem gbV_get {k : Book} (hk : BookOk k) {s : List Int} (hs : s ∈ sts k) {b : Nat} (hb : b < k.2.length) : ∃ (j : Nat) (f : List Fr), (allIdx k)[b]? = some f ∧ s[b]? = some ((j : Nat) : Int) ∧ f[j]? = some (gbV (allIdx k) s b) ∧ Fb 2220 (gbV (allIdx k) s b) := by
  obtain ⟨bn, j, t, g1, g2, g3, g4, g5, g6, g7⟩ := stOf2_get hk hs hb
  have hj := (List.getElem?_eq_some_iff.mp g3).1
  obtain ⟨p, p1, p2, p3⟩ := indices_get g5 hk.part hj
  have e1 : (allIdx k)[b]? = some (indices bn k.1) := by unfold allIdx; rw [List.getElem?_map, g1]; rfl
  have e2 : gbV (allIdx k) s b = p := by
    unfold gbV gAt
    rw [e1, g2]
    show (indices bn k.1)[((j : Nat) : Int).toNat]?.getD _ = p
    rw [show ((j : Nat) : Int).toNat = j by omega, p1]
    rfl
  rw [e2]
  exact ⟨j, _, e1, g2, p1, p3⟩
def frOf : Option Dat → Fr
  | some (.tup [.int a, .int b]) => (a, b)
  | _ => (0, 1)
def numOf : Option Dat → Nat
  | some (.int i) => i.toNat
  | _ => 0
def kvOf : Dat → List (List Int × Dat)
  | .dic kvs => kvs
  | _ => []
def holds (k : Book) (s : List Int) (pn : Nat) (W : List Int → Fr) : Bool := decide (tried k s pn W = W s) && !((List.range s.length).map fun bn => fLt (W s) (tried k s bn W)).any id
def judge (k : Book) : Dat → Bool
  | .tup [p, w] => isPl k p && (areW k w && (sts k).all fun s => holds k s (numOf (valD (kvOf p) s)) fun t => frOf (valD (kvOf w) t))
  | _ => false
theorem judge_two (k : Book) (p w : Dat) : judge k (.tup [p, w]) = (isPl k p && (areW k w && (sts k).all fun s => holds k s (numOf (valD (kvOf p) s)) fun t => frOf (valD (kvOf w) t))) := rfl
structure TameV (d : Dat) : Prop where
  st : isSt d = false
  sm : ∀ a b, d = .tup [.int a, .int b] → a.natAbs < 2 ^ 1200 ∧ b.natAbs < 2 ^ 1200
structure Tame (paper : Dat) : Prop where
  st : isSt paper = false
  kv : ∀ p kvs, paper = .tup [p, .dic kvs] → ∀ x ∈ kvs, TameV x.2
theorem valD_mem {κ : Type} [DecidableEq κ] {kvs : List (κ × Dat)} {k : κ} {d : Dat} (h : valD kvs k = some d) : ∃ x ∈ kvs, x.2 = d := by
  unfold valD at h
  obtain ⟨x, hx, e⟩ := Option.map_eq_some_iff.mp h
  exact ⟨x, List.mem_of_find?_eq_some hx, e⟩
theorem hasSt_get {k : Book} {kvs : List (List Int × Dat)} (h : hasSt k (.dic kvs) = true) {s : List Int} (hs : s ∈ sts k) : ∃ d, valD kvs s = some d ∧ ∃ x ∈ kvs, x.2 = d := by
  rw [hasSt_dic, Bool.and_eq_true, List.all_eq_true] at h
  obtain ⟨d, e⟩ := Option.isSome_iff_exists.mp (h.2 s hs)
  exact ⟨d, e, valD_mem e⟩
theorem isPl_get {k : Book} {p : Dat} (h : isPl k p = true) : ∃ kvs, p = .dic kvs ∧ ∀ s ∈ sts k, ∃ n : Nat, valD kvs s = some (.int ((n : Nat) : Int)) ∧ n < k.2.length := by
  obtain ⟨kvs, rfl⟩ : ∃ kvs, p = .dic kvs := by cases p <;> first | exact ⟨_, rfl⟩ | (cases (show false = true from h); done)
  rw [isPl_dic, Bool.and_eq_true, List.all_eq_true] at h
  refine ⟨kvs, rfl, fun s hs => ?_⟩
  obtain ⟨d, e, x, hx, e2⟩ := hasSt_get h.1 hs
  have hb := h.2 x hx
  rw [e2] at hb
  obtain ⟨i, rfl⟩ : ∃ i, d = .int i := by cases d <;> first | exact ⟨_, rfl⟩ | (cases (show false = true from hb); done)
  have hb' : (decide (0 ≤ i) && decide (i < ((k.2.length : Nat) : Int))) = true := hb
  rw [Bool.and_eq_true, decide_eq_true_eq, decide_eq_true_eq] at hb'
  refine ⟨i.toNat, ?_, by omega⟩
  rw [e, show ((i.toNat : Nat) : Int) = i by omega]
theorem isFrD_get {d : Dat} (h : isFrD d = true) : ∃ p : Fr, d = frD p ∧ Low p := by
  match d, h with
  | .tup [.int a, .int b], h =>
    have h' : (decide (1 ≤ b) && decide (cg a b = 1)) = true := h
    rw [Bool.and_eq_true, decide_eq_true_eq, decide_eq_true_eq] at h'
    exact ⟨(a, b), rfl, h'⟩
theorem areW_get {k : Book} {w : Dat} (h : areW k w = true) (ht : ∀ kvs, w = .dic kvs → ∀ x ∈ kvs, TameV x.2) : ∃ kvs, w = .dic kvs ∧ Wd k kvs (fun t => frOf (valD kvs t)) 1200 := by
  obtain ⟨kvs, rfl⟩ : ∃ kvs, w = .dic kvs := by cases w <;> first | exact ⟨_, rfl⟩ | (cases (show false = true from h); done)
  rw [areW_dic, Bool.and_eq_true, List.all_eq_true] at h
  refine ⟨kvs, rfl, fun s hs => ?_, by decide, by decide⟩
  obtain ⟨d, e, x, hx, e2⟩ := hasSt_get h.1 hs
  have hb := h.2 x hx
  rw [e2] at hb
  obtain ⟨p, rfl, hl⟩ := isFrD_get hb
  have tm := (ht kvs rfl x hx).sm p.1 p.2 e2
  rw [e]
  exact ⟨rfl, hl.1, tm.1, tm.2⟩
theorem eqv_fr (p q : Fr) : PyData.eqv (py (frD p)) (py (frD q)) = decide (p = q) := by
  show PyData.eqv (py (.tup [.int p.1, .int p.2])) (py (.tup [.int q.1, .int q.2])) = _
  rw [eqv_ints]
  obtain ⟨a, b⟩ := p
  obtain ⟨c, d⟩ := q
  show (a == c && b == d) = decide ((a, b) = (c, d))
  by_cases h1 : a = c
  · subst h1
    by_cases h2 : b = d
    · subst h2; simp
    · simp [h2]
  · simp [h1]
theorem tried_fb {k : Book} (hk : BookOk k) {kvs : List (List Int × Dat)} {W : List Int → Fr} {wb : Nat} (hW : Wd k kvs W wb) {s : List Int} (hs : s ∈ sts k) {bn : Nat} (hb : bn < k.2.length) : Fb (5 * wb + 40) (tried k s bn W) := by
  obtain ⟨b, j, t, g1, g2, g3, g4, g5, g6, g7⟩ := stAt_get hk hs hb
  unfold tried
  rw [g4]
  have fb := triedS_fb hW hs g7 g6.mv t.2.length (Nat.le_refl _)
  rw [List.take_length] at fb
  have mf := g6.mv.few
  have e2 : (wb + 6) * t.2.length ≤ (wb + 6) * 5 := Nat.mul_le_mul (Nat.le_refl _) mf
  exact (Fb.add g6.fb (Fb.mul hk.part.fb fb)).mono (by omega)
section
variable {P : Program} {w : World} {K : PySem.W.Frag} {mg : Str → Option Value} {base : Heap}
def R_plan_worths (ds : List Dat) (r : Dat) : Prop := ∃ (k : Book) (ps : List Nat), BookOk k ∧ many k ≤ 18 ∧ PlOk k ps ∧ ds = [bookD k, planD k ps] ∧ r = worthsD k ps
theorem ok_plan_worths (F : FT K mg "plan_worths" s_plan_worths P_plan_worths) (c_look_at_book : Cal P w K mg base 8 "look_at_book" (spP K R_look_at_book)) (c_look_at_plan : Cal P w K mg base 4 "look_at_plan" (spP K R_look_at_plan)) (c_worths_by : Cal P w K mg base 4 "worths_by" (spP K R_worths_by)) : Cal P w K mg base 9 "plan_worths" (spP K R_plan_worths) := by
  obtain ⟨f, fd, F, gm, hb⟩ := F.ex
  refine cal_of F gm hb sc_plan_worths (by decide) (fun ds r ⟨_, _, _, _, _, h, _⟩ => by rw [h]; rfl) fun cdv A outer s H E hr c ds r hR => ?_
  obtain ⟨k, ps, hk0, hm18, hp, rfl, rfl⟩ := hR
  refine dss_cons (ds_expr (de_call c_look_at_book (hr.mono (by decide)) (da_cons (de_var 0 rfl) da_nil) (by walk_at "dats") ⟨k, hk0, rfl, rfl⟩) ?_)
  refine dss_cons (ds_expr (de_call c_look_at_plan (hr.mono (by decide)) (da_cons (de_var 0 rfl) (da_cons (de_var 1 rfl) da_nil)) (by walk_at "dats") ⟨k, planD k ps, hk0, isPl_plan hp, rfl, rfl⟩) ?_)
  exact dss_cons (ds_ret (de_call c_worths_by (hr.mono (by decide)) (da_cons (de_var 0 rfl) (da_cons (de_var 1 rfl) da_nil)) (by walk_at "dats") ⟨k, ps, hk0, hm18, hp, rfl, rfl⟩) rfl)
def R_book_indices (ds : List Dat) (r : Dat) : Prop := ∃ k : Book, BookOk k ∧ ds = [bookD k] ∧ r = idxD k
theorem ok_book_indices (F : FT K mg "book_indices" s_book_indices P_book_indices) (c_indices_found : Cal P w K mg base 6 "indices_found" (spP K R_indices)) : Cal P w K mg base 7 "book_indices" (spP K R_book_indices) := by
  obtain ⟨f, fd, F, gm, hb⟩ := F.ex
  refine cal_of F gm hb sc_book_indices (by decide) (fun ds r ⟨_, _, h, _⟩ => by rw [h]; rfl) fun cdv A outer s H E hr c ds r hR => ?_
  obtain ⟨k, hk0, rfl, rfl⟩ := hR
  have kf := hk0.few
  refine dss_cons (ds_ret (de_lc ((allIdx k).map frsD) (fun _ => []) [("bench", 1)] (.one 1) (di_list (de_ix (de_var 0 rfl) de_int (ix_t (atI_at 1 rfl)))) sc_book_indices.nd (blkOk_by (N := N_book_indices) (sc := defScope s_book_indices) (by decide +kernel)) (fun _ _ _ _ _ => pg_one 1 sc_book_indices.nd)
    ⟨by rw [List.length_map]; omega, by unfold allIdx; simp, by simp [Tg.own], fun _ => Nat.le_refl _, fun i d zz hd hz => ?_⟩) rfl)
  obtain ⟨b, hb', rfl⟩ := of_map hd
  obtain ⟨q, hq, rfl⟩ := of_map hz
  unfold allIdx at hq
  rw [List.getElem?_map, hb'] at hq
  cases hq
  exact ⟨_, .one, fun c => fun s0 H0 C cl fp => de_call c_indices_found (hr.mono (by decide)) (da_cons (de_var 1 rfl) (da_cons (de_ix (de_var 0 rfl) de_int (ix_t (atI_at 0 rfl))) da_nil)) (by walk_at "dats") ⟨b, k.1, hk0.bn b (List.mem_of_getElem? hb'), hk0.part, rfl, rfl⟩⟩
def R_greatest_bench (ds : List Dat) (r : Dat) : Prop := ∃ (k : Book) (s : List Int), BookOk k ∧ s ∈ sts k ∧ ds = [idxD k, .st s] ∧ r = .int (gBench (allIdx k) s : Nat)
theorem ok_greatest_bench (F : FT K mg "greatest_bench" s_greatest_bench P_greatest_bench) (z : Zb mg) (c_frac_below : Cal P w K mg base 1 "frac_below" (spP K R_below)) : Cal P w K mg base 2 "greatest_bench" (spP K R_greatest_bench) := by
  obtain ⟨f, fd, F, gm, hb⟩ := F.ex
  refine cal_of F gm hb sc_greatest_bench (by decide) (fun ds r ⟨_, _, _, _, h, _⟩ => by rw [h]; rfl) fun cdv A outer s H E hr c ds r hR => ?_
  obtain ⟨k, st, hk0, hst, rfl, rfl⟩ := hR
  have sl0 := sts_slen hst
  have kf := hk0.few
  have kp := hk0.pos
  refine dss_cons (ds_set 2 de_int ?_ sc_greatest_bench.nd)
  refine dss_cut (fun ρ S => ∃ x, ρ = [.d (idxD k), .d (.st st), .d (.int (gBench (allIdx k) st : Nat)), x] ∧ S = []) (ds_for (T := .one 3) (di_range1 z.range (de_len z.len (da_cons (de_var 1 rfl) da_nil) (d := .st st) rfl) (by omega) (by omega)) (pg_one 3 sc_greatest_bench.nd) (fun i ρ S => ∃ bst : Nat, ρ = [.d (idxD k), .d (.st st), .d (.int (bst : Nat)), .un] ∧ S = [] ∧ bst = (List.range i).foldl (gbStep (allIdx k) st) 0 ∧ bst < k.2.length) ?_ ?_ ?_ ?_) ?_
  · rintro i ρ S ⟨_, rfl, rfl, _⟩; exact Nat.le_refl _
  · exact ⟨_, _, ⟨by walk_at "lel", [], rfl⟩, 0, rfl, rfl, rfl, by omega⟩
  · rintro i d ρ S hd ⟨bst, rfl, rfl, hb1, hb2⟩
    obtain ⟨hi, ed⟩ := of_nums hd
    have hi' : i < k.2.length := by omega
    have e0 : (0 : Int) + ((i : Nat) : Int) = ((i : Nat) : Int) := by omega
    rw [e0] at ed
    subst ed
    obtain ⟨j1, f1, a1, a2, a3, a4⟩ := gbV_get hk0 hst hb2
    obtain ⟨j2, f2, b1, b2, b3, b4⟩ := gbV_get hk0 hst hi'
    have st1 : (List.range (i + 1)).foldl (gbStep (allIdx k) st) 0 = gbStep (allIdx k) st bst i := by
      rw [List.range_succ, List.foldl_append, ← hb1]
      rfl
    have ga : (allIdx k).map frsD = (allIdx k).map frsD := rfl
    refine ⟨_, .one, ?_⟩
    refine dss_cons (ds_if (dt_val (de_call c_frac_below (hr.mono (by decide)) (da_cons (de_ix (de_ix (de_var 0 rfl) (de_var 2 rfl) (ix_l (d := frsD f1) (atI_at bst (by rw [List.getElem?_map, a1]; rfl)))) (de_ix (de_var 1 rfl) (de_var 2 rfl) (ix_s (n := ((j1 : Nat) : Int)) (atI_at bst a2))) (ix_l (d := frD (gbV (allIdx k) st bst)) (atI_at j1 (by rw [List.getElem?_map, a3]; rfl)))) (da_cons (de_ix (de_ix (de_var 0 rfl) (de_var 3 rfl) (ix_l (d := frsD f2) (atI_at i (by rw [List.getElem?_map, b1]; rfl)))) (de_ix (de_var 1 rfl) (de_var 3 rfl) (ix_s (n := ((j2 : Nat) : Int)) (atI_at i b2))) (ix_l (d := frD (gbV (allIdx k) st i)) (atI_at j2 (by rw [List.getElem?_map, b3]; rfl)))) da_nil)) (by walk_at "dats") ⟨gbV (allIdx k) st bst, gbV (allIdx k) st i, 2220, 2220, a4, b4, by decide, by decide, by decide, rfl, rfl⟩)) (fun hk2 => ?_) fun hk2 => ?_)
    · refine dss_cons (ds_set 2 (de_var 3 rfl) ?_ sc_greatest_bench.nd)
      refine dss_nil (dss_nil ⟨_, _, ⟨by walk_at "lel", [], rfl⟩, i, rfl, rfl, ?_, hi'⟩)
      rw [st1]
      unfold gbStep
      rw [if_pos hk2]
    · refine dss_nil (dss_nil ⟨_, _, ⟨by walk_at "lel", [], rfl⟩, bst, rfl, rfl, ?_, hb2⟩)
      rw [st1]
      unfold gbStep
      rw [if_neg (by rw [hk2]; decide)]
  · rintro ρ S ⟨bst, rfl, rfl, hb1, _⟩
    rw [nums_len, show (((st.length : Nat) : Int)).toNat = st.length by omega] at hb1
    subst hb1
    exact ⟨.un, rfl, rfl⟩
  · rintro ρ S ⟨x, rfl, rfl⟩
    exact dss_cons (ds_ret (de_var 2 rfl) rfl)
def R_plan_ix (ds : List Dat) (r : Dat) : Prop := ∃ k : Book, BookOk k ∧ ds = [bookD k] ∧ r = planD k (plIdx k)
def plKv (k : Book) (i : Nat) : List (List Int × Dat) := ((sts k).take i).zip ((casts ((plIdx k).take i)).map .int)
theorem plKv_put {k : Book} {i : Nat} {s : List Int} (h : (sts k)[i]? = some s) : putD (plKv k i) s (.int ((gBench (allIdx k) s : Nat) : Int)) = plKv k (i + 1) := by
  have hi := (List.getElem?_eq_some_iff.mp h).1
  have e : (plIdx k)[i]? = some (gBench (allIdx k) s) := by unfold plIdx; rw [List.getElem?_map, h]; rfl
  have l : (plIdx k).length = (sts k).length := by unfold plIdx; simp
  rw [putD_new _ (valD_none fun kv hkv e => not_take (nodup_states _) h (by rw [← e]; exact zip_keys hkv))]
  unfold plKv
  have e1 : (sts k).take (i + 1) = (sts k).take i ++ [s] := by rw [List.take_add_one, h]; rfl
  have e2 : (plIdx k).take (i + 1) = (plIdx k).take i ++ [gBench (allIdx k) s] := by rw [List.take_add_one, e]; rfl
  rw [e1, e2, casts_snoc, List.map_append]
  show _ = ((sts k).take i ++ [s]).zip (((casts ((plIdx k).take i)).map Dat.int) ++ [Dat.int ((gBench (allIdx k) s : Nat) : Int)])
  rw [zip_snoc (by rw [List.length_take, List.length_map, casts_len, List.length_take]; omega)]
theorem ok_plan_by_indices (F : FT K mg "plan_by_indices" s_plan_by_indices P_plan_by_indices) (c_book_indices : Cal P w K mg base 7 "book_indices" (spP K R_book_indices)) (c_all_states : Cal P w K mg base 1 "all_states" (spP K R_all_states)) (c_greatest_bench : Cal P w K mg base 2 "greatest_bench" (spP K R_greatest_bench)) : Cal P w K mg base 8 "plan_by_indices" (spP K R_plan_ix) := by
  obtain ⟨f, fd, F, gm, hb⟩ := F.ex
  refine cal_of F gm hb sc_plan_by_indices (by decide) (fun ds r ⟨_, _, h, _⟩ => by rw [h]; rfl) fun cdv A outer s H E hr c ds r hR => ?_
  obtain ⟨k, hk0, rfl, rfl⟩ := hR
  have hu := hr.units
  have few := sts_few hk0
  have l : (plIdx k).length = (sts k).length := by unfold plIdx; simp
  refine dss_cons (ds_set 1 (de_call c_book_indices (hr.mono (by decide)) (da_cons (de_var 0 rfl) da_nil) (by walk_at "dats") ⟨k, hk0, rfl, rfl⟩) ?_ sc_plan_by_indices.nd)
  refine dss_cons (ds_set 2 de_dnewM ?_ sc_plan_by_indices.nd)
  refine dss_cut (fun ρ S => ∃ x, ρ = [.d (bookD k), .d (idxD k), .o 0, x] ∧ S = [.m ((sts k).zip ((casts (plIdx k)).map .int))]) (ds_for (T := .one 3) (di_list (ds := (sts k).map .st) (de_call c_all_states (hr.mono (by decide)) (da_cons (de_var 0 rfl) da_nil) (by walk_at "dats") ⟨k, hk0, rfl, rfl⟩)) (pg_one 3 sc_plan_by_indices.nd) (fun i ρ S => ρ = [.d (bookD k), .d (idxD k), .o 0, .un] ∧ S = [.m (plKv k i)]) ?_ ?_ ?_ ?_) ?_
  · rintro i ρ S ⟨rfl, rfl⟩; exact Nat.le_refl _
  · exact ⟨_, _, ⟨by walk_at "lel", [], rfl⟩, rfl, rfl⟩
  · rintro i d ρ S hd ⟨rfl, rfl⟩
    obtain ⟨st, hst, rfl⟩ := of_map hd
    refine ⟨_, .one, ?_⟩
    refine dss_cons (ds_putM (k := 0) (kvs := plKv k i) hu (de_call c_greatest_bench (hr.mono (by decide)) (da_cons (de_var 1 rfl) (da_cons (de_var 3 rfl) da_nil)) (by walk_at "dats") ⟨k, st, hk0, List.mem_of_getElem? hst, rfl, rfl⟩) (de_var 2 rfl) (de_var 3 rfl) rfl (by unfold plKv; rw [List.length_zip, List.length_take]; omega) ?_)
    rw [plKv_put hst]
    exact dss_nil ⟨_, _, ⟨by walk_at "lel", [], rfl⟩, rfl, rfl⟩
  · rintro ρ S ⟨rfl, rfl⟩
    refine ⟨.un, rfl, ?_⟩
    unfold plKv
    rw [List.length_map, List.take_length, ← l, List.take_length]
  · rintro ρ S ⟨x, rfl, rfl⟩
    exact dss_cons (ds_ret (de_dat (de_var 2 rfl) rfl rfl) rfl)
theorem ok_greatest_plan (F : FT K mg "greatest_plan" s_greatest_plan P_greatest_plan) (c_look_at_book : Cal P w K mg base 8 "look_at_book" (spP K R_look_at_book)) (c_plan_by_indices : Cal P w K mg base 8 "plan_by_indices" (spP K R_plan_ix)) : Cal P w K mg base 9 "greatest_plan" (spP K R_plan_ix) := by
  obtain ⟨f, fd, F, gm, hb⟩ := F.ex
  refine cal_of F gm hb sc_greatest_plan (by decide) (fun ds r ⟨_, _, h, _⟩ => by rw [h]; rfl) fun cdv A outer s H E hr c ds r hR => ?_
  obtain ⟨k, hk0, rfl, rfl⟩ := hR
  refine dss_cons (ds_expr (de_call c_look_at_book (hr.mono (by decide)) (da_cons (de_var 0 rfl) da_nil) (by walk_at "dats") ⟨k, hk0, rfl, rfl⟩) ?_)
  exact dss_cons (ds_ret (de_call c_plan_by_indices (hr.mono (by decide)) (da_cons (de_var 0 rfl) da_nil) (by walk_at "dats") ⟨k, hk0, rfl, rfl⟩) rfl)
def R_best_worths (ds : List Dat) (r : Dat) : Prop := ∃ k : Book, BookOk k ∧ many k ≤ 18 ∧ ds = [bookD k] ∧ r = worthsD k (plIdx k)
theorem ok_best_worths (F : FT K mg "best_worths" s_best_worths P_best_worths) (c_look_at_book : Cal P w K mg base 8 "look_at_book" (spP K R_look_at_book)) (c_plan_by_indices : Cal P w K mg base 8 "plan_by_indices" (spP K R_plan_ix)) (c_worths_by : Cal P w K mg base 4 "worths_by" (spP K R_worths_by)) : Cal P w K mg base 9 "best_worths" (spP K R_best_worths) := by
  obtain ⟨f, fd, F, gm, hb⟩ := F.ex
  refine cal_of F gm hb sc_best_worths (by decide) (fun ds r ⟨_, _, _, h, _⟩ => by rw [h]; rfl) fun cdv A outer s H E hr c ds r hR => ?_
  obtain ⟨k, hk0, hm18, rfl, rfl⟩ := hR
  refine dss_cons (ds_expr (de_call c_look_at_book (hr.mono (by decide)) (da_cons (de_var 0 rfl) da_nil) (by walk_at "dats") ⟨k, hk0, rfl, rfl⟩) ?_)
  exact dss_cons (ds_ret (de_call c_worths_by (hr.mono (by decide)) (da_cons (de_var 0 rfl) (da_cons (de_call c_plan_by_indices (hr.mono (by decide)) (da_cons (de_var 0 rfl) da_nil) (by walk_at "dats") ⟨k, hk0, rfl, rfl⟩) da_nil)) (by walk_at "dats") ⟨k, plIdx k, hk0, hm18, plIdx_ok hk0, rfl, rfl⟩) rfl)
def paperD (k : Book) : Dat := .tup [planD k (plIdx k), worthsD k (plIdx k)]
def R_best_paper (ds : List Dat) (r : Dat) : Prop := ∃ k : Book, BookOk k ∧ many k ≤ 18 ∧ ds = [bookD k] ∧ r = paperD k
theorem ok_best_paper (F : FT K mg "best_paper" s_best_paper P_best_paper) (c_greatest_plan : Cal P w K mg base 9 "greatest_plan" (spP K R_plan_ix)) (c_best_worths : Cal P w K mg base 9 "best_worths" (spP K R_best_worths)) : Cal P w K mg base 10 "best_paper" (spP K R_best_paper) := by
  obtain ⟨f, fd, F, gm, hb⟩ := F.ex
  refine cal_of F gm hb sc_best_paper (by decide) (fun ds r ⟨_, _, _, h, _⟩ => by rw [h]; rfl) fun cdv A outer s H E hr c ds r hR => ?_
  obtain ⟨k, hk0, hm18, rfl, rfl⟩ := hR
  exact dss_cons (ds_ret (de_tup (da_cons (de_call c_greatest_plan (hr.mono (by decide)) (da_cons (de_var 0 rfl) da_nil) (by walk_at "dats") ⟨k, hk0, rfl, rfl⟩) (da_cons (de_call c_best_worths (hr.mono (by decide)) (da_cons (de_var 0 rfl) da_nil) (by walk_at "dats") ⟨k, hk0, hm18, rfl, rfl⟩) da_nil)) (by walk_at "dats") (by walk_at "le")) rfl)
def R_are_worths (ds : List Dat) (r : Dat) : Prop := ∃ (k : Book) (d : Dat), BookOk k ∧ (∀ kvs, d = .dic kvs → ∀ x ∈ kvs, TameV x.2) ∧ ds = [bookD k, d] ∧ r = .bl (areW k d)
theorem ok_are_worths (F : FT K mg "are_worths" s_are_worths P_are_worths) (z : Zb mg) (c_has_states : Cal P w K mg base 2 "has_states" (spP K R_has_states)) (c_is_fraction : Cal P w K mg base 2 "is_fraction" (spP K R_is_fraction)) : Cal P w K mg base 3 "are_worths" (spP K R_are_worths) := by
  obtain ⟨f, fd, F, gm, hb⟩ := F.ex
  refine cal_of F gm hb sc_are_worths (by decide) (fun ds r ⟨_, _, _, _, h, _⟩ => by rw [h]; rfl) fun cdv A outer s H E hr c ds r hR => ?_
  obtain ⟨k, d, hk0, ht, rfl, rfl⟩ := hR
  have few := sts_few hk0
  cases e : hasSt k d with
  | false =>
    have e2 : areW k d = false := by cases d <;> first | rfl | (rw [areW_dic, e]; rfl)
    refine dss_cons (ds_ret (r := .d (.bl (hasSt k d && false))) (de_and (de_call c_has_states (hr.mono (by decide)) (da_cons (de_var 0 rfl) (da_cons (de_var 1 rfl) da_nil)) (by walk_at "dats") ⟨k, d, hk0, rfl, rfl⟩) fun hk => ?_) ?_)
    · rw [e] at hk; exact ff hk
    · rw [e, e2]; rfl
  | true =>
    obtain ⟨kvs, rfl⟩ : ∃ kvs, d = .dic kvs := by cases d <;> first | exact ⟨_, rfl⟩ | (cases (show false = true from e); done)
    have el : kvs.length = (sts k).length := by
      have e' := e
      rw [hasSt_dic, Bool.and_eq_true] at e'
      exact of_decide_eq_true e'.1
    refine dss_cons (ds_ret (de_and (de_call c_has_states (hr.mono (by decide)) (da_cons (de_var 0 rfl) (da_cons (de_var 1 rfl) da_nil)) (by walk_at "dats") ⟨k, .dic kvs, hk0, rfl, rfl⟩) fun hk => (de_one (de_all (bs := kvs.map fun kv => isFrD kv.2) z.all (da_cons (de_lcVals 1 ((kvs.map fun kv => isFrD kv.2).map .bl) [("worth", 2)] (.one 2) rfl sc_are_worths.nd (blkOk_by (N := N_are_worths) (sc := defScope s_are_worths) (by decide +kernel)) (fun _ _ _ _ _ => pg_one 2 sc_are_worths.nd)
        ⟨by unfold valsD; rw [List.length_map]; omega, by unfold valsD; rw [List.length_map, List.length_map, List.length_map], by simp [Tg.own], fun _ => Nat.le_refl _, fun i d zz hd hz => ?_⟩) da_nil)))) ?_)
    · unfold valsD at hd
      rw [List.getElem?_map] at hd
      rw [List.getElem?_map, List.getElem?_map] at hz
      cases hkv : kvs[i]? with
      | none => rw [hkv] at hd; cases hd
      | some kv =>
        rw [hkv] at hd hz
        cases hd
        cases hz
        exact ⟨_, .one, fun c => fun s0 H0 C cl fp => de_call c_is_fraction (hr.mono (by decide)) (da_cons (de_var 2 rfl) da_nil) (by walk_at "dats") ⟨kv.2, rfl, (ht kvs rfl kv (List.mem_of_getElem? hkv)).st, rfl⟩⟩
    · show _ = Sl.d (.bl (areW k (.dic kvs)))
      rw [areW_dic, List.all_map]
      rfl
def R_holds (ds : List Dat) (r : Dat) : Prop := ∃ (k : Book) (s : List Int) (pk kvs : List (List Int × Dat)) (pn : Nat) (W : List Int → Fr) (wb : Nat), BookOk k ∧ s ∈ sts k ∧ valD pk s = some (.int (pn : Nat)) ∧ pn < k.2.length ∧ Wd k kvs W wb ∧ ds = [bookD k, .st s, .dic pk, .dic kvs] ∧ r = .bl (holds k s pn W)
theorem ok_holds_at (F : FT K mg "holds_at" s_holds_at P_holds_at) (z : Zb mg) (c_tried_worth : Cal P w K mg base 4 "tried_worth" (spP K R_tried)) (c_frac_below : Cal P w K mg base 1 "frac_below" (spP K R_below)) : Cal P w K mg base 5 "holds_at" (spP K R_holds) := by
  obtain ⟨f, fd, F, gm, hb⟩ := F.ex
  refine cal_of F gm hb sc_holds_at (by decide) (fun ds r ⟨_, _, _, _, _, _, _, _, _, _, _, _, h, _⟩ => by rw [h]; rfl) fun cdv A outer s H E hr c ds r hR => ?_
  obtain ⟨k, st, pk, kvs, pn, W, wb, hk0, hst, hpv, hpn, hW, rfl, rfl⟩ := hR
  have hu := hr.units
  have sl0 := sts_slen hst
  have kf := hk0.few
  have wlo := hW.lo
  have whi := hW.hi
  obtain ⟨w1, w2⟩ := hW.at' _ hst
  refine dss_cons (ds_if (dt_cmp (de_call c_tried_worth (hr.mono (by decide)) (da_cons (de_var 0 rfl) (da_cons (de_var 1 rfl) (da_cons (de_getD hu (de_var 2 rfl) (de_var 1 rfl) hpv) (da_cons (de_var 3 rfl) da_nil)))) (by walk_at "dats") ⟨k, st, pn, kvs, W, wb, hk0, hst, hpn, hW, rfl, rfl⟩) (de_getD hu (de_var 3 rfl) (de_var 1 rfl) w1) (od_neD hu rfl rfl rfl rfl)) (fun hk => ?_) fun hk => ?_)
  · refine dss_cons (ds_ret de_bl ?_)
    rw [eqv_fr] at hk
    have e : decide (tried k st pn W = W st) = false := by simpa using hk
    unfold holds
    rw [e]
    rfl
  · rw [eqv_fr] at hk
    have e : decide (tried k st pn W = W st) = true := by simpa using hk
    refine dss_nil ?_
    refine dss_cons (ds_ret (de_not (de_any (bs := (List.range st.length).map fun bn => fLt (W st) (tried k st bn W)) z.any (da_cons (de_lc (((List.range st.length).map fun bn => fLt (W st) (tried k st bn W)).map .bl) (fun _ => []) [("bench", 4)] (.one 4) (di_range1 z.range (de_len z.len (da_cons (de_var 1 rfl) da_nil) (d := .st st) rfl) (by omega) (by omega)) sc_holds_at.nd (blkOk_by (N := N_holds_at) (sc := defScope s_holds_at) (by decide +kernel)) (fun _ _ _ _ _ => pg_one 4 sc_holds_at.nd)
        ⟨by rw [nums_len]; omega, by rw [nums_len, List.length_map, List.length_map, List.length_range]; omega, by simp [Tg.own], fun _ => Nat.le_refl _, fun i d zz hd hz => ?_⟩) da_nil))) ?_)
    · obtain ⟨hi, ed⟩ := of_nums hd
      have hi' : i < st.length := by omega
      have e0 : (0 : Int) + ((i : Nat) : Int) = ((i : Nat) : Int) := by omega
      rw [e0] at ed
      subst ed
      obtain ⟨q, hq, rfl⟩ := of_map hz
      rw [List.getElem?_map, List.getElem?_range hi'] at hq
      cases hq
      have tf := tried_fb hk0 hW hst (bn := i) (by omega)
      exact ⟨_, .one, fun c => fun s0 H0 C cl fp => de_call c_frac_below (hr.mono (by decide)) (da_cons (de_getD hu (de_var 3 rfl) (de_var 1 rfl) w1) (da_cons (de_call c_tried_worth (hr.mono (by decide)) (da_cons (de_var 0 rfl) (da_cons (de_var 1 rfl) (da_cons (de_var 4 rfl) (da_cons (de_var 3 rfl) da_nil)))) (by walk_at "dats") ⟨k, st, i, kvs, W, wb, hk0, hst, by omega, hW, rfl, rfl⟩) da_nil)) (by walk_at "dats") ⟨W st, tried k st i W, wb, 5 * wb + 40, w2, tf, by omega, by omega, by omega, rfl, rfl⟩⟩
    · unfold holds
      rw [e]
      rfl
def R_judge (ds : List Dat) (r : Dat) : Prop := ∃ (k : Book) (paper : Dat), BookOk k ∧ Tame paper ∧ ds = [bookD k, paper] ∧ r = .bl (judge k paper)
theorem ok_judge_worths (F : FT K mg "judge_worths" s_judge_worths P_judge_worths) (z : Zb mg) (c_look_at_book : Cal P w K mg base 8 "look_at_book" (spP K R_look_at_book)) (c_is_plan : Cal P w K mg base 3 "is_plan" (spP K R_is_plan)) (c_are_worths : Cal P w K mg base 3 "are_worths" (spP K R_are_worths)) (c_all_states : Cal P w K mg base 1 "all_states" (spP K R_all_states)) (c_holds_at : Cal P w K mg base 5 "holds_at" (spP K R_holds)) : Cal P w K mg base 9 "judge_worths" (spP K R_judge) := by
  obtain ⟨f, fd, F, gm, hb⟩ := F.ex
  refine cal_of F gm hb sc_judge_worths (by decide) (fun ds r ⟨_, _, _, _, h, _⟩ => by rw [h]; rfl) fun cdv A outer s H E hr c ds r hR => ?_
  obtain ⟨k, d, hk0, tm, rfl, rfl⟩ := hR
  have few := sts_few hk0
  have hst := tm.st
  refine dss_cons (ds_expr (de_call c_look_at_book (hr.mono (by decide)) (da_cons (de_var 0 rfl) da_nil) (by walk_at "dats") ⟨k, hk0, rfl, rfl⟩) ?_)
  cases ht : isTupT d with
  | false =>
    have e : judge k d = false := by cases d <;> first | rfl | cases ht
    refine dss_cons (ds_if (dw_dt (dw_or (k2 := false) (dt_not (dt_val (de_isi z.isinstance z.tuple (de_var 1 rfl) (kit_tuple d) boot_tuple'))) fun hk => absurd hk (by rw [ht]; decide))) (fun hk => ?_) fun hk => ?_)
    · refine dss_cons (ds_ret de_bl ?_)
      rw [e]; rfl
    · rw [ht] at hk; cases hk
  | true =>
    obtain ⟨ds, rfl⟩ : ∃ ds, d = .tup ds := by cases d <;> first | exact ⟨_, rfl⟩ | (cases hst; done) | (cases ht; done)
    by_cases hl : ds.length = 2
    · obtain ⟨p, wt, rfl⟩ := len2 hl
      refine dss_cons (ds_if (dw_dt (dw_or (dt_not (dt_val (de_isi z.isinstance z.tuple (de_var 1 rfl) (kit_tuple _) boot_tuple'))) fun hk => (dw_or1 (dt_cmp (de_len z.len (da_cons (de_var 1 rfl) da_nil) rfl) de_int od_ne)))) (fun hk => ff hk) fun hk => ?_)
      refine dss_nil ?_
      refine dss_cons (ds_unpack (T := .two 2 3) (pg_two 2 3 sc_judge_worths.nd) (de_var 1 rfl) .two ?_)
      rw [judge_two]
      have tmw : ∀ kvs, wt = .dic kvs → ∀ x ∈ kvs, TameV x.2 := fun kvs e => tm.kv p kvs (by rw [e])
      refine dss_cons (ds_if (dw_dt (dw_or (dt_not (dt_val (de_call c_is_plan (hr.mono (by decide)) (da_cons (de_var 0 rfl) (da_cons (de_var 2 rfl) da_nil)) (by walk_at "dats") ⟨k, p, hk0, rfl, rfl⟩))) fun hk => (dw_or1 (dt_not (dt_val (de_call c_are_worths (hr.mono (by decide)) (da_cons (de_var 0 rfl) (da_cons (de_var 3 rfl) da_nil)) (by walk_at "dats") ⟨k, wt, hk0, tmw, rfl, rfl⟩)))))) (fun hk => ?_) fun hk => ?_)
      · refine dss_cons (ds_ret de_bl ?_)
        cases h1 : isPl k p with
        | false => rfl
        | true =>
          cases h2 : areW k wt with
          | false => rfl
          | true => rw [h1, h2] at hk; exact ff hk
      · have h1 : isPl k p = true := by cases h : isPl k p <;> first | rfl | (rw [h] at hk; simp at hk)
        have h2 : areW k wt = true := by cases h : areW k wt <;> first | rfl | (rw [h] at hk; simp at hk)
        rw [h1, h2]
        obtain ⟨pk, rfl, hp⟩ := isPl_get h1
        obtain ⟨kvs, rfl, hW⟩ := areW_get h2 tmw
        refine dss_nil ?_
        refine dss_cons (ds_ret (de_all (bs := (sts k).map fun s => holds k s (numOf (valD pk s)) fun t => frOf (valD kvs t)) z.all (da_cons (de_lc (((sts k).map fun s => holds k s (numOf (valD pk s)) fun t => frOf (valD kvs t)).map .bl) (fun _ => []) [("state", 4)] (.one 4) (di_list (ds := (sts k).map .st) (de_call c_all_states (hr.mono (by decide)) (da_cons (de_var 0 rfl) da_nil) (by walk_at "dats") ⟨k, hk0, rfl, rfl⟩)) sc_judge_worths.nd (blkOk_by (N := N_judge_worths) (sc := defScope s_judge_worths) (by decide +kernel)) (fun _ _ _ _ _ => pg_one 4 sc_judge_worths.nd)
          ⟨by rw [List.length_map]; omega, by rw [List.length_map, List.length_map, List.length_map], by simp [Tg.own], fun _ => Nat.le_refl _, fun i d zz hd hz => ?_⟩) da_nil)) ?_)
        · obtain ⟨st, hs', rfl⟩ := of_map hd
          obtain ⟨q, hq, rfl⟩ := of_map hz
          rw [List.getElem?_map, hs'] at hq
          cases hq
          have mem := List.mem_of_getElem? hs'
          obtain ⟨n, n1, n2⟩ := hp st mem
          have en : numOf (valD pk st) = n := by rw [n1]; show ((n : Nat) : Int).toNat = n; omega
          show ∃ ρ2, _ ∧ ∀ c, EltP _ _ fun Y => DE Y c ρ2 _ _ (.d (.bl (holds k st (numOf (valD pk st)) fun t => frOf (valD kvs t)))) _
          rw [en]
          exact ⟨_, .one, fun c => fun s0 H0 C cl fp => de_call c_holds_at (hr.mono (by decide)) (da_cons (de_var 0 rfl) (da_cons (de_var 4 rfl) (da_cons (de_var 2 rfl) (da_cons (de_var 3 rfl) da_nil)))) (by walk_at "dats") ⟨k, st, pk, kvs, n, _, 1200, hk0, mem, n1, n2, hW, rfl, rfl⟩⟩
        · rw [List.all_map]
          rfl
    · have e : judge k (.tup ds) = false := by
        match ds, hl with
        | [], _ => rfl
        | [_], _ => rfl
        | [_, _], h => exact absurd rfl h
        | _ :: _ :: _ :: _, _ => rfl
      have hk1 : decide (((ds.length : Nat) : Int) = 2) = false := decide_eq_false (by omega)
      refine dss_cons (ds_if (dw_dt (dw_or (dt_not (dt_val (de_isi z.isinstance z.tuple (de_var 1 rfl) (kit_tuple _) boot_tuple'))) fun hk => (dw_or1 (dt_cmp (de_len z.len (da_cons (de_var 1 rfl) da_nil) rfl) de_int od_ne)))) (fun hk => ?_) fun hk => ?_)
      · refine dss_cons (ds_ret de_bl ?_)
        rw [e]; rfl
      · rw [hk1] at hk
        simp at hk
end
end Tw
end
section
set_option Elab.async false
set_option linter.all false
set_option maxRecDepth 100000
set_option maxHeartbeats 1000000
namespace Tw
open PySem PySem.Spec PyProof.Rows L2
open Evl (Ex)
def scD (sc : List Int) : Dat := .lst (sc.map .int)
def cellA (sc : List Int) (k : Nat) : Int := sc[k]?.getD 0
def cnum (p : Int) (t : Nat) : Int := (p * p + 69621 * ((t : Nat) : Int) + 7) % 2147483587
def cstep (p : Int × Int) (t : Nat) : Int × Int := (cnum p.1 t, p.2 * 2147483563 + cnum p.1 t * cnum p.1 t % 2147483563)
def cseed (sc : List Int) (k : Nat) : Int × Int := ((cellA sc k * 48271 + ((k : Nat) : Int) * 69621 + 11) % 2147483629, 0)
def cellV (sc : List Int) (k : Nat) : Int := if (10 : Int) ^ 18 ≤ cellA sc k then (cellA sc k - 10 ^ 18) % 10 ^ 60 else ((List.range 8).foldl cstep (cseed sc k)).2
theorem cstep_ok {p : Int × Int} {t : Nat} (h : 0 ≤ p.2) : 0 ≤ (cstep p t).1 ∧ (cstep p t).1 < 2147483587 ∧ 0 ≤ (cstep p t).2 := by
  have h1 : 0 ≤ cnum p.1 t := Int.emod_nonneg _ (by decide)
  have h2 : cnum p.1 t < 2147483587 := Int.emod_lt_of_pos _ (by decide)
  have h3 : 0 ≤ cnum p.1 t * cnum p.1 t % 2147483563 := Int.emod_nonneg _ (by decide)
  have h4 : 0 ≤ p.2 * 2147483563 := Int.mul_nonneg h (by decide)
  exact ⟨h1, h2, by show 0 ≤ p.2 * 2147483563 + cnum p.1 t * cnum p.1 t % 2147483563; omega⟩
theorem cfold_ok : ∀ (l : List Nat) {p : Int × Int}, 0 ≤ p.2 → 0 ≤ (l.foldl cstep p).2
  | [], _, h => h
  | t :: l, p, h => by
    rw [List.foldl_cons]
    exact cfold_ok l (cstep_ok h).2.2
theorem cellV_nonneg (sc : List Int) (k : Nat) : 0 ≤ cellV sc k := by
  unfold cellV
  split
  · exact Int.emod_nonneg _ (by decide)
  · exact cfold_ok _ (Int.le_refl 0)
section
variable {X : Cx} {c : Cz} {ρ : List Sl} {S S1 : List Ct} {a b : Expr} {k k2 : Bool} {rest : List Expr} {pos : Pos}
/-- a test that changes cells, then another -/
theorem dw_andS (h : DT X c ρ S a k S1) (h2 : k = true → DW X c ρ S1 (.BoolOp .And (b :: rest) pos) k2 S1) : DW X c ρ S (.BoolOp .And (a :: b :: rest) pos) (k && k2) S1 := dw_of (pw_and pt_tW pw_tW) fun σ H O hs sl Q q => by
  refine h σ H O hs sl _ fun H1 O1 a1 a2 => ?_
  cases k with
  | false => exact q H1 O1 a1 a2
  | true =>
    refine h2 rfl σ H1 _ a1 (sl.mono a2) Q fun H2 O2 b1 b2 => ?_
    rw [List.append_assoc] at b1 b2
    exact q H2 _ b1 (a2.trans b2)
end
section
variable {P : Program} {w : World} {K : PySem.W.Frag} {mg : Str → Option Value} {base : Heap}
def R_cell (ds : List Dat) (r : Dat) : Prop := ∃ (sc : List Int) (k : Nat), ds = [scD sc, .int (k : Nat)] ∧ r = .int (cellV sc k)
theorem ok_law_cell (F : FT K mg "_law_cell" s__law_cell P__law_cell) (z : Zb mg) : Cal P w K mg base 1 "_law_cell" (spP K R_cell) := by
  obtain ⟨f, fd, F, gm, hb⟩ := F.ex
  refine cal_of F gm hb sc__law_cell (by decide) (fun ds r ⟨_, _, h, _⟩ => by rw [h]; rfl) fun cdv A outer s H E hr c ds r hR => ?_
  obtain ⟨sc, k, rfl, rfl⟩ := hR
  have l1 : lenD (scD sc) = some sc.length := by simp [lenD, scD]
  refine dss_cons (ds_set 2 de_int ?_ sc__law_cell.nd)
  refine dss_cut (fun ρ S => ρ = [.d (scD sc), .d (.int (k : Nat)), .d (.int (cellA sc k)), .un, .un, .un] ∧ S = []) (ds_if (dt_cmp (de_var 1 rfl) (de_len z.len (da_cons (de_var 0 rfl) da_nil) l1) od_lt) (fun hk => ?_) fun hk => ?_) ?_
  · have hk2 : k < sc.length := by have := of_decide_eq_true hk; omega
    have e := List.getElem?_eq_getElem hk2
    have e2 : cellA sc k = sc[k] := by unfold cellA; rw [e]; rfl
    refine dss_cons (ds_set 2 (de_ix (de_var 0 rfl) (de_var 1 rfl) (ix_l (d := .int (cellA sc k)) (atI_at k (by rw [List.getElem?_map, e, e2]; rfl)))) ?_ sc__law_cell.nd)
    exact dss_nil ⟨rfl, rfl⟩
  · have hk2 : ¬ k < sc.length := by have := of_decide_eq_false hk; omega
    have e2 : cellA sc k = 0 := by unfold cellA; rw [List.getElem?_eq_none (by omega)]; rfl
    rw [e2]
    exact dss_nil ⟨rfl, rfl⟩
  · rintro ρ S ⟨rfl, rfl⟩
    have p18 : CPow 10 18 := ⟨by decide, by decide, by decide⟩
    have p60 : CPow 10 60 := ⟨by decide, by decide, by decide⟩
    refine dss_cons (ds_if (dt_cmp (de_var 2 rfl) (de_bin de_int de_int (od_pow p18)) od_ge) (fun hk => ?_) fun hk => ?_)
    · refine dss_cons (ds_ret (de_bin (de_bin (de_var 2 rfl) (de_bin de_int de_int (od_pow p18)) od_sub) (de_bin de_int de_int (od_pow p60)) (od_mod (by decide))) ?_)
      have hk2 := of_decide_eq_true hk
      show _ = Sl.d (.int (cellV sc k))
      unfold cellV
      rw [if_pos (by exact hk2)]
      rfl
    · have hk2 := of_decide_eq_false hk
      refine dss_nil ?_
      refine dss_cons (ds_set 3 (de_bin (de_bin (de_bin (de_bin (de_var 2 rfl) de_int (od_mulS (.inr ⟨by decide, by decide⟩))) (de_bin (de_var 1 rfl) de_int (od_mulS (.inr ⟨by decide, by decide⟩))) od_add) de_int od_add) de_int (od_mod (by decide))) ?_ sc__law_cell.nd)
      refine dss_cons (ds_set 4 de_int ?_ sc__law_cell.nd)
      refine dss_cut (fun ρ S => ∃ x y, ρ = [.d (scD sc), .d (.int (k : Nat)), .d (.int (cellA sc k)), x, .d (.int ((List.range 8).foldl cstep (cseed sc k)).2), y] ∧ S = []) (ds_for (T := .one 5) (di_range1 z.range de_int (by decide) (by decide)) (pg_one 5 sc__law_cell.nd) (fun i ρ S => ∃ p : Int × Int, ρ = [.d (scD sc), .d (.int (k : Nat)), .d (.int (cellA sc k)), .d (.int p.1), .d (.int p.2), .un] ∧ S = [] ∧ p = (List.range i).foldl cstep (cseed sc k) ∧ 0 ≤ p.2 ∧ 0 ≤ p.1 ∧ p.1 < 2147483629) ?_ ?_ ?_ ?_) ?_
      · rintro i ρ S ⟨_, rfl, rfl, _⟩; exact Nat.le_refl _
      · exact ⟨_, _, ⟨by walk_at "lel", [], rfl⟩, cseed sc k, rfl, rfl, rfl, Int.le_refl 0, Int.emod_nonneg _ (by decide), Int.emod_lt_of_pos _ (by decide)⟩
      · rintro i d ρ S hd ⟨p, rfl, rfl, hp, h2, h3, h4⟩
        obtain ⟨hi, ed⟩ := of_nums hd
        have e0 : (0 : Int) + ((i : Nat) : Int) = ((i : Nat) : Int) := by omega
        rw [e0] at ed
        subst ed
        obtain ⟨q1, q2, q3⟩ := cstep_ok (t := i) h2
        have q1' : 0 ≤ cnum p.1 i := q1
        have q2' : cnum p.1 i < 2147483587 := q2
        refine ⟨_, .one, ?_⟩
        refine dss_cons (ds_set 3 (de_bin (de_bin (de_bin (de_bin (de_var 3 rfl) (de_var 3 rfl) (od_mulS (.inl ⟨by omega, by omega⟩))) (de_bin de_int (de_var 5 rfl) (od_mulS (.inl ⟨by decide, by decide⟩))) od_add) de_int od_add) de_int (od_mod (by decide))) ?_ sc__law_cell.nd)
        show DSs _ _ [.d (scD sc), .d (.int (k : Nat)), .d (.int (cellA sc k)), .d (.int (cnum p.1 i)), .d (.int p.2), .d (.int ((i : Nat) : Int))] _ _ _
        refine dss_cons (ds_set 4 (de_bin (de_bin (de_var 4 rfl) de_int (od_mulS (.inr ⟨by decide, by decide⟩))) (de_bin (de_bin (de_var 3 rfl) (de_var 3 rfl) (od_mulS (.inl ⟨by omega, by omega⟩))) de_int (od_mod (by decide))) od_add) ?_ sc__law_cell.nd)
        refine dss_nil ⟨[.d (scD sc), .d (.int (k : Nat)), .d (.int (cellA sc k)), .d (.int (cstep p i).1), .d (.int (cstep p i).2), .un], _, ⟨by walk_at "lel", [], rfl⟩, cstep p i, rfl, rfl, ?_, q3, q1, by omega⟩
        rw [List.range_succ, List.foldl_append, ← hp]
        rfl
      · rintro ρ S ⟨p, rfl, rfl, hp, _⟩
        refine ⟨.d (.int p.1), .un, ?_, rfl⟩
        rw [show (nums 0 (8 : Int).toNat).length = 8 from nums_len _ _] at hp
        subst hp
        rfl
      · rintro ρ S ⟨x, y, rfl, rfl⟩
        refine dss_cons (ds_ret (de_var 4 rfl) ?_)
        show _ = Sl.d (.int (cellV sc k))
        unfold cellV
        rw [if_neg (by exact hk2)]
def R_take (n : Int) (ds : List Dat) (r : Dat) (n' : Int) : Prop := ∃ m : Nat, 0 < m ∧ m ≤ 1000 ∧ ds = [.int (m : Nat)] ∧ r = .int (n % (m : Nat)) ∧ n' = n / (m : Nat)
theorem ok_law_take (F : FT K mg "_law_take" s__law_take P__law_take) : Cal P w K mg base 1 "_law_take" (spM K R_take) := by
  obtain ⟨f, fd, F, gm, hb⟩ := F.ex
  refine cal_ofM F gm hb sc__law_take (by decide) (fun n ds r n' ⟨_, _, _, h, _⟩ => by rw [h]; rfl) fun cdv A outer s H E hr c n n' ds r hR => ?_
  obtain ⟨m, m1, m2, rfl, rfl, rfl⟩ := hR
  have h64 : (2 : Nat) ^ 64 = 18446744073709551616 := by decide
  have hd : CDivW n ((m : Nat) : Int) := wdiv (b := 64) (by omega) (by omega) (by decide)
  refine dss_cons (ds_set 2 (de_bin (de_ix (de_var 0 rfl) de_int (ix_o (k := 0) (d := .int n) rfl (atI_at 0 rfl))) (de_var 1 rfl) (od_mod (by omega))) ?_ sc__law_take.nd)
  refine dss_cons (ds_setL (k := 0) (j := 0) (de_bin (de_ix (de_var 0 rfl) de_int (ix_o (k := 0) (d := .int n) rfl (atI_at 0 rfl))) (de_var 1 rfl) (od_div hd)) (de_var 0 rfl) de_int rfl (ixN_nat (n := 1) (j := 0) (by decide)) ?_)
  exact dss_cons (ds_ret (de_var 2 rfl) ⟨rfl, rfl⟩)
def gainV (n : Int) : Fr := nf (n % 19 - 9) (1 + n / 19 % 6)
def R_gain (n : Int) (ds : List Dat) (r : Dat) (n' : Int) : Prop := ds = [] ∧ r = frD (gainV n) ∧ n' = n / 19 / 6
theorem ok_law_gain (F : FT K mg "_law_gain" s__law_gain P__law_gain) (c__law_take : Cal P w K mg base 1 "_law_take" (spM K R_take)) (c__law_frac : Cal P w K mg base 2 "_law_frac" (spP K R_nf)) : Cal P w K mg base 3 "_law_gain" (spM K R_gain) := by
  obtain ⟨f, fd, F, gm, hb⟩ := F.ex
  refine cal_ofM F gm hb sc__law_gain (by decide) (fun n ds r n' ⟨h, _⟩ => by rw [h]; rfl) fun cdv A outer s H E hr c n n' ds r hR => ?_
  obtain ⟨rfl, rfl, rfl⟩ := hR
  have t1 : (0 : Int) ≤ n / 19 % 6 := Int.emod_nonneg _ (by decide)
  have t2 : n / 19 % 6 < 6 := Int.emod_lt_of_pos _ (by decide)
  refine dss_cons (ds_set 1 (de_bin (de_callM (i := 0) c__law_take (hr.mono (by decide)) (da_cons (de_var 0 rfl) (da_cons de_int da_nil)) (by walk_at "dats") rfl ⟨19, by decide, by decide, rfl, rfl, rfl⟩) de_int od_sub) ?_ sc__law_gain.nd)
  refine dss_cons (ds_ret (de_call c__law_frac (hr.mono (by decide)) (da_cons (de_var 1 rfl) (da_cons (de_bin de_int (de_callM (i := 0) c__law_take (hr.mono (by decide)) (da_cons (de_var 0 rfl) (da_cons de_int da_nil)) (by walk_at "dats") rfl ⟨6, by decide, by decide, rfl, rfl, rfl⟩) od_add) da_nil)) (by walk_at "dats") ⟨n % 19 - 9, 1 + n / 19 % 6, by omega, ?_, rfl, rfl⟩) ⟨rfl, rfl⟩)
  have : (2 : Nat) ^ 64 ≤ 2 ^ 9000 := pow_mono (by decide)
  have e : (2 : Nat) ^ 64 = 18446744073709551616 := by decide
  omega
def partV (n : Int) : Fr := nf (1 + n / 8 % (1 + n % 8)) (2 + n % 8)
def R_part (ds : List Dat) (r : Dat) : Prop := ∃ n : Int, ds = [.int n] ∧ r = frD (partV n)
theorem ok_law_part (F : FT K mg "_law_part" s__law_part P__law_part) (c__law_take : Cal P w K mg base 1 "_law_take" (spM K R_take)) (c__law_frac : Cal P w K mg base 2 "_law_frac" (spP K R_nf)) : Cal P w K mg base 3 "_law_part" (spP K R_part) := by
  obtain ⟨f, fd, F, gm, hb⟩ := F.ex
  refine cal_of F gm hb sc__law_part (by decide) (fun ds r ⟨_, h, _⟩ => by rw [h]; rfl) fun cdv A outer s H E hr c ds r hR => ?_
  obtain ⟨n, rfl, rfl⟩ := hR
  have t1 : (0 : Int) ≤ n % 8 := Int.emod_nonneg _ (by decide)
  have t2 : n % 8 < 8 := Int.emod_lt_of_pos _ (by decide)
  obtain ⟨m, hm⟩ : ∃ m : Nat, n % 8 = ((m : Nat) : Int) := ⟨(n % 8).toNat, by omega⟩
  refine dss_cons (ds_set 1 (de_lstO (da_cons (de_var 0 rfl) da_nil) (by walk_at "dats") (by walk_at "le")) ?_ sc__law_part.nd)
  refine dss_cons (ds_set 2 (de_bin de_int (de_callM (i := 0) c__law_take (hr.mono (by decide)) (da_cons (de_var 1 rfl) (da_cons de_int da_nil)) (by walk_at "dats") rfl ⟨8, by decide, by decide, rfl, rfl, rfl⟩) od_add) ?_ sc__law_part.nd)
  refine dss_cons (ds_ret (de_call c__law_frac (hr.mono (by decide)) (da_cons (de_bin de_int (de_callM (i := 0) c__law_take (hr.mono (by decide)) (da_cons (de_var 1 rfl) (da_cons (de_bin (de_var 2 rfl) de_int od_sub) da_nil)) (by walk_at "dats") rfl ⟨m + 1, by omega, by omega, ?_, rfl, rfl⟩) od_add) (da_cons (de_var 2 rfl) da_nil)) (by walk_at "dats") ⟨_, 2 + n % 8, by omega, ?_, rfl, rfl⟩) ?_)
  · have e : 2 + n % ((8 : Nat) : Int) - 1 = ((m + 1 : Nat) : Int) := by
      have : n % ((8 : Nat) : Int) = n % 8 := rfl
      omega
    rw [e]
  · have : (2 : Nat) ^ 64 ≤ 2 ^ 9000 := pow_mono (by decide)
    have e : (2 : Nat) ^ 64 = 18446744073709551616 := by decide
    omega
  · show _ = Sl.d (frD (partV n))
    unfold partV
    rw [show 1 + n % 8 = ((m + 1 : Nat) : Int) by omega]
    rfl
def R_copied (ds : List Dat) (r : Dat) : Prop := ∃ b : Bench, b.length ≤ 5 ∧ ds = [benchD b] ∧ r = benchD b
theorem ok_law_copied (F : FT K mg "_law_copied" s__law_copied P__law_copied) (z : Zb mg) : Cal P w K mg base 1 "_law_copied" (spP K R_copied) := by
  obtain ⟨f, fd, F, gm, hb⟩ := F.ex
  refine cal_of F gm hb sc__law_copied (by decide) (fun ds r ⟨_, _, h, _⟩ => by rw [h]; rfl) fun cdv A outer s H E hr c ds r hR => ?_
  obtain ⟨b, few, rfl, rfl⟩ := hR
  refine dss_cons (ds_ret (de_lc (b.map standD) (fun _ => []) [("_law_gain_here", 1), ("_law_moves", 2)] (.two 1 2) (di_list (de_var 0 rfl)) sc__law_copied.nd (blkOk_by (N := N__law_copied) (sc := defScope s__law_copied) (by decide +kernel)) (fun _ _ _ _ _ => pg_two 1 2 sc__law_copied.nd)
    ⟨by rw [List.length_map]; omega, rfl, by simp [Tg.own], fun _ => Nat.le_refl _, fun i d zz hd hz => ?_⟩) rfl)
  obtain ⟨t, ht, rfl⟩ := of_map hd
  obtain ⟨t2, ht2, rfl⟩ := of_map hz
  rw [ht] at ht2
  cases ht2
  exact ⟨_, .two, fun c => fun s0 H0 C cl fp => de_tup (da_cons (de_var 1 rfl) (da_cons (de_listOf z.list (da_cons (de_var 2 rfl) da_nil)) da_nil)) (by walk_at "dats") (by walk_at "le")⟩
def R_book_copied (ds : List Dat) (r : Dat) : Prop := ∃ k : Book, BookOk k ∧ ds = [bookD k] ∧ r = bookD k
theorem ok_law_book_copied (F : FT K mg "_law_book_copied" s__law_book_copied P__law_book_copied) (c__law_copied : Cal P w K mg base 1 "_law_copied" (spP K R_copied)) : Cal P w K mg base 2 "_law_book_copied" (spP K R_book_copied) := by
  obtain ⟨f, fd, F, gm, hb⟩ := F.ex
  refine cal_of F gm hb sc__law_book_copied (by decide) (fun ds r ⟨_, _, h, _⟩ => by rw [h]; rfl) fun cdv A outer s H E hr c ds r hR => ?_
  obtain ⟨k, hk0, rfl, rfl⟩ := hR
  have kf := hk0.few
  refine dss_cons (ds_ret (de_tup (da_cons (de_ix (de_var 0 rfl) de_int (ix_t (atI_at 0 rfl))) (da_cons (de_lc (k.2.map benchD) (fun _ => []) [("_law_bench_here", 1)] (.one 1) (di_list (de_ix (de_var 0 rfl) de_int (ix_t (atI_at 1 rfl)))) sc__law_book_copied.nd (blkOk_by (N := N__law_book_copied) (sc := defScope s__law_book_copied) (by decide +kernel)) (fun _ _ _ _ _ => pg_one 1 sc__law_book_copied.nd)
    ⟨by rw [List.length_map]; omega, rfl, by simp [Tg.own], fun _ => Nat.le_refl _, fun i d zz hd hz => ?_⟩) da_nil)) (by walk_at "dats") (by walk_at "le")) rfl)
  obtain ⟨b, hb', rfl⟩ := of_map hd
  obtain ⟨b2, hb2, rfl⟩ := of_map hz
  rw [hb'] at hb2
  cases hb2
  exact ⟨_, .one, fun c => fun s0 H0 C cl fp => de_call c__law_copied (hr.mono (by decide)) (da_cons (de_var 1 rfl) da_nil) (by walk_at "dats") ⟨b, (hk0.bn b (List.mem_of_getElem? hb')).few, rfl, rfl⟩⟩
theorem ok_law_is_fraction (F : FT K mg "_law_is_fraction" s__law_is_fraction P__law_is_fraction) (z : Zb mg) (c__law_shared : Cal P w K mg base 1 "_law_shared" (spP K R_gcd)) : Cal P w K mg base 2 "_law_is_fraction" (spP K R_is_fraction) := by
  obtain ⟨f, fd, F, gm, hb⟩ := F.ex
  refine cal_of F gm hb sc__law_is_fraction (by decide) (fun ds r ⟨_, h, _⟩ => by rw [h]; rfl) fun cdv A outer s H E hr c ds r hR => ?_
  obtain ⟨d, rfl, hst, rfl⟩ := hR
  cases ht : isTupT d with
  | false =>
    have e : isFrD d = false := by cases d <;> first | rfl | cases ht
    refine dss_cons (ds_if (dw_dt (dw_or (k2 := false) (dt_not (dt_val (de_isi z.isinstance z.tuple (de_var 0 rfl) (kit_tuple d) boot_tuple'))) fun hk => absurd hk (by rw [ht]; decide))) (fun hk => ?_) fun hk => ?_)
    · refine dss_cons (ds_ret de_bl ?_)
      rw [e]; rfl
    · rw [ht] at hk; cases hk
  | true =>
    obtain ⟨ds, rfl⟩ : ∃ ds, d = .tup ds := by cases d <;> first | exact ⟨_, rfl⟩ | (cases hst; done) | (cases ht; done)
    by_cases hl : ds.length = 2
    · obtain ⟨x, y, rfl⟩ := len2 hl
      refine dss_cons (ds_if (dw_dt (dw_or (dt_not (dt_val (de_isi z.isinstance z.tuple (de_var 0 rfl) (kit_tuple _) boot_tuple'))) fun hk => (dw_or1 (dt_cmp (de_len z.len (da_cons (de_var 0 rfl) da_nil) rfl) de_int od_ne)))) (fun hk => ff hk) fun hk => ?_)
      refine dss_nil ?_
      refine dss_cut (fun ρ S => (∃ u, ρ = [.d (.tup [x, y]), u]) ∧ S = [] ∧ isInt x = true ∧ isInt y = true) (ds_for (T := .one 1) (di_tup (de_var 0 rfl)) (pg_one 1 sc__law_is_fraction.nd) (fun i ρ S => ρ = [.d (.tup [x, y]), .un] ∧ S = [] ∧ (0 < i → isInt x = true) ∧ (1 < i → isInt y = true)) ?_ ?_ ?_ ?_) ?_
      · rintro i ρ S ⟨rfl, rfl, _⟩; exact Nat.le_refl _
      · exact ⟨_, _, ⟨by walk_at "lel", [], rfl⟩, rfl, rfl, fun h => absurd h (by decide), fun h => absurd h (by decide)⟩
      · rintro i d ρ S hd ⟨rfl, rfl, i1, i2⟩
        have hi : i < 2 := (List.getElem?_eq_some_iff.mp hd).1
        refine ⟨_, .one, ?_⟩
        refine dss_cons (ds_if (dw_dt (dw_or (dt_not (dt_val (de_isi z.isinstance z.int (de_var 1 rfl) (kit_int d) boot_int'))) fun hk => (dw_or1 (dt_val (de_isi z.isinstance z.bool (de_var 1 rfl) (kit_bool d) boot_bool'))))) (fun hk => ?_) fun hk => ?_)
        · refine dss_cons (ds_ret de_bl ?_)
          have hd0 : isInt d = false := by cases d <;> first | rfl | exact ff hk
          have e : isFrD (.tup [x, y]) = false := by
            refine isFr_not ?_
            match i, hi, hd with
            | 0, _, hd =>
              simp at hd
              subst hd
              rw [hd0]; rfl
            | 1, _, hd =>
              simp at hd
              subst hd
              rw [hd0]; simp
          rw [e]; rfl
        · have hd1 : isInt d = true := by cases d <;> first | rfl | (simp [isIntT, isBlT] at hk; done)
          refine dss_nil (dss_nil ⟨_, _, ⟨by walk_at "lel", [], rfl⟩, rfl, rfl, fun _ => ?_, fun h => ?_⟩)
          · match i, hi, hd with
            | 0, _, hd =>
              simp at hd
              subst hd
              exact hd1
            | 1, _, hd => exact i1 (by decide)
          · match i, hi, hd with
            | 0, _, _ => exact absurd h (by decide)
            | 1, _, hd =>
              simp at hd
              subst hd
              exact hd1
      · rintro ρ S ⟨rfl, rfl, i1, i2⟩
        exact ⟨⟨_, rfl⟩, rfl, i1 (by show 0 < 2; decide), i2 (by show 1 < 2; decide)⟩
      · rintro ρ S ⟨⟨u, rfl⟩, rfl, i1, i2⟩
        obtain ⟨a, rfl⟩ := isInt_get i1
        obtain ⟨b, rfl⟩ := isInt_get i2
        refine dss_cons (ds_ret (de_and (de_cmp (de_ix (de_var 0 rfl) de_int (ix_t (atI_at 1 rfl))) de_int od_gt) fun hk => (de_one (de_cmp (de_call c__law_shared (hr.mono (by decide)) (da_cons (de_ix (de_var 0 rfl) de_int (ix_t (atI_at 0 rfl))) (da_cons (de_ix (de_var 0 rfl) de_int (ix_t (atI_at 1 rfl))) da_nil)) (by walk_at "dats") ⟨a, b, by have := of_decide_eq_true hk; omega, rfl, rfl⟩) de_int od_eq))) ?_)
        have : decide (0 < b) = decide (1 ≤ b) := by rw [decide_eq_decide]; omega
        rw [this]
        rfl
    · have e : isFrD (.tup ds) = false := isFr_len hl
      have hk1 : decide (((ds.length : Nat) : Int) = 2) = false := decide_eq_false (by omega)
      refine dss_cons (ds_if (dw_dt (dw_or (dt_not (dt_val (de_isi z.isinstance z.tuple (de_var 0 rfl) (kit_tuple _) boot_tuple'))) fun hk => (dw_or1 (dt_cmp (de_len z.len (da_cons (de_var 0 rfl) da_nil) rfl) de_int od_ne)))) (fun hk => ?_) fun hk => ?_)
      · refine dss_cons (ds_ret de_bl ?_)
        rw [e]; rfl
      · rw [hk1] at hk
        simp at hk
end
end Tw
end
section
set_option Elab.async false
set_option linter.all false
set_option maxRecDepth 100000
set_option maxHeartbeats 1000000
namespace Tw
open PySem PySem.Spec PyProof.Rows L2
open Evl (Ex)
def menu : List (List Nat) := [[1], [2], [3], [5], [1, 1], [2, 2], [3, 2], [2, 5], [4, 4], [1, 2, 2], [2, 2, 2], [3, 2, 3], [1, 5, 1]]
def digits (c : Int) (nb : Nat) : Nat → List Nat
  | 0 => []
  | n + 1 => (c % (nb : Nat)).toNat :: digits (c / (nb : Nat)) nb n
theorem digits_len : ∀ (n : Nat) (c : Int) (nb : Nat), (digits c nb n).length = n
  | 0, _, _ => rfl
  | n + 1, c, nb => by rw [digits, List.length_cons, digits_len n]
theorem digits_lt {nb : Nat} (h : 0 < nb) : ∀ (n : Nat) (c : Int), ∀ d ∈ digits c nb n, d < nb
  | 0, _, d, hd => by simp [digits] at hd
  | n + 1, c, d, hd => by
    rw [digits] at hd
    rcases List.mem_cons.mp hd with e | hd
    · subst e
      have h1 := Int.emod_nonneg c (show ((nb : Nat) : Int) ≠ 0 by omega)
      have h2 := Int.emod_lt_of_pos c (show (0 : Int) < ((nb : Nat) : Int) by omega)
      omega
    · exact digits_lt h n _ d hd
def shr (c : Int) (nb : Nat) : Nat → Int
  | 0 => c
  | n + 1 => shr (c / (nb : Nat)) nb n
theorem digits_get : ∀ (i n : Nat) (c : Int) (nb : Nat), i < n → (digits c nb n)[i]? = some (shr c nb i % (nb : Nat)).toNat
  | 0, n + 1, c, nb, _ => rfl
  | i + 1, n + 1, c, nb, h => by
    rw [digits, List.getElem?_cons_succ, digits_get i n _ nb (by omega)]
    rfl
  | _, 0, _, _, h => absurd h (Nat.not_lt_zero _)
theorem shr_succ : ∀ (i : Nat) (c : Int) (nb : Nat), shr c nb (i + 1) = shr c nb i / (nb : Nat)
  | 0, c, nb => rfl
  | i + 1, c, nb => by
    show shr (c / (nb : Nat)) nb (i + 1) = _
    rw [shr_succ i]
    rfl
def lawPs (k : Book) (c : Int) : List Nat := digits c k.2.length (sts k).length
theorem lawPs_ok {k : Book} (hk : BookOk k) (c : Int) : PlOk k (lawPs k c) := ⟨digits_len _ _ _, digits_lt (by have := hk.pos; omega) _ _⟩
section
variable {P : Program} {w : World} {K : PySem.W.Frag} {mg : Str → Option Value} {base : Heap}
theorem ok_law_states (F : FT K mg "_law_states" s__law_states P__law_states) (z : Zb mg) : Cal P w K mg base 1 "_law_states" (spP K R_all_states) := by
  obtain ⟨f, fd, F, gm, hb⟩ := F.ex
  refine cal_of F gm hb sc__law_states (by decide) (fun ds r ⟨_, _, h, _⟩ => by rw [h]; rfl) fun cdv A outer s H E hr c ds r hR => ?_
  obtain ⟨k, hk0, rfl, rfl⟩ := hR
  refine dss_cons (ds_set 1 (de_lst (da_cons (de_tupSt (ns := []) da_nil (Nat.zero_le _)) da_nil) (by walk_at "dats") (by walk_at "le")) ?_ sc__law_states.nd)
  refine dss_cut (fun ρ S => ∃ x y z w, ρ = [.d (bookD k), .d (statesD (statesOf (sizes k))), x, y, z, w]) (ds_for (T := .one 2) (di_list (de_ix (de_var 0 rfl) de_int (ix_t (atI_at 1 rfl)))) (pg_one 2 sc__law_states.nd) (fun i ρ S => ρ = [.d (bookD k), .d (statesD (statesOf ((sizes k).take i))), .un, .un, .un, .un] ∧ S = []) ?_ ?_ ?_ ?_) ?_
  · rintro i ρ S ⟨rfl, rfl⟩; exact Nat.le_refl _
  · exact ⟨_, _, ⟨by walk_at "lel", [], rfl⟩, rfl, rfl⟩
  · rintro i d ρ S hd ⟨rfl, rfl⟩
    obtain ⟨b, hb', rfl⟩ := of_map hd
    have hbn := hk0.bn b (List.mem_of_getElem? hb')
    have few := hbn.few
    have l1 : lenD (benchD b) = some b.length := by simp [lenD, benchD]
    have hsz : (sizes k)[i]? = some b.length := by
      unfold sizes
      rw [List.getElem?_map, hb']
      rfl
    have hlen : (statesOf ((sizes k).take i)).length ≤ 125 := by
      rw [statesOf_len]
      exact hk0.upto i
    have slen : ∀ s ∈ statesOf ((sizes k).take i), s.length ≤ 3 := fun s hs => by
      rw [statesOf_mem _ hs, List.length_take]
      have h6 := hk0.few
      have h7 : (sizes k).length = k.2.length := List.length_map _
      omega
    have est := statesOf_step hsz
    generalize hfound : statesOf ((sizes k).take i) = found at hlen slen est
    refine ⟨_, .one, ?_⟩
    refine dss_cons (ds_set 3 (de_lstO da_nil (by walk_at "dats") (by walk_at "le")) ?_ sc__law_states.nd)
    refine dss_cut (fun ρ S => ∃ x y, ρ = [.d (bookD k), .d (statesD found), .d (benchD b), .o 0, x, y] ∧ S = [.l ((nextStates found b.length).map .st)]) (ds_for (T := .one 4) (di_list (ds := found.map .st) (de_var 1 rfl)) (pg_one 4 sc__law_states.nd) (fun j ρ S => ρ = [.d (bookD k), .d (statesD found), .d (benchD b), .o 0, .un, .un] ∧ S = [.l ((nextStates (found.take j) b.length).map .st)]) ?_ ?_ ?_ ?_) ?_
    · rintro i ρ S ⟨rfl, rfl⟩; exact Nat.le_refl _
    · exact ⟨_, _, ⟨by walk_at "lel", [], rfl⟩, rfl, rfl⟩
    · rintro j d ρ S hd ⟨rfl, rfl⟩
      obtain ⟨st, hs', rfl⟩ := of_map hd
      have hj := (List.getElem?_eq_some_iff.mp hs').1
      have sl3 := slen st (List.mem_of_getElem? hs')
      have l2 := nextStates_len (found.take j) b.length
      have l3 : (found.take j).length ≤ 125 := by rw [List.length_take]; omega
      have l4 : (found.take j).length * b.length ≤ 125 * 5 := Nat.mul_le_mul l3 few
      have e : nextStates (found.take (j + 1)) b.length = nextStates (found.take j) b.length ++ (List.range b.length).map fun (i : Nat) => st ++ [(i : Int)] := by
        unfold nextStates
        rw [flatMap_take hs']
      generalize nextStates (found.take j) b.length = nx at l2 e
      refine ⟨_, .one, ?_⟩
      refine dss_cons (ds_for (T := .one 5) (di_range1 z.range (de_len z.len (da_cons (de_var 2 rfl) da_nil) l1) (by omega) (by omega)) (pg_one 5 sc__law_states.nd) (fun m ρ S => ρ = [.d (bookD k), .d (statesD found), .d (benchD b), .o 0, .d (.st st), .un] ∧ S = [.l ((nx ++ (List.range m).map fun (i : Nat) => st ++ [(i : Int)]).map .st)]) ?_ ?_ ?_ ?_)
      · rintro i ρ S ⟨rfl, rfl⟩; exact Nat.le_refl _
      · refine ⟨_, [.l ((nx ++ (List.range 0).map fun (i : Nat) => st ++ [(i : Int)]).map .st)], ⟨by walk_at "lel", [], ?_⟩, rfl, rfl⟩
        rw [List.range_zero, List.map_nil, List.append_nil, List.append_nil]
      · rintro m d ρ S hd ⟨rfl, rfl⟩
        obtain ⟨hm, ed⟩ := of_nums hd
        have e0 : (0 : Int) + ((m : Nat) : Int) = ((m : Nat) : Int) := by omega
        rw [e0] at ed
        subst ed
        refine ⟨_, .one, ?_⟩
        refine dss_cons (ds_expr (de_append (k := 0) (de_var 3 rfl) (de_bin (de_var 4 rfl) (de_tupSt (ns := [((m : Nat) : Int)]) (da_cons (de_var 5 rfl) da_nil) (by walk_at "le")) (od_catS (by simp; omega))) ⟨_, rfl⟩ rfl (by simp; omega)) ?_)
        refine dss_nil ⟨_, [.l ((nx ++ (List.range (m + 1)).map fun (i : Nat) => st ++ [(i : Int)]).map .st)], ⟨by walk_at "lel", [], ?_⟩, rfl, rfl⟩
        have eq : (nx ++ (List.range (m + 1)).map fun (i : Nat) => st ++ [(i : Int)]).map Dat.st = (nx ++ (List.range m).map fun (i : Nat) => st ++ [(i : Int)]).map Dat.st ++ [Dat.st (st ++ [((m : Nat) : Int)])] := by
          rw [List.range_succ, List.map_append (l₁ := List.range m), ← List.append_assoc, List.map_append]
          rfl
        rw [eq]
        rfl
      · rintro ρ S ⟨rfl, rfl⟩
        refine dss_nil ⟨_, [.l ((nextStates (found.take (j + 1)) b.length).map .st)], ⟨by walk_at "lel", [], ?_⟩, rfl, rfl⟩
        rw [nums_len, e, show (((b.length : Nat) : Int)).toNat = b.length by omega]
        rfl
    · rintro ρ S ⟨rfl, rfl⟩
      refine ⟨.un, .un, rfl, ?_⟩
      rw [List.length_map, List.take_length]
    · rintro ρ S ⟨x, y, rfl, rfl⟩
      refine dss_cons (ds_set 1 (de_dat (de_var 3 rfl) rfl rfl) ?_ sc__law_states.nd)
      refine dss_nil ⟨_, [], ⟨?_, [.gone], rfl⟩, rfl, rfl⟩
      rw [est]
      walk_at "lel"
  · rintro ρ S ⟨rfl, rfl⟩
    refine ⟨.un, .un, .un, .un, ?_⟩
    rw [List.length_map, show k.2.length = (sizes k).length from (List.length_map _).symm, List.take_length]
  · rintro ρ S ⟨x, y, z, w, rfl⟩
    refine dss_cons (ds_ret (de_var 1 rfl) ?_)
    rfl
theorem ok_law_tried (F : FT K mg "_law_tried" s__law_tried P__law_tried) (c__law_plus : Cal P w K mg base 3 "_law_plus" (spP K (R_fr fAdd))) (c__law_by : Cal P w K mg base 3 "_law_by" (spP K (R_fr fMul))) : Cal P w K mg base 4 "_law_tried" (spP K R_tried) := by
  obtain ⟨f, fd, F, gm, hb⟩ := F.ex
  refine cal_of F gm hb sc__law_tried (by decide) (fun ds r ⟨_, _, _, _, _, _, _, _, _, _, h, _⟩ => by rw [h]; rfl) fun cdv A outer s H E hr c ds r hR => ?_
  obtain ⟨k, st, bn, kvs, W, wb, hk0, hst, hbn, hW, rfl, rfl⟩ := hR
  obtain ⟨b, j, t, g1, g2, g3, g4, g5, g6, g7⟩ := stAt_get hk0 hst hbn
  have hu := hr.units
  have wlo := hW.lo
  have whi := hW.hi
  have mf := g6.mv.few
  have sl0 : st.length = k.2.length := sts_slen hst
  have kf := hk0.few
  refine dss_cons (ds_unpack (T := .two 4 5) (pg_two 4 5 sc__law_tried.nd) (d := standD t) (de_ix (de_ix (de_ix (de_var 0 rfl) de_int (ix_t (atI_at 1 rfl))) (de_var 2 rfl) (ix_l (d := benchD b) (atI_at bn (by rw [List.getElem?_map, g1]; rfl)))) (de_ix (de_var 1 rfl) (de_var 2 rfl) (ix_s (n := ((j : Nat) : Int)) (atI_at bn g2))) (ix_l (d := standD t) (atI_at j (by rw [List.getElem?_map, g3]; rfl)))) .two ?_)
  refine dss_cons (ds_set 6 (de_tup (da_cons de_int (da_cons de_int da_nil)) (by walk_at "dats") (by walk_at "le")) ?_ sc__law_tried.nd)
  refine dss_cut (fun ρ S => ∃ x y, ρ = [.d (bookD k), .d (.st st), .d (.int (bn : Nat)), .d (.dic kvs), .d (frD t.1), .d (movesD t.2), .d (frD (triedS st bn W t.2)), x, y] ∧ S = []) (ds_for (T := .two 7 8) (di_list (de_var 5 rfl)) (pg_two 7 8 sc__law_tried.nd) (fun i ρ S => ρ = [.d (bookD k), .d (.st st), .d (.int (bn : Nat)), .d (.dic kvs), .d (frD t.1), .d (movesD t.2), .d (frD (triedS st bn W (t.2.take i))), .un, .un] ∧ S = []) ?_ ?_ ?_ ?_) ?_
  · rintro i ρ S ⟨rfl, rfl⟩; exact Nat.le_refl _
  · exact ⟨_, _, ⟨by walk_at "lel", [], rfl⟩, rfl, rfl⟩
  · rintro i d ρ S hd ⟨rfl, rfl⟩
    obtain ⟨m, hm, rfl⟩ := of_map hd
    have mem := List.mem_of_getElem? hm
    have hi := (List.getElem?_eq_some_iff.mp hm).1
    obtain ⟨l1, l2, l3⟩ := g6.mv.low m mem
    have lt := g6.mv.lt m mem
    obtain ⟨w1, w2⟩ := hW.at' _ (moved_mem hst g7 lt)
    have fb := triedS_fb hW hst g7 g6.mv i (by omega)
    have e2 : (wb + 6) * i ≤ (wb + 6) * 4 := Nat.mul_le_mul (Nat.le_refl _) (by omega)
    have x1 : cutN st none (some ((bn : Nat) : Int)) = st.take bn := cutN_to (by omega)
    have x2 : cutN st (some (((bn : Nat) : Int) + 1)) none = st.drop (bn + 1) := cutN_from (k := bn + 1) (by omega)
    have t1 : (st.take bn).length ≤ 10 := by rw [List.length_take]; omega
    have t2 : (st.drop (bn + 1)).length ≤ 10 := by rw [List.length_drop]; omega
    refine ⟨_, .two, ?_⟩
    refine dss_cons (ds_set 6 (de_call c__law_plus (hr.mono (by decide)) (da_cons (de_var 6 rfl) (da_cons (de_call c__law_by (hr.mono (by decide)) (da_cons (de_var 7 rfl) (da_cons (de_getD hu (de_var 3 rfl) (de_bin (de_bin (de_slice (de_var 1 rfl) do_none (do_some (de_var 2 rfl))) (de_tupSt (ns := [((m.2 : Nat) : Int)]) (da_cons (de_var 8 rfl) da_nil) (by walk_at "le")) (od_catS (by rw [x1]; simp; omega))) (de_slice (de_var 1 rfl) (do_some (de_bin (de_var 2 rfl) de_int od_add)) do_none) (od_catS (by rw [x1, x2]; simp; omega))) (d := frD (W (moved st bn m.2))) (by rw [x1, x2]; exact w1)) da_nil)) (by walk_at "dats") ⟨m.1, W (moved st bn m.2), 5, wb, l3, w2, by decide, by omega, by omega, rfl, rfl⟩) da_nil)) (by walk_at "dats") ⟨_, _, _, 5 + wb, fb, Fb.mul l3 w2, by omega, by omega, by omega, rfl, rfl⟩) ?_ sc__law_tried.nd)
    refine dss_nil ⟨_, _, ⟨?_, [], rfl⟩, rfl, rfl⟩
    rw [triedS_take hm]
    walk_at "lel"
  · rintro ρ S ⟨rfl, rfl⟩
    refine ⟨.un, .un, ?_, rfl⟩
    rw [List.length_map, List.take_length]
  · rintro ρ S ⟨x, y, rfl, rfl⟩
    have fb := triedS_fb hW hst g7 g6.mv t.2.length (Nat.le_refl _)
    rw [List.take_length] at fb
    have e2 : (wb + 6) * t.2.length ≤ (wb + 6) * 5 := Nat.mul_le_mul (Nat.le_refl _) mf
    have fb2 := Fb.mul hk0.part.fb fb
    refine dss_cons (ds_ret (de_call c__law_plus (hr.mono (by decide)) (da_cons (de_var 4 rfl) (da_cons (de_call c__law_by (hr.mono (by decide)) (da_cons (de_ix (de_var 0 rfl) de_int (ix_t (atI_at 0 rfl))) (da_cons (de_var 6 rfl) da_nil)) (by walk_at "dats") ⟨k.1, triedS st bn W t.2, 4, _, hk0.part.fb, fb, by decide, by omega, by omega, rfl, rfl⟩) da_nil)) (by walk_at "dats") ⟨t.1, _, 4, _, g6.fb, fb2, by decide, by omega, by omega, rfl, rfl⟩) ?_)
    unfold tried
    rw [g4]
    rfl
def R_law_plan (ds : List Dat) (r : Dat) : Prop := ∃ (sc : List Int) (j : Nat) (k : Book), BookOk k ∧ ds = [scD sc, .int (j : Nat), bookD k] ∧ r = planD k (lawPs k (cellV sc j))
def lpKv (k : Book) (c : Int) (i : Nat) : List (List Int × Dat) := ((sts k).take i).zip ((casts ((lawPs k c).take i)).map .int)
theorem lpKv_put {k : Book} {c : Int} {i n : Nat} {s : List Int} (h : (sts k)[i]? = some s) (e : (lawPs k c)[i]? = some n) : putD (lpKv k c i) s (.int ((n : Nat) : Int)) = lpKv k c (i + 1) := by
  have hi := (List.getElem?_eq_some_iff.mp h).1
  have l : (lawPs k c).length = (sts k).length := digits_len _ _ _
  rw [putD_new _ (valD_none fun kv hkv e => not_take (nodup_states _) h (by rw [← e]; exact zip_keys hkv))]
  unfold lpKv
  have e1 : (sts k).take (i + 1) = (sts k).take i ++ [s] := by rw [List.take_add_one, h]; rfl
  have e2 : (lawPs k c).take (i + 1) = (lawPs k c).take i ++ [n] := by rw [List.take_add_one, e]; rfl
  rw [e1, e2, casts_snoc, List.map_append]
  show _ = ((sts k).take i ++ [s]).zip (((casts ((lawPs k c).take i)).map Dat.int) ++ [Dat.int ((n : Nat) : Int)])
  rw [zip_snoc (by rw [List.length_take, List.length_map, casts_len, List.length_take]; omega)]
theorem ok_law_plan (F : FT K mg "_law_plan" s__law_plan P__law_plan) (z : Zb mg) (c__law_cell : Cal P w K mg base 1 "_law_cell" (spP K R_cell)) (c__law_states : Cal P w K mg base 1 "_law_states" (spP K R_all_states)) (c__law_take : Cal P w K mg base 1 "_law_take" (spM K R_take)) : Cal P w K mg base 2 "_law_plan" (spP K R_law_plan) := by
  obtain ⟨f, fd, F, gm, hb⟩ := F.ex
  refine cal_of F gm hb sc__law_plan (by decide) (fun ds r ⟨_, _, _, _, h, _⟩ => by rw [h]; rfl) fun cdv A outer s H E hr c ds r hR => ?_
  obtain ⟨sc, j, k, hk0, rfl, rfl⟩ := hR
  have hu := hr.units
  have few := sts_few hk0
  have kp := hk0.pos
  have kf := hk0.few
  have l1 : lenD (.lst (k.2.map benchD)) = some k.2.length := by simp [lenD]
  have l : (lawPs k (cellV sc j)).length = (sts k).length := digits_len _ _ _
  refine dss_cons (ds_set 3 (de_lstO (da_cons (de_call c__law_cell (hr.mono (by decide)) (da_cons (de_var 0 rfl) (da_cons (de_var 1 rfl) da_nil)) (by walk_at "dats") ⟨sc, j, rfl, rfl⟩) da_nil) (by walk_at "dats") (by walk_at "le")) ?_ sc__law_plan.nd)
  refine dss_cons (ds_set 4 de_dnewM ?_ sc__law_plan.nd)
  refine dss_cut (fun ρ S => ∃ x y, ρ = [.d (scD sc), .d (.int (j : Nat)), .d (bookD k), .o 0, .o 1, x] ∧ S = [y, .m ((sts k).zip ((casts (lawPs k (cellV sc j))).map .int))]) (ds_for (T := .one 5) (di_list (ds := (sts k).map .st) (de_call c__law_states (hr.mono (by decide)) (da_cons (de_var 2 rfl) da_nil) (by walk_at "dats") ⟨k, hk0, rfl, rfl⟩)) (pg_one 5 sc__law_plan.nd) (fun i ρ S => ρ = [.d (scD sc), .d (.int (j : Nat)), .d (bookD k), .o 0, .o 1, .un] ∧ S = [.l [.int (shr (cellV sc j) k.2.length i)], .m (lpKv k (cellV sc j) i)]) ?_ ?_ ?_ ?_) ?_
  · rintro i ρ S ⟨rfl, rfl⟩; exact Nat.le_refl _
  · exact ⟨_, _, ⟨by walk_at "lel", [], rfl⟩, rfl, rfl⟩
  · rintro i d ρ S hd ⟨rfl, rfl⟩
    obtain ⟨st, hst, rfl⟩ := of_map hd
    have hi := (List.getElem?_eq_some_iff.mp hst).1
    have dg := digits_get i (sts k).length (cellV sc j) k.2.length hi
    have nn := Int.emod_nonneg (shr (cellV sc j) k.2.length i) (show ((k.2.length : Nat) : Int) ≠ 0 by omega)
    refine ⟨_, .one, ?_⟩
    refine dss_cons (ds_putM (k := 1) (kvs := lpKv k (cellV sc j) i) hu (de_callM (i := 0) c__law_take (hr.mono (by decide)) (da_cons (de_var 3 rfl) (da_cons (de_len z.len (da_cons (de_ix (de_var 2 rfl) de_int (ix_t (atI_at 1 rfl))) da_nil) l1) da_nil)) (by walk_at "dats") rfl ⟨k.2.length, by omega, by omega, rfl, rfl, rfl⟩) (de_var 4 rfl) (de_var 5 rfl) rfl (by unfold lpKv; rw [List.length_zip, List.length_take]; omega) ?_)
    have en : shr (cellV sc j) k.2.length i % ((k.2.length : Nat) : Int) = (((shr (cellV sc j) k.2.length i % ((k.2.length : Nat) : Int)).toNat : Nat) : Int) := by omega
    rw [en, lpKv_put hst dg]
    refine dss_nil ⟨_, [.l [.int (shr (cellV sc j) k.2.length (i + 1))], .m (lpKv k (cellV sc j) (i + 1))], ⟨by walk_at "lel", [], ?_⟩, rfl, rfl⟩
    rw [shr_succ]
    rfl
  · rintro ρ S ⟨rfl, rfl⟩
    refine ⟨.un, .l [.int (shr (cellV sc j) k.2.length ((sts k).map Dat.st).length)], rfl, ?_⟩
    unfold lpKv
    rw [List.length_map, List.take_length]
    have e3 : (lawPs k (cellV sc j)).take (sts k).length = lawPs k (cellV sc j) := by rw [← l, List.take_length]
    rw [e3]
  · rintro ρ S ⟨x, y, rfl, rfl⟩
    exact dss_cons (ds_ret (de_dat (i := 1) (de_var 4 rfl) rfl rfl) rfl)
end
end Tw
end
section
set_option Elab.async false
set_option linter.all false
set_option maxRecDepth 100000
set_option maxHeartbeats 1000000
namespace Tw
open PySem PySem.Spec PyProof.Rows L2
open Evl (Ex)
/-- written lists of ints, as text -/
abbrev IntC := Int × Nat × Pos
def intL (l : List IntC) : List Expr := l.map fun c => .Constant (.int c.1) c.2.1 c.2.2
def natL (l : List (List IntC × Pos)) : List Expr := l.map fun c => .List (intL c.1) c.2
def intS (l : List IntC) : List Dat := l.map fun c => .int c.1
def natS (l : List (List IntC × Pos)) : List Dat := l.map fun c => .lst (intS c.1)
theorem star_list (l : List Expr) (p : Pos) (es : List Expr) (env : Env) : starEach (.List l p :: es) env = (false, eval (.List l p) env) :: starEach es env := rfl
theorem star_const (k : Const) (j : Nat) (p : Pos) (es : List Expr) (env : Env) : starEach (.Constant k j p :: es) env = (false, eval (.Constant k j p) env) :: starEach es env := rfl
theorem dats_map {α : Type} (f : α → Dat) : ∀ l : List α, Dats (l.map fun x => Sl.d (f x)) (l.map f)
  | [] => .nil
  | _ :: l => .cons (dats_map f l)
section
variable {X : Cx} {c : Cz} {ρ : List Sl} {S : List Ct} {pos : Pos}
theorem da_intL : ∀ l : List IntC, DA X c ρ S (intL l) (l.map fun c => Sl.d (.int c.1)) S
  | [] => da_nil
  | x :: l => da_cons de_int (da_intL l) (star_const _ _ _ _ _)
theorem de_intL (l : List IntC) (h : l.length ≤ 1000) : DE X c ρ S (.List (intL l) pos) (.d (.lst (intS l))) S := de_lst (da_intL l) (dats_map (fun c : IntC => .int c.1) l) (by unfold intS; rw [List.length_map]; exact h)
theorem da_natL : ∀ l : List (List IntC × Pos), (∀ x ∈ l, x.1.length ≤ 1000) → DA X c ρ S (natL l) (l.map fun c => Sl.d (.lst (intS c.1))) S
  | [], _ => da_nil
  | x :: l, h => da_cons (de_intL x.1 (h x List.mem_cons_self)) (da_natL l fun y hy => h y (List.mem_cons_of_mem _ hy)) (star_list _ _ _ _)
theorem de_natL (l : List (List IntC × Pos)) (h : l.length ≤ 1000) (h2 : ∀ x ∈ l, x.1.length ≤ 1000) : DE X c ρ S (.List (natL l) pos) (.d (.lst (natS l))) S := de_lst (da_natL l h2) (dats_map (fun c : List IntC × Pos => .lst (intS c.1)) l) (by unfold natS; rw [List.length_map]; exact h)
end
def dn1 (a : Int) : Dat := .lst [.int a]
def dn2 (a b : Int) : Dat := .lst [.int a, .int b]
def dn3 (a b c : Int) : Dat := .lst [.int a, .int b, .int c]
def menuD : List Dat := [dn1 1, dn1 2, dn1 3, dn1 5, dn2 1 1, dn2 2 2, dn2 3 2, dn2 2 5, dn2 4 4, dn3 1 2 2, dn3 2 2 2, dn3 3 2 3]
theorem menu_get {i : Nat} (h : i < 13) : (menuD ++ [dn3 1 5 1])[i]? = some (natsD (menu.getD i [])) := by
  match i, h with
  | 0, _ => rfl
  | 1, _ => rfl
  | 2, _ => rfl
  | 3, _ => rfl
  | 4, _ => rfl
  | 5, _ => rfl
  | 6, _ => rfl
  | 7, _ => rfl
  | 8, _ => rfl
  | 9, _ => rfl
  | 10, _ => rfl
  | 11, _ => rfl
  | 12, _ => rfl
theorem sizes_body : ∃ (p q cp q2 p1 p2 p3 p4 p5 p6 p7 : Pos) (j : Nat) (L L2 : List (List IntC × Pos)), defBody s__law_sizes = [.Assign [.Name "_law_some" p] (.List (natL L) q) cp, .Return (some (.Subscript (.BinOp (.Name "_law_some" p1) .Add (.List (natL L2) q2) p2) (.BinOp (.Name "_law_cell_here" p3) .Mod (.Constant (.int 13) j p4) p5) p6)) p7] ∧
    (natS L = menuD ∧ L.length ≤ 1000 ∧ (L.all fun x => decide (x.1.length ≤ 1000)) = true) ∧ natS L2 = [dn3 1 5 1] ∧ L2.length ≤ 1000 ∧ (L2.all fun x => decide (x.1.length ≤ 1000)) = true :=
  ⟨_, _, _, _, _, _, _, _, _, _, _, _, [([(1, _, _)], _), ([(2, _, _)], _), ([(3, _, _)], _), ([(5, _, _)], _), ([(1, _, _), (1, _, _)], _), ([(2, _, _), (2, _, _)], _), ([(3, _, _), (2, _, _)], _), ([(2, _, _), (5, _, _)], _), ([(4, _, _), (4, _, _)], _), ([(1, _, _), (2, _, _), (2, _, _)], _), ([(2, _, _), (2, _, _), (2, _, _)], _), ([(3, _, _), (2, _, _), (3, _, _)], _)], [([(1, _, _), (5, _, _), (1, _, _)], _)], rfl, ⟨rfl, by decide, by decide⟩, rfl, by decide, by decide⟩
section
variable {P : Program} {w : World} {K : PySem.W.Frag} {mg : Str → Option Value} {base : Heap}
def R_sizes (ds : List Dat) (r : Dat) : Prop := ∃ n : Int, 0 ≤ n ∧ ds = [.int n] ∧ r = natsD (menu.getD (n % 13).toNat [])
theorem ok_law_sizes (F : FT K mg "_law_sizes" s__law_sizes P__law_sizes) : Cal P w K mg base 1 "_law_sizes" (spP K R_sizes) := by
  obtain ⟨f, fd, F, gm, hb⟩ := F.ex
  refine cal_of F gm hb sc__law_sizes (by decide) (fun ds r ⟨_, _, h, _⟩ => by rw [h]; rfl) fun cdv A outer s H E hr c ds r hR => ?_
  obtain ⟨n, hn, rfl, rfl⟩ := hR
  have t1 : (0 : Int) ≤ n % 13 := Int.emod_nonneg _ (by decide)
  have t2 : n % 13 < 13 := Int.emod_lt_of_pos _ (by decide)
  obtain ⟨i, hi⟩ : ∃ i : Nat, n % 13 = ((i : Nat) : Int) := ⟨(n % 13).toNat, by omega⟩
  have hi13 : i < 13 := by omega
  have hix : atI (menuD ++ [dn3 1 5 1]) (n % 13) = some (natsD (menu.getD (n % 13).toNat [])) := by
    rw [hi]
    refine atI_at i ?_
    rw [show (((i : Nat) : Int)).toNat = i by omega]
    exact menu_get hi13
  obtain ⟨p, q, cp, q2, p1, p2, p3, p4, p5, p6, p7, j, L, L2, hbd, ⟨h1, h2, h3⟩, h4, h5, h6⟩ := sizes_body
  rw [hbd]
  have D1 := fun (ρ : List Sl) => de_natL (X := BX P w K mg base N__law_sizes "_law_sizes" s__law_sizes f cdv A outer s H E) (c := c) (ρ := ρ) (S := []) (pos := q) L h2 (fun x hx => of_decide_eq_true (List.all_eq_true.mp h3 x hx))
  have D2 := fun (ρ : List Sl) => de_natL (X := BX P w K mg base N__law_sizes "_law_sizes" s__law_sizes f cdv A outer s H E) (c := c) (ρ := ρ) (S := []) (pos := q2) L2 h5 (fun x hx => of_decide_eq_true (List.all_eq_true.mp h6 x hx))
  rw [h1] at D1
  rw [h4] at D2
  refine dss_cons (ds_set 1 (D1 _) ?_ sc__law_sizes.nd)
  exact dss_cons (ds_ret (de_ix (de_bin (de_var 1 rfl) (D2 _) (od_catL (by decide))) (de_bin (de_var 0 rfl) de_int (od_mod (by decide))) (ix_l (d := natsD (menu.getD (n % 13).toNat [])) hix)) rfl)
end
end Tw
end
section
set_option Elab.async false
set_option linter.all false
set_option maxRecDepth 100000
set_option maxHeartbeats 1000000
/-! TwSortZ: sorted(zip(xs, ys)): the pairs laid in a list, then sorted. -/
namespace Tw
open PySem PySem.Spec PyProof.Rows L2
theorem nolen_zip : typeLookup (.type "zip") "__len__" = pure none := by rw [typeLookup_type, builtinLookup_eq_fast]; kernel_rfl
theorem nohint_zip : typeLookup (.type "zip") "__length_hint__" = pure none := by rw [typeLookup_type, builtinLookup_eq_fast]; kernel_rfl
/-- zip's record behind i turns; nobody lets go of the pairs -/
def ZSt (z TI TO i1 i2 l1 l2 S : Addr) (xs ys : Array Value) (i : Nat) (h : Heap) : Prop := PySem.IsPair h TI (.ref i1) (.ref i2) ∧ h.IsListIter i1 l1 i ∧ h.IsListIter i2 l2 i ∧ h.IsList l1 xs ∧ h.IsList l2 ys ∧
  ((IsZip h z TI TO .none ∧ ∃ a b, PySem.IsPair h TO a b) ∨ ∃ T f oT, IsZipHeld h z TI TO T f ∧ h.get? T = some oT ∧ T ≠ z ∧ T ≠ i1 ∧ T ≠ i2 ∧ T ≠ S)
/-- apart from the list that is filled -/
structure ZFar (z TI TO i1 i2 l1 l2 S : Addr) : Prop where
  z : S ≠ z
  TI : S ≠ TI
  TO : S ≠ TO
  i1 : S ≠ i1
  i2 : S ≠ i2
  l1 : S ≠ l1
  l2 : S ≠ l2
section
variable {prog : Program} {w : World} {A : Around} {E : Value → Shared → Prop} {s : Shared} {z TI TO i1 i2 l1 l2 S : Addr} {xs ys : Array Value} {i : Nat}
theorem ZSt.frame {h h' : Heap} (d : ZFar z TI TO i1 i2 l1 l2 S) (st : ZSt z TI TO i1 i2 l1 l2 S xs ys i h) (hk : ∀ b o, b ≠ S → h.get? b = some o → h'.get? b = some o) : ZSt z TI TO i1 i2 l1 l2 S xs ys i h' := by
  obtain ⟨hTI, h1, h2, hl1, hl2, hz⟩ := st
  refine ⟨hk _ _ (Ne.symm d.TI) hTI, h1.at fun o e => hk _ o (Ne.symm d.i1) e, h2.at fun o e => hk _ o (Ne.symm d.i2) e, hl1.at fun o e => hk _ o (Ne.symm d.l1) e, hl2.at fun o e => hk _ o (Ne.symm d.l2) e, ?_⟩
  rcases hz with ⟨hz, a, b, hTO⟩ | ⟨T, f, oT, hz, hT, r1, r2, r3, r4⟩
  · exact .inl ⟨hk _ _ (Ne.symm d.z) hz, a, b, hk _ _ (Ne.symm d.TO) hTO⟩
  · exact .inr ⟨T, f, oT, hk _ _ (Ne.symm d.z) hz, hk _ _ r4 hT, r1, r2, r3, r4⟩
theorem nxtZ {x y : Value} {Q : Option Value → Shared → Prop} (D : ZipApart z TI TO i1 i2 l1 l2) (st : ZSt z TI TO i1 i2 l1 l2 S xs ys i s.heap) (hS : S < s.heap.objs.size) (ex : xs[i]? = some x) (ey : ys[i]? = some y)
    (hQ : ∀ h', ZSt z TI TO i1 i2 l1 l2 S xs ys (i + 1) h' → PySem.IsPair h' s.heap.objs.size x y → (∀ c o, c ≠ z → c ≠ TO → c ≠ i1 → c ≠ i2 → s.heap.get? c = some o → h'.get? c = some o) → Q (some (.ref s.heap.objs.size)) { s with heap := h' }) :
    wpAny (model prog w) A (pyNext (.ref z)) Q E s := by
  obtain ⟨hTI, h1, h2, hl1, hl2, hz⟩ := st
  have lt : ∀ {c o}, s.heap.get? c = some o → s.heap.objs.size ≠ c := fun e => Nat.ne_of_gt (Heap.lt_size e)
  have n1 : s.heap.objs.size ≠ i1 := let ⟨_, e, _⟩ := h1; lt e
  have n2 : s.heap.objs.size ≠ i2 := let ⟨_, e, _⟩ := h2; lt e
  rcases hz with ⟨hz, a, b, hTO⟩ | ⟨T, f, oT, hz, hT, r1, r2, r3, r4⟩
  · refine wpAny_pyNext_zip_item D hz hTI hTO h1 h2 hl1 hl2 ex ey fun h' a1 a2 a3 a4 a5 a6 hk => ?_
    exact hQ h' ⟨hk _ _ D.TIz D.TITO D.TIi1 D.TIi2 hTI, a3, a4, hl1.at fun o e => hk _ o D.l1z D.l1TO D.l1i1 D.l1i2 e, hl2.at fun o e => hk _ o D.l2z D.l2TO D.l2i1 D.l2i2 e,
      .inr ⟨s.heap.objs.size, false, _, a1, a5, lt hz, n1, n2, Nat.ne_of_gt hS⟩⟩ a5 hk
  · refine wpAny_pyNext_zip_item_held D hz hT hTI h1 h2 hl1 hl2 ex ey fun h' a1 a3 a4 a5 a6 hk => ?_
    exact hQ h' ⟨hk _ _ D.TIz D.TIi1 D.TIi2 hTI, a3, a4, hl1.at fun o e => hk _ o D.l1z D.l1i1 D.l1i2 e, hl2.at fun o e => hk _ o D.l2z D.l2i1 D.l2i2 e,
      .inr ⟨T, true, oT, a1, hk _ _ r1 r2 r3 hT, r1, r2, r3, r4⟩⟩ a5 fun c o c1 _ c3 c4 e => hk c o c1 c3 c4 e
theorem finZ {Q : Option Value → Shared → Prop} (hh : A.handled = none) (D : ZipApart z TI TO i1 i2 l1 l2) (st : ZSt z TI TO i1 i2 l1 l2 S xs ys i s.heap) (hend : xs[i]? = none ∨ ys[i]? = none)
    (hQ : ∀ h', (∀ c o, c ≠ z → c ≠ TO → c ≠ i1 → c ≠ i2 → s.heap.get? c = some o → h'.get? c = some o) → Q none { s with heap := h' }) : wpAny (model prog w) A (pyNext (.ref z)) Q E s := by
  obtain ⟨hTI, h1, h2, hl1, hl2, hz⟩ := st
  rcases hz with ⟨hz, a, b, hTO⟩ | ⟨T, f, oT, hz, hT, r1, r2, r3, r4⟩
  · exact wpAny_pyNext_zip_end hh D hz hTI hTO h1 h2 hl1 hl2 hend fun h' hk => hQ h' hk
  · exact wpAny_pyNext_zip_end_held hh D hz hT hTI h1 h2 hl1 hl2 hend fun h' hk => hQ h' fun c o c1 _ c3 c4 e => hk c o c1 c3 c4 e
/-- the pairs that have been laid -/
structure MadeZ (xs ys : Array Value) (lo : Addr) (h : Heap) (as : List Addr) : Prop where
  rise : as.Pairwise (· < ·)
  above : ∀ a ∈ as, lo ≤ a
  pairs : ∀ (j : Nat) (a : Addr), as[j]? = some a → ∃ x y, xs[j]? = some x ∧ ys[j]? = some y ∧ PySem.IsPair h a x y
theorem MadeZ.there {lo : Addr} {h : Heap} {as : List Addr} (g : MadeZ xs ys lo h as) {a : Addr} (ha : a ∈ as) : a < h.objs.size := by
  obtain ⟨j, hj⟩ := List.mem_iff_getElem?.mp ha
  obtain ⟨_, _, _, _, e⟩ := g.pairs j a hj
  exact Heap.lt_size e
theorem loopZ {R : Result → Shared → Prop} {lo n : Nat} (hh : A.handled = none) (D : ZipApart z TI TO i1 i2 l1 l2) (d : ZFar z TI TO i1 i2 l1 l2 S) (hlo : ∀ b ∈ [z, TO, i1, i2, S], b < lo) (hn : n ≤ sizeLine) (hx : xs.size = n) (hy : ys.size = n) (res : Value) {h₁ : Heap}
    (hR : ∀ h' tk acc c as, (∀ b o, b ∉ [z, TO, i1, i2, S] → h₁.get? b = some o → h'.get? b = some o) → h'.get? S = some { cls := .type "list", dict := none, data := .seq acc c, slots := #[] } → as.length = n → MadeZ xs ys lo h' as →
      acc.toList = as.map Value.ref → R (.ok (.ret res)) { s with heap := h', toks := tk }) :
    ∀ (k i : Nat) (h : Heap) (tk c : Nat) (acc : Array Value) (as : List Addr), n - i = k → i ≤ n → ZSt z TI TO i1 i2 l1 l2 S xs ys i h → (∀ b o, b ∉ [z, TO, i1, i2, S] → h₁.get? b = some o → h.get? b = some o) →
      h.get? S = some { cls := .type "list", dict := none, data := .seq acc c, slots := #[] } → acc.toList = as.map Value.ref → as.length = i → MadeZ xs ys lo h as → lo ≤ h.objs.size →
      codeAny (model prog w) A (.builtin "list.extend.loop" ⟨[.ref S, .ref z, res], []⟩) R { s with heap := h, toks := tk } := by
  intro k
  induction k with
  | zero =>
    intro i h tk c acc as hk hi hst hkeep hS hacc hal hG hIs
    refine codeAny_builtin PySem.F.entry_extend_loop ?_
    rw [Around.under_plainId PySem.F.plain_extend_loop _]
    show wpAny _ A.in1 (pyNext (.ref z) >>= _) _ _ _
    refine wpAny_bind (finZ (s := { s with heap := h, toks := tk }) (A := A.in1) hh D hst (.inl (Array.getElem?_eq_none (by omega))) fun h' he => ?_)
    have up : ∀ b o, b ∉ [z, TO, i1, i2, S] → h.get? b = some o → h'.get? b = some o := fun b o hb e => he b o (fun q => hb (by simp [q])) (fun q => hb (by simp [q])) (fun q => hb (by simp [q])) (fun q => hb (by simp [q])) e
    refine wpAny_pure (hR h' tk acc c as (fun b o hb e => up b o hb (hkeep b o hb e)) (he S _ d.z d.TO d.i1 d.i2 hS) (by omega) ⟨hG.rise, hG.above, fun j a hj => ?_⟩ hacc)
    obtain ⟨x, y, e1, e2, e3⟩ := hG.pairs j a hj
    have ha := hG.above a (List.mem_of_getElem? hj)
    exact ⟨x, y, e1, e2, up a _ (fun hm => absurd (hlo a hm) (Nat.not_lt.mpr ha)) e3⟩
  | succ k ih =>
    intro i h tk c acc as hk hi hst hkeep hS hacc hal hG hIs
    have hlt : i < n := by omega
    have hsz : acc.size = i := by rw [← Array.length_toList, hacc, List.length_map, hal]
    have ex := Array.getElem?_eq_getElem (show i < xs.size by omega)
    have ey := Array.getElem?_eq_getElem (show i < ys.size by omega)
    refine codeAny_builtin PySem.F.entry_extend_loop ?_
    rw [Around.under_plainId PySem.F.plain_extend_loop _]
    show wpAny _ A.in1 (pyNext (.ref z) >>= _) _ _ _
    refine wpAny_bind (nxtZ (s := { s with heap := h, toks := tk }) (S := S) D hst (Heap.lt_size hS) ex ey fun h' hst' ht hkp => ?_)
    dsimp only at ht hkp ⊢
    have hS' := hkp S _ d.z d.TO d.i1 d.i2 hS
    have up : ∀ b o, b ≠ S → h'.get? b = some o → (h'.update S (Obj.mapSeq (·.push (Value.ref h.objs.size)))).get? b = some o := fun b o hb e => (Heap.get?_update_other _ _ (Ne.symm hb)).trans e
    have hSl : S < h.objs.size := Heap.lt_size hS
    have up2 : ∀ b o, b ∉ [z, TO, i1, i2, S] → h.get? b = some o → (h'.update S (Obj.mapSeq (·.push (Value.ref h.objs.size)))).get? b = some o := fun b o hb e => up b o (fun q => hb (by simp [q])) (hkp b o (fun q => hb (by simp [q])) (fun q => hb (by simp [q])) (fun q => hb (by simp [q])) (fun q => hb (by simp [q])) e)
    show wpAny _ A.in1 (updateSeq S (·.push (Value.ref h.objs.size)) >>= _) _ _ _
    refine wpAny_bind ?_
    have en := up _ _ (Nat.ne_of_gt hSl) ht
    refine wpAny_updateSeq hS' rfl (wpAny_pure ⟨plainId_quiet PySem.F.plain_extend_loop _, ih (i + 1) _ tk _ (acc.push (Value.ref h.objs.size)) (as ++ [h.objs.size]) (by omega) hlt (hst'.frame d up)
      (fun b o hb e => up2 b o hb (hkeep b o hb e)) (Heap.get?_update_self _ hS' rfl) (by rw [Array.toList_push, hacc, List.map_append]; rfl) (by rw [List.length_append, hal]; rfl) ⟨?_, ?_, ?_⟩ (Nat.le_of_lt (Nat.lt_of_le_of_lt hIs (Heap.lt_size en)))⟩) (by rw [hsz]; omega) (by show (acc.push (Value.ref h.objs.size)).size ≤ sizeLine + 1; rw [Array.size_push, hsz]; omega)
    · refine List.pairwise_append.mpr ⟨hG.rise, List.pairwise_singleton _ _, fun a ha b hb => ?_⟩
      rw [List.mem_singleton.mp hb]
      exact hG.there ha
    · intro a ha
      rcases List.mem_append.mp ha with ha | ha
      · exact hG.above a ha
      · rw [List.mem_singleton.mp ha]; exact hIs
    · intro j b hj
      rcases Nat.lt_trichotomy j as.length with h1 | h1 | h1
      · rw [List.getElem?_append_left h1] at hj
        obtain ⟨x', y', e1, e2, e3⟩ := hG.pairs j b hj
        have hb := hG.above b (List.mem_of_getElem? hj)
        exact ⟨x', y', e1, e2, up2 b _ (fun hm => absurd (hlo b hm) (Nat.not_lt.mpr hb)) e3⟩
      · subst h1
        have hb : h.objs.size = b := by simpa using hj
        subst hb
        subst hal
        exact ⟨_, _, ex, ey, en⟩
      · have hnone : (as ++ [h.objs.size])[j]? = none := List.getElem?_eq_none (by rw [List.length_append, List.length_singleton]; omega)
        rw [hnone] at hj; cases hj
theorem hintZ (hT : s.TypeIs (.ref z) "zip") {Q : Bool → Shared → Prop} (h : Q true s) : wpAny (model prog w) A (Builtin.List.listLengthHint (.ref z)) Q E s := by
  unfold Builtin.List.listLengthHint
  refine wpAny_bind (wpAny_specialOf hT nolen_zip ?_)
  show wpAny _ _ (specialOf (Value.ref z) (Str.ofString "__length_hint__") >>= _) _ _ _
  refine wpAny_bind (wpAny_specialOf hT nohint_zip ?_)
  exact wpAny_pure h
theorem extZ {R : Result → Shared → Prop} {n : Nat} (hh : A.handled = none) (D : ZipApart z TI TO i1 i2 l1 l2) (Z : ZipAt s.heap z TI TO i1 i2 l1 l2 xs ys) (d : ZFar z TI TO i1 i2 l1 l2 S) (hn : n ≤ sizeLine) (hx : xs.size = n) (hy : ys.size = n) (res : Value) (c₀ : Nat)
    (hS : s.heap.get? S = some { cls := .type "list", data := .seq #[] c₀ })
    (hR : ∀ h' tk acc c as, (∀ b o, b ∉ [z, TO, i1, i2, S] → s.heap.get? b = some o → h'.get? b = some o) → h'.get? S = some { cls := .type "list", dict := none, data := .seq acc c, slots := #[] } → as.length = n → MadeZ xs ys s.heap.objs.size h' as →
      acc.toList = as.map Value.ref → R (.ok (.ret res)) { s with heap := h', toks := tk }) :
    wpAny (model prog w) A.in1 (Builtin.List.listExtendWith (.ref S) (.ref z) res)
      (fun fin s' => match fin with | .done f => R (.ok f) s' | .again c' => c'.quiet = true ∧ codeAny (model prog w) A c' R s') (fun e s' => R (.error e) s') s := by
  obtain ⟨hz, hTI, ⟨a, b, hTO⟩, h1, h2, hl1, hl2⟩ := Z
  have hT : s.TypeIs (.ref z) "zip" := ⟨_, hz, rfl⟩
  have ltO : ∀ b ∈ [z, TO, i1, i2, S], b < s.heap.objs.size := fun b hb => by
    simp only [List.mem_cons, List.not_mem_nil, or_false] at hb
    rcases hb with e | e | e | e | e <;> subst e
    · exact Heap.lt_size hz
    · exact Heap.lt_size hTO
    · obtain ⟨_, e, _⟩ := h1; exact Heap.lt_size e
    · obtain ⟨_, e, _⟩ := h2; exact Heap.lt_size e
    · exact Heap.lt_size hS
  have key : ∀ (h : Heap) (c₁ tk : Nat), (∀ b o, b ≠ S → s.heap.get? b = some o → h.get? b = some o) → s.heap.objs.size ≤ h.objs.size → h.get? S = some { cls := .type "list", data := .seq #[] c₁ } →
      codeAny (model prog w) A (.builtin "list.extend.loop" ⟨[.ref S, .ref z, res], []⟩) R { s with heap := h, toks := tk } := fun h c₁ tk hk hsz hS₁ =>
    loopZ (s := s) (h₁ := s.heap) (lo := s.heap.objs.size) (n := n) hh D d ltO hn hx hy res hR n 0 h tk c₁ #[] [] (Nat.sub_zero _) (Nat.zero_le _)
      (ZSt.frame d ⟨hTI, h1, h2, hl1, hl2, .inl ⟨hz, a, b, hTO⟩⟩ hk) (fun b o hb e => hk b o (fun q => hb (by simp [q])) e) hS₁ rfl rfl
      ⟨List.Pairwise.nil, (fun _ ha => nomatch ha), (fun j a hj => by simp at hj)⟩ hsz
  unfold Builtin.List.listExtendWith
  refine wpAny_bind (wpAny_typeOf (T := "zip") hT ?_)
  have g1 : Builtin.List.listSameRef (.ref S) (.ref z) = false := by simp [Builtin.List.listSameRef, d.z]
  have g2 : (Value.type "zip" == Value.type "list") = false := by decide
  have g3 : (Value.type "zip" == Value.type "tuple") = false := by decide
  simp only [g1, g2, g3, Bool.or_false, Bool.false_eq_true, if_false]
  refine wpAny_bind (wpAny_pyIter_zip hz ?_)
  refine wpAny_bind (wpAny_holding (hintZ hT ?_))
  refine wpAny_ite_split (fun _ => ?_) (fun _ => wpAny_pure ⟨plainId_quiet PySem.F.plain_extend_loop _, key _ c₀ _ (fun b o _ e => e) (Nat.le_refl _) hS⟩)
  refine wpAny_bind (wpAny_rule ?_)
  refine wpAny_bind ?_
  show wpAny _ _ (updateSeq S (·.push .none) >>= fun _ => updateSeq S (·.pop)) _ _ _
  refine wpAny_bind (wpAny_updateSeq hS rfl ?_)
  have hS₂ := Heap.get?_update_self (Obj.mapSeq (·.push Value.none)) hS rfl
  refine wpAny_updateSeq (hz := by seq_fits) hS₂ rfl ?_
  have hS₃ := Heap.get?_update_self (Obj.mapSeq (·.pop)) hS₂ rfl
  refine wpAny_pure ⟨plainId_quiet PySem.F.plain_extend_loop _, key _ _ _ (fun b o hb e => ?_) (by rw [Heap.size_update, Heap.size_update]; exact Nat.le_refl _) hS₃⟩
  exact (Heap.get?_update_other _ _ (Ne.symm hb)).trans ((Heap.get?_update_other _ _ (Ne.symm hb)).trans e)
theorem collectZ {R : List Value → Shared → Prop} {n : Nat} (hh : A.handled = none) (D : ZipApart z TI TO i1 i2 l1 l2) (Z : ZipAt s.heap z TI TO i1 i2 l1 l2 xs ys) (hn : n ≤ sizeLine) (hx : xs.size = n) (hy : ys.size = n)
    (h : ∀ (h' : Heap) (tk : Nat) (as : List Addr), (∀ b o, b ∉ [z, TO, i1, i2] → s.heap.get? b = some o → h'.get? b = some o) → s.heap.objs.size ≤ h'.objs.size → as.length = n → MadeZ xs ys s.heap.objs.size h' as → R (as.map Value.ref) { s with heap := h', toks := tk }) :
    wpAny (model prog w) A (collect (.ref z)) R E s := by
  obtain ⟨hz, hTI, ⟨a, b, hTO⟩, h1, h2, hl1, hl2⟩ := id Z
  have lt : ∀ {c o}, s.heap.get? c = some o → s.heap.objs.size ≠ c := fun e => Nat.ne_of_gt (Heap.lt_size e)
  have d : ZFar z TI TO i1 i2 l1 l2 s.heap.objs.size := ⟨lt hz, lt hTI, lt hTO, (let ⟨_, e, _⟩ := h1; lt e), (let ⟨_, e, _⟩ := h2; lt e), (let ⟨_, e, _⟩ := hl1; lt e), (let ⟨_, e, _⟩ := hl2; lt e)⟩
  unfold collect
  refine wpAny_bind (wpAny_runValue (codeAny_builtin entry_proto_collect' ?_))
  rw [Around.under_plainId PySem.F.plain_proto_collect _]
  show wpAny _ A.in1 (newList [] >>= fun l => again (.builtin "list.__iadd__" ⟨[l, .ref z], []⟩)) _ _ s
  refine wpAny_bind (wpAny_newObj_type ?_)
  refine wpAny_pure ⟨plainId_quiet PySem.F.plain_list_iadd _, codeAny_builtin entry_list_iadd' ?_⟩
  rw [Around.under_plainId PySem.F.plain_list_iadd _]
  have hS₁ : (s.heap.push { cls := .type "list", data := .seq ([] : List Value).toArray }).get? s.heap.objs.size = some { cls := .type "list", data := .seq #[] } := Heap.get?_push_size _ rfl
  show wpAny _ A.in1 (Builtin.List.listExtendWith (.ref s.heap.objs.size) (.ref z) (.ref s.heap.objs.size)) _ _ _
  have pk : ∀ b o, s.heap.get? b = some o → (s.heap.push { cls := .type "list", data := .seq ([] : List Value).toArray }).get? b = some o := fun b o e => Heap.get?_push_of_some _ e
  have Z1 : ZipAt (s.heap.push { cls := .type "list", data := .seq ([] : List Value).toArray }) z TI TO i1 i2 l1 l2 xs ys := ⟨pk _ _ hz, pk _ _ hTI, ⟨a, b, pk _ _ hTO⟩, h1.at fun o => pk _ o, h2.at fun o => pk _ o, hl1.at fun o => pk _ o, hl2.at fun o => pk _ o⟩
  have key := extZ (prog := prog) (w := w) (A := A) (s := { s with heap := s.heap.push { cls := .type "list", data := .seq ([] : List Value).toArray } })
    (R := fun (q : Result) (s' : Shared) => ∃ (h' : Heap) (tk : Nat) (acc' : Array Value) (c' : Nat) (as : List Addr), q = .ok (.ret (.ref s.heap.objs.size)) ∧ s' = { s with heap := h', toks := tk } ∧
      (∀ b o, b ∉ [z, TO, i1, i2] → s.heap.get? b = some o → h'.get? b = some o) ∧ h'.get? s.heap.objs.size = some { cls := .type "list", dict := none, data := .seq acc' c', slots := #[] } ∧ as.length = n ∧ MadeZ xs ys s.heap.objs.size h' as ∧ acc'.toList = as.map Value.ref)
    hh D Z1 d hn hx hy (.ref s.heap.objs.size) 0 hS₁
    (fun h' tk acc' c' as hk hS' hl hG hacc => ⟨h', tk, acc', c', as, rfl, rfl, fun b o hb e => hk b o (fun hm => by
      simp only [List.mem_cons, List.not_mem_nil, or_false] at hm hb
      rcases hm with q | q | q | q | q
      · exact hb (.inl q)
      · exact hb (.inr (.inl q))
      · exact hb (.inr (.inr (.inl q)))
      · exact hb (.inr (.inr (.inr q)))
      · exact lt e q.symm) (pk b o e), hS', hl, ⟨hG.rise, fun a ha => Nat.le_of_succ_le (by have := hG.above a ha; rw [Heap.size_push] at this; exact this), hG.pairs⟩, hacc⟩)
  refine wpAny_mono key (fun fin s' x => ?_) fun e s' x => ?_
  · cases fin with
    | done f =>
      obtain ⟨h', tk, acc', c', as, e, rfl, hk, hS', hl, hG, hacc⟩ := x
      cases e
      show wpAny _ A (load s.heap.objs.size >>= _) _ _ _
      refine wpAny_bind (wpAny_load hS' ?_)
      refine wpAny_pure ?_
      show R acc'.toList _
      rw [hacc]
      exact h h' tk as hk (Nat.le_of_lt (Heap.lt_size hS')) hl hG
    | again c₁ =>
      refine ⟨x.1, codeAny_mono x.2 fun q s₂ y => ?_⟩
      obtain ⟨h', tk, acc', c', as, rfl, rfl, hk, hS', hl, hG, hacc⟩ := y
      show wpAny _ A (load s.heap.objs.size >>= _) _ _ _
      refine wpAny_bind (wpAny_load hS' ?_)
      refine wpAny_pure ?_
      show R acc'.toList _
      rw [hacc]
      exact h h' tk as hk (Nat.le_of_lt (Heap.lt_size hS')) hl hG
  · obtain ⟨_, _, _, _, _, e', _⟩ := x
    cases e'
/-- sorted(zip(..)) up to the sort of the pairs -/
theorem sortedZ {Q : Value → Shared → Prop} {n : Nat} (hh : A.handled = none) (D : ZipApart z TI TO i1 i2 l1 l2) (Z : ZipAt s.heap z TI TO i1 i2 l1 l2 xs ys) (hn : n ≤ sizeLine) (hx : xs.size = n) (hy : ys.size = n)
    (h : ∀ (h' : Heap) (tk : Nat) (as : List Addr), (∀ b o, b ∉ [z, TO, i1, i2] → s.heap.get? b = some o → h'.get? b = some o) → s.heap.objs.size ≤ h'.objs.size → as.length = n → MadeZ xs ys s.heap.objs.size h' as →
      wpAny (model prog w) A.in1 (call (.builtin "list.sort") [.ref h'.objs.size]) (fun _ s' => Q (.ref h'.objs.size) s') E { s with heap := h'.push { cls := .type "list", data := .seq (as.map Value.ref).toArray }, toks := tk }) :
    wpAny (model prog w) A (call (.builtin "sorted") [.ref z]) Q E s := by
  refine PySem.Calls.call_function_entry kind_sorted plain_sorted entry_sorted (args_sorted1 _) ?_
  unfold Builtin.«sorted»
  refine wpAny_bind (m := checkCount "sorted" 1 1 _) (wpAny_pure ?_)
  refine wpAny_bind (collectZ (A := A.in1) (n := n) hh D Z hn hx hy fun h' tk as hk hlt hl hG => ?_)
  refine wpAny_bind (wpAny_newList ?_ (by rw [List.length_map, hl]; exact hn))
  have hg := h h' tk as hk hlt hl hG
  refine wpAny_bind (wpAny_holding (wpAny_mono hg (fun _ s' x => ?_) fun _ _ e => e))
  exact wpAny_pure ⟨_, rfl, x⟩
end
end Tw
end
section
set_option Elab.async false
set_option linter.all false
set_option maxRecDepth 100000
set_option maxHeartbeats 1000000
/-! TwSortP: the sort of pairs that were just laid. -/
namespace Tw
open PySem PySem.Spec PyProof.Rows L2
open Evl (Ex)
open PySem.W (EachIs dataLe AllAlike Sortable)
mutual
theorem reads_there {h : Heap} : ∀ {d : PyData} {v : Value} {as : List Addr}, Reads h v d as → ∀ b ∈ as, ∃ o, h.get? b = some o
  | .none, _, _, r => by cases r; intro b hb; simp at hb
  | .bool _, _, _, r => by cases r; intro b hb; simp at hb
  | .int _, _, _, r => by cases r; intro b hb; simp at hb
  | .str _, _, _, r => by cases r; intro b hb; simp at hb
  | .list xs, _, _, r => by
    cases r with
    | list h1 h2 h3 h4 =>
      intro b hb
      rcases List.mem_cons.mp hb with e | hb
      · subst e; exact ⟨_, h1⟩
      · exact readsAll_there h4 b hb
  | .tuple xs, _, _, r => by
    cases r with
    | tuple h1 h2 h3 h4 => exact readsAll_there h4
  | .dict kvs, _, _, r => by
    cases r with
    | dict h1 h2 h3 h4 h5 =>
      intro b hb
      rcases List.mem_append.mp hb with hb | hb
      · rcases List.mem_cons.mp hb with e | hb
        · subst e; exact ⟨_, h1⟩
        · exact readsK_there h4 b hb
      · exact readsV_there h5 b hb
theorem readsAll_there {h : Heap} : ∀ {ds : List PyData} {vs : List Value} {as : List Addr}, ReadsAll h vs ds as → ∀ b ∈ as, ∃ o, h.get? b = some o
  | [], _, _, r => by cases r; intro b hb; simp at hb
  | d :: ds, _, _, r => by
    cases r with
    | cons h1 h2 =>
      intro b hb
      rcases List.mem_append.mp hb with hb | hb
      · exact reads_there h1 b hb
      · exact readsAll_there h2 b hb
theorem readsK_there {h : Heap} : ∀ {ds : List (PyData × PyData)} {vs : List Value} {as : List Addr}, ReadsAll h vs (ds.map (·.1)) as → ∀ b ∈ as, ∃ o, h.get? b = some o
  | [], _, _, r => by
    have r' : ReadsAll h _ [] _ := r
    cases r'
    intro b hb; simp at hb
  | (d, e) :: ds, _, _, r => by
    have r' : ReadsAll h _ (d :: ds.map (·.1)) _ := r
    cases r' with
    | cons h1 h2 =>
      intro b hb
      rcases List.mem_append.mp hb with hb | hb
      · exact reads_there h1 b hb
      · exact readsK_there h2 b hb
theorem readsV_there {h : Heap} : ∀ {ds : List (PyData × PyData)} {vs : List Value} {as : List Addr}, ReadsAll h vs (ds.map (·.2)) as → ∀ b ∈ as, ∃ o, h.get? b = some o
  | [], _, _, r => by
    have r' : ReadsAll h _ [] _ := r
    cases r'
    intro b hb; simp at hb
  | (d, e) :: ds, _, _, r => by
    have r' : ReadsAll h _ (e :: ds.map (·.2)) _ := r
    cases r' with
    | cons h1 h2 =>
      intro b hb
      rcases List.mem_append.mp hb with hb | hb
      · exact reads_there h1 b hb
      · exact readsV_there h2 b hb
end
/-- a pair that was laid: where, its items, what they read as -/
structure LP where
  a : Addr
  p : V
  q : V
  x : Dat
  y : Dat
def LP.dp (b : LP) : PyData := py b.x
def LP.dq (b : LP) : PyData := py b.y
def LP.enc (b : LP) : PyData := .tuple [b.dp, b.dq]
theorem eachMem {α β : Type} {R : α → β → Prop} {f : β → α} : ∀ {bs : List β}, (∀ b ∈ bs, R (f b) b) → EachIs R (bs.map f) bs
  | [], _ => .nil
  | b :: bs, h => .cons (h b List.mem_cons_self) (eachMem fun c hc => h c (List.mem_cons_of_mem _ hc))
theorem eachEq {α β : Type} {f : β → α} : ∀ {out : List α} {bs : List β}, EachIs (fun v b => v = f b) out bs → out = bs.map f
  | _, _, .nil => rfl
  | _, _, .cons h t => by rw [List.map_cons, h, eachEq t]
theorem sortPairs {X : Cx} {pins : List (Addr × Obj)} {σ : L2.St} {H : Hp} {s : Shared} (I : Inv X pins σ H s) (hu : X.A.units + 64 < cLine) {h' : Heap} {tk : Nat} (hk : ∀ b o, s.heap.get? b = some o → h'.get? b = some o) (hlt : s.heap.objs.size ≤ h'.objs.size) {bs : List LP} (nd : (bs.map (·.a)).Nodup)
    (hb : ∀ b ∈ bs, s.heap.objs.size ≤ b.a ∧ (∃ u v, h'.get? b.a = some { cls := .type "tuple", data := .seq #[u, v] } ∧ RelV b.p u ∧ RelV b.q v) ∧ Dp X.K H b.p b.dp ∧ Dp X.K H b.q b.dq) (hal : AllAlike (bs.map LP.enc)) (hL : bs.length ≤ 1000) (hd : ∀ b ∈ bs, b.enc.depth ≤ 32) {Q : VK}
    (q : ∀ H2 D, (∀ b o, H b = some o → H2 b = some o) → H D = none → H2 D = some (.lst ((bs.mergeSort (dataLe false LP.enc)).map fun b => V.ref b.a)) → (∀ b ∈ bs, H2 b.a = some (.tup [b.p, b.q])) → Q (.ref D) H2) :
    wpAny (model X.prog X.w) X.A.in1 (call (.builtin "list.sort") [.ref h'.objs.size]) (fun _ s' => EP X pins σ Q (.ref h'.objs.size) s') X.xe { s with heap := h'.push { cls := .type "list", data := .seq ((bs.map (·.a)).map Value.ref).toArray }, toks := tk } := by
  have hob : (h'.push { cls := .type "list", data := .seq ((bs.map (·.a)).map Value.ref).toArray }).get? h'.objs.size = some (seqObj "list" ((bs.map (·.a)).map Value.ref).toArray 0) := Heap.get?_push_size _ rfl
  have kb : ∀ b o, s.heap.get? b = some o → (h'.push { cls := .type "list", data := .seq ((bs.map (·.a)).map Value.ref).toArray }).get? b = some o := fun b o e => Heap.get?_push_of_some _ (hk b o e)
  have ne0 : ∀ b o, h'.get? b = some o → b ≠ h'.objs.size := fun b o e => Nat.ne_of_lt (Heap.lt_size e)
  generalize hh2 : h'.push { cls := .type "list", data := .seq ((bs.map (·.a)).map Value.ref).toArray } = h2 at hob kb ⊢
  have ka : ∀ b o, h'.get? b = some o → h2.get? b = some o := fun b o e => by rw [← hh2]; exact Heap.get?_push_of_some _ e
  have line := line63
  have hz : bs.length ≤ sizeLine := Evl.sz_of (by omega)
  have mm : (bs.map (·.a)).map Value.ref = bs.map fun b => Value.ref b.a := by rw [List.map_map]; rfl
  have rd : ∀ b ∈ bs, ∃ as, Reads h2 (Value.ref b.a) b.enc as ∧ h'.objs.size ∉ as := fun b hbm => by
    obtain ⟨_, ⟨u, v, hg, ru, rv⟩, d1, d2⟩ := hb b hbm
    obtain ⟨as1, r1⟩ := Dp.reads I b.dp b.p u d1 ru
    obtain ⟨as2, r2⟩ := Dp.reads I b.dq b.q v d2 rv
    have n1 : ∀ x ∈ as1, x ≠ h'.objs.size := fun x hx => by
      obtain ⟨o, e⟩ := reads_there r1 x hx
      exact ne0 _ _ (hk _ _ e)
    have n2 : ∀ x ∈ as2, x ≠ h'.objs.size := fun x hx => by
      obtain ⟨o, e⟩ := reads_there r2 x hx
      exact ne0 _ _ (hk _ _ e)
    refine ⟨as1 ++ (as2 ++ []), .tuple (ka _ _ hg) rfl rfl (.cons (PyProof.Rows.Reads.keeps kb r1) (.cons (PyProof.Rows.Reads.keeps kb r2) .nil)), fun hm => ?_⟩
    rcases List.mem_append.mp hm with hm | hm
    · exact n1 _ hm rfl
    · rw [List.append_nil] at hm
      exact n2 _ hm rfl
  refine PySem.W.list_sort_data (s := { s with heap := h2, toks := tk }) (enc := LP.enc) (bs := bs) (R := fun v b => v = Value.ref b.a) (n := 0) hob (by rw [mm]; exact eachMem fun b _ => rfl) (by rw [mm]; exact eachMem rd) hal (Sortable.tuples fun b => ⟨b.dp, [b.dq], rfl⟩) hz (fun b hbm => ?_) fun out ol oe => ?_
  · have := hd b hbm
    show X.A.units + 1 + 1 + b.enc.depth < cLine
    omega
  · have eo := eachEq oe
    have kF : ∀ b o, b ≠ h'.objs.size → h2.get? b = some o → (sortedHeap h2 h'.objs.size ((bs.map (·.a)).map Value.ref) out.toArray).get? b = some o := fun b o hb e => (PyProof.Rows.sortedHeap_old hb (Heap.lt_size e)).trans e
    obtain ⟨eF, heF⟩ := PyProof.Rows.sortedHeap_at (vs := (bs.map (·.a)).map Value.ref) (out := out.toArray) hob
    generalize sortedHeap h2 h'.objs.size ((bs.map (·.a)).map Value.ref) out.toArray = h3 at kF heF ⊢
    show EP X pins σ Q (.ref h'.objs.size) { s with heap := h3, toks := tk }
    have kS : ∀ b o, s.heap.get? b = some o → h3.get? b = some o := fun b o e => kF b o (ne0 _ _ (hk b o e)) (kb b o e)
    have I1 : Inv X pins σ H { s with heap := h3, toks := tk } := I.kept (t' := tk) kS
    have hn0 : H h'.objs.size = none := I.hok.fresh hlt
    have hlen : ((bs.mergeSort (dataLe false LP.enc)).map fun b => V.ref b.a).length ≤ sizeLine := by rw [List.length_map, List.length_mergeSort]; exact hz
    have rv : Vals ((bs.mergeSort (dataLe false LP.enc)).map fun b => V.ref b.a) out := by
      rw [eo]
      exact vals_maps (fun b : LP => V.ref b.a) (fun b => Value.ref b.a) _ fun _ _ => rfl
    generalize (bs.mergeSort (dataLe false LP.enc)).map (fun b => V.ref b.a) = res at hlen rv q
    have ok : ObjOk X.prog X.w (upd H h'.objs.size (.lst res)) h3 h'.objs.size (.lst res) := ⟨hlen, out, eF, rv, heF⟩
    have I2 : Inv X pins σ (upd H h'.objs.size (.lst res)) { s with heap := h3, toks := tk } := I1.take (h' := h3) (t' := tk) (fun b ob _ e => e) (I.fpOk hlt hn0) ok
    obtain ⟨H2, I3, g, qt⟩ := L2.DX.takeT (P := fun a vs => ∃ b ∈ bs, b.a = a ∧ vs = [b.p, b.q]) I (bs.map (·.a)) _ I2 nd fun a ha => by
      obtain ⟨b, hbm, rfl⟩ := List.mem_map.mp ha
      obtain ⟨hbl, ⟨u, v, hg, ru, rv'⟩, _, _⟩ := hb b hbm
      refine ⟨hbl, ?_, [b.p, b.q], ⟨b, hbm, rfl, rfl⟩, fun H3 => ⟨(by rw [sizeLine_eq]; show 2 ≤ 16777216; omega), [u, v], .cons ru (.cons rv' .nil), ⟨_, kF _ _ (ne0 _ _ hg) (ka _ _ hg), rfl, 0, rfl⟩⟩⟩
      rw [upd_ne (ne0 _ _ hg)]
      exact I.hok.fresh hbl
    have gr : ∀ b o, H b = some o → H2 b = some o := fun b o e => g b o (by rw [upd_ne (ne_of_none e hn0)]; exact e)
    refine ⟨.ref h'.objs.size, H2, I3, rfl, q H2 _ gr hn0 (g _ _ upd_same) fun b hbm => ?_⟩
    obtain ⟨vs, ⟨b', hb', ea, ev⟩, hH⟩ := qt b.a (List.mem_map.mpr ⟨b, hbm, rfl⟩)
    have : b' = b := by
      obtain ⟨i, hi⟩ := List.mem_iff_getElem?.mp hb'
      obtain ⟨j, hj⟩ := List.mem_iff_getElem?.mp hbm
      have h1 : (bs.map (·.a))[i]? = some b.a := by rw [List.getElem?_map, hi, ← ea]; rfl
      have h2 : (bs.map (·.a))[j]? = some b.a := by rw [List.getElem?_map, hj]; rfl
      have ij := (List.getElem?_inj (List.getElem?_eq_some_iff.mp h1).1 nd).mp (h1.trans h2.symm)
      subst ij
      rw [hi] at hj
      exact Option.some.inj hj
    subst this
    rw [ev] at hH
    exact hH

/-! ### sorted(zip(xs, ys)) -/
def encP (p : Dat × Dat) : PyData := .tuple [py p.1, py p.2]
def sortD (l : List (Dat × Dat)) : List (Dat × Dat) := l.mergeSort (dataLe false encP)
def mkLP : List Addr → List V → List V → List Dat → List Dat → List LP
  | a :: as, p :: ps, q :: qs, x :: xs, y :: ys => ⟨a, p, q, x, y⟩ :: mkLP as ps qs xs ys
  | _, _, _, _, _ => []
theorem mkLP_as : ∀ {n : Nat} {as : List Addr} {ps qs : List V} {xs ys : List Dat}, as.length = n → ps.length = n → qs.length = n → xs.length = n → ys.length = n → (mkLP as ps qs xs ys).map (·.a) = as ∧ (mkLP as ps qs xs ys).map (fun b => (b.x, b.y)) = xs.zip ys ∧ (mkLP as ps qs xs ys).length = n
  | 0, [], [], [], [], [], _, _, _, _, _ => ⟨rfl, rfl, rfl⟩
  | n + 1, a :: as, p :: ps, q :: qs, x :: xs, y :: ys, h1, h2, h3, h4, h5 => by
    obtain ⟨e1, e2, e3⟩ := mkLP_as (n := n) (as := as) (ps := ps) (qs := qs) (xs := xs) (ys := ys) (by simpa using h1) (by simpa using h2) (by simpa using h3) (by simpa using h4) (by simpa using h5)
    rw [mkLP]
    exact ⟨by rw [List.map_cons, e1], by rw [List.map_cons, e2]; rfl, by rw [List.length_cons, e3]⟩
  | 0, _ :: _, _, _, _, _, h, _, _, _, _ => by simp at h
  | 0, [], _ :: _, _, _, _, _, h, _, _, _ => by simp at h
  | 0, [], [], _ :: _, _, _, _, _, h, _, _ => by simp at h
  | 0, [], [], [], _ :: _, _, _, _, _, h, _ => by simp at h
  | 0, [], [], [], [], _ :: _, _, _, _, _, h => by simp at h
  | _ + 1, [], _, _, _, _, h, _, _, _, _ => by simp at h
  | _ + 1, _ :: _, [], _, _, _, _, h, _, _, _ => by simp at h
  | _ + 1, _ :: _, _ :: _, [], _, _, _, _, h, _, _ => by simp at h
  | _ + 1, _ :: _, _ :: _, _ :: _, [], _, _, _, _, h, _ => by simp at h
  | _ + 1, _ :: _, _ :: _, _ :: _, _ :: _, [], _, _, _, _, h => by simp at h
theorem mkLP_get : ∀ {as : List Addr} {ps qs : List V} {xs ys : List Dat} {j : Nat} {b : LP}, (mkLP as ps qs xs ys)[j]? = some b → as[j]? = some b.a ∧ ps[j]? = some b.p ∧ qs[j]? = some b.q ∧ xs[j]? = some b.x ∧ ys[j]? = some b.y
  | a :: as, p :: ps, q :: qs, x :: xs, y :: ys, 0, b, h => by
    rw [mkLP] at h
    simp at h
    subst h
    exact ⟨rfl, rfl, rfl, rfl, rfl⟩
  | a :: as, p :: ps, q :: qs, x :: xs, y :: ys, j + 1, b, h => by
    rw [mkLP, List.getElem?_cons_succ] at h
    simpa using mkLP_get h
  | [], _, _, _, _, _, _, h => by simp [mkLP] at h
  | _ :: _, [], _, _, _, _, _, h => by simp [mkLP] at h
  | _ :: _, _ :: _, [], _, _, _, _, h => by simp [mkLP] at h
  | _ :: _, _ :: _, _ :: _, [], _, _, _, h => by simp [mkLP] at h
  | _ :: _, _ :: _, _ :: _, _ :: _, [], _, _, h => by simp [mkLP] at h
theorem atall_lp {K : PySem.W.Frag} {H : Hp} : ∀ {bs : List LP}, (∀ b ∈ bs, At K H (.ref b.a) (.tup [b.x, b.y])) → AtAll K H (bs.map fun b => V.ref b.a) (bs.map fun b => .tup [b.x, b.y])
  | [], _ => .nil
  | b :: bs, h => .cons (h b List.mem_cons_self) (atall_lp fun c hc => h c (List.mem_cons_of_mem _ hc))
theorem sort_lp {bs : List LP} {l : List (Dat × Dat)} (e : bs.map (fun b => (b.x, b.y)) = l) : (bs.mergeSort (dataLe false LP.enc)).map (fun b => (b.x, b.y)) = sortD l := by
  rw [← e]
  unfold sortD
  exact List.map_mergeSort fun a _ b _ => rfl
/-- the reading of sorted(zip(..)) -/
def tSortZip (K : PySem.W.Frag) (t : L2.St → Hp → (Addr → Addr → List V → List V → Hp → Prop) → Prop) : TE := fun σ H Q => t σ H fun l1 l2 vs ws H1 => ∃ (xs ys : List Dat) (Hm : Hp), RX Hm H1 ∧ AtAll K Hm vs xs ∧ AtAll K Hm ws ys ∧ xs.length = ys.length ∧ xs.length ≤ 1000 ∧ flatAll xs = true ∧ flatAll ys = true ∧ AllAlike ((xs.zip ys).map encP) ∧ (∀ p ∈ xs.zip ys, (encP p).depth ≤ 32) ∧
  ∀ (H2 : Hp) (D : Addr) (bs : List LP), (∀ b o, H1 b = some o → H2 b = some o) → H1 D = none → H2 D = some (.lst (bs.map fun b => V.ref b.a)) → bs.map (fun b => (b.x, b.y)) = sortD (xs.zip ys) → (∀ b ∈ bs, H2 b.a = some (.tup [b.p, b.q]) ∧ At K Hm b.p b.x ∧ At K Hm b.q b.y) → Q (.ref D) H2
theorem flatAll_get {xs : List Dat} (h : flatAll xs = true) : ∀ {j : Nat} {x : Dat}, xs[j]? = some x → flat x = true := by
  induction xs with
  | nil => intro j x e; simp at e
  | cons a xs ih =>
    rw [flatAll, Bool.and_eq_true] at h
    intro j x e
    cases j with
    | zero => simp at e; subst e; exact h.1
    | succ j => exact ih h.2 (by simpa using e)
theorem boot_sortedB : bootBuiltins "sorted" = some (.builtin "sorted") := by decide +kernel
theorem pe_sortZip {X : Cx} {e : Expr} {t : L2.St → Hp → (Addr → Addr → List V → List V → Hp → Prop) → Prop} {p pos : Pos} (hc : X.calm = true) (hu : X.A.units + 64 < cLine) (hg : Gl X "sorted") (hm : X.mg "sorted" = none) (he : PZp X e t)
    (na : starEach [e] X.env = (false, eval e X.env) :: starEach [] X.env := by rfl) : PE X (.Call (.Name "sorted" p) [e] [] pos) (tSortZip X.K t) := by
  refine ⟨fun pins s σ H Q I h => ?_⟩
  refine Call_ (ld_blt I hg hm boot_sortedB (PyProof.Rows.callWith_builtin1 (args_cons (thn (he pins s σ H _ I h) fun x s' hx => args_nil ?_) na) na))
  obtain ⟨z, TI, TO, i1, i2, l1, l2, vs, ws, xs', ys', H1, s1, h', rfl, rfl, D, Z, r1, r2, I1, hk, hlt, hnew, xs, ys, Hm, rx, ax, ay, hl, hz, fx, fy, hal, hd, q⟩ := hx
  have lx := ax.length
  have ly := ay.length
  have lx' := r1.length
  have ly' := r2.length
  refine sortedZ (s := { s1 with heap := h' }) (n := xs.length) (I1.ok.hd hc) D Z (Evl.sz_of (by omega)) (by rw [List.size_toArray]; omega) (by rw [List.size_toArray]; omega) fun h'' tk as hk2 hlt2 hla hG => ?_
  obtain ⟨e1, e2, e3⟩ := mkLP_as (n := xs.length) (as := as) (ps := vs) (qs := ws) (xs := xs) (ys := ys) hla lx (by omega) rfl hl.symm
  have kk : ∀ b o, s1.heap.get? b = some o → h''.get? b = some o := fun b o e => hk2 b o (fun hm => absurd (Heap.lt_size e) (Nat.not_lt.mpr (hnew b hm))) (hk b o e)
  have nd : as.Nodup := List.Pairwise.imp (fun h => Nat.ne_of_lt h) hG.rise
  have nd2 : ((mkLP as vs ws xs ys).map (·.a)).Nodup := by rw [e1]; exact nd
  have facts : ∀ b ∈ mkLP as vs ws xs ys, At X.K Hm b.p b.x ∧ At X.K Hm b.q b.y ∧ s1.heap.objs.size ≤ b.a ∧ (∃ u v, h''.get? b.a = some { cls := .type "tuple", data := .seq #[u, v] } ∧ RelV b.p u ∧ RelV b.q v) ∧ Dp X.K H1 b.p b.dp ∧ Dp X.K H1 b.q b.dq := fun b hb => by
    obtain ⟨j, hj⟩ := List.mem_iff_getElem?.mp hb
    obtain ⟨g1, g2, g3, g4, g5⟩ := mkLP_get hj
    obtain ⟨v, f1, f2⟩ := ax.get g4
    rw [g2] at f1
    cases f1
    obtain ⟨v, f1, f3⟩ := ay.get g5
    rw [g3] at f1
    cases f1
    obtain ⟨u, k1, k2⟩ := r1.get g2
    obtain ⟨u2, k3, k4⟩ := r2.get g3
    obtain ⟨x0, y0, m1, m2, m3⟩ := hG.pairs j b.a g1
    rw [List.getElem?_toArray] at m1 m2
    rw [k1] at m1
    rw [k3] at m2
    cases m1
    cases m2
    have ha := hG.above b.a (List.mem_of_getElem? g1)
    exact ⟨f2, f3, Nat.le_trans (Nat.le_of_lt hlt) ha, ⟨u, u2, m3, k2, k4⟩, (At.mono rx f2).dp (flatAll_get fx g4), (At.mono rx f3).dp (flatAll_get fy g5)⟩
  have enc2 : (mkLP as vs ws xs ys).map LP.enc = (xs.zip ys).map encP := by
    rw [← e2, List.map_map]
    rfl
  have main := sortPairs I1 hu (h' := h'') (tk := tk) kk (Nat.le_trans (Nat.le_of_lt hlt) hlt2) nd2 (fun b hb => (facts b hb).2.2) (by rw [enc2]; exact hal) (by rw [e3]; exact hz) (fun b hb => by
    have : (b.x, b.y) ∈ xs.zip ys := by rw [← e2]; exact List.mem_map.mpr ⟨b, hb, rfl⟩
    exact hd _ this) (Q := Q) fun H2 D gr hn hD ht => q H2 D _ gr hn hD (sort_lp e2) fun b hb => by
      have hb' := (List.mergeSort_perm _ _).mem_iff.mp hb
      obtain ⟨f1, f2, _⟩ := facts b hb'
      exact ⟨ht b hb', f1, f2⟩
  rw [e1] at main
  exact main
section
variable {X : Cx} {c : Cz} {ρ : List Sl} {S S1 : List Ct} {a b : Expr} {pos p p2 pos2 : Pos} {xs ys : List Dat}
theorem de_sortZip (hu : X.A.units + 64 < cLine) (hms : X.mg "sorted" = none) (hmz : X.mg "zip" = none) (h : DA X c ρ S [a, b] [.d (.lst xs), .d (.lst ys)] S1) (hl : xs.length = ys.length) (hz : xs.length ≤ 1000) (fx : flatAll xs = true) (fy : flatAll ys = true) (hal : AllAlike ((xs.zip ys).map encP)) (hd : ∀ p ∈ xs.zip ys, (encP p).depth ≤ 32) (hc : X.calm = true := by rfl) (hg : Gl X "sorted" := by rfl) (hg2 : Gl X "zip" := by rfl)
    (hs : starEach [a, b] X.env = (false, eval a X.env) :: starEach [b] X.env := by rfl) (hpl : (backTo pos2 (starEach [b] X.env)).any (·.1) = false := by rfl)
    (na : starEach [.Call (.Name "zip" p2) [a, b] [] pos2] X.env = (false, eval (.Call (.Name "zip" p2) [a, b] [] pos2) X.env) :: starEach [] X.env := by rfl) :
    DE X c ρ S (.Call (.Name "sorted" p) [.Call (.Name "zip" p2) [a, b] [] pos2] [] pos) (.d (.lst ((sortD (xs.zip ys)).map fun p => .tup [p.1, p.2]))) S1 :=
  de_of (pe_sortZip hc hu hg hms (pzp hg2 hmz pa_tW hs hpl) na) fun σ H O hs' sl Q q => h σ H O hs' sl _ fun vs H1 O1 a1 a2 a3 => by
    obtain ⟨v, w, ev, h1, h2⟩ := a3.two
    subst ev
    have h1' : At X.K _ v (.lst xs) := h1
    have h2' : At X.K _ w (.lst ys) := h2
    cases h1' with
    | lst f1 f2 =>
      cases h2' with
      | lst g1 g2 =>
        refine ⟨_, _, _, _, rfl, vw_le.l f1, vw_le.l g1, xs, ys, _, vw_le, f2, g2, hl, hz, fx, fy, hal, hd, fun H2 D bs gr hn hD eb ht => ?_⟩
        have gr' : Ex H1 H2 := fun b o e => gr b o e
        have hs2 := a1.ex gr'
        have rx := RX.vw_ex (c := c) (O := O ++ O1) (S := S1) gr'
        refine (q.step a2).ex a1 gr' (.lst (xs := bs.map fun b => V.ref b.a) (.inl (.inl ?_)) ?_)
        · rw [vw_of (a1.ok.fr H1 D a1.ph hn).1 fun z => ?_]
          · exact hD
          · obtain ⟨u, e1, _⟩ := a1.liveSome z
            rw [hn] at e1; cases e1
        · rw [← eb, List.map_map]
          exact atall_lp fun b hb => by
            obtain ⟨t1, t2, t3⟩ := ht b hb
            exact .tup (.inl (.inl (hs2.st t1))) (.cons (At.mono rx t2) (.cons (At.mono rx t3) .nil))
end
end Tw
end
section
set_option Elab.async false
set_option linter.all false
set_option maxRecDepth 100000
set_option maxHeartbeats 1000000
namespace Tw
open PySem PySem.Spec PyProof.Rows L2
open Evl (Ex)
open PySem.W (EachIs dataLe AllAlike Sortable)
def endStep (p : Int × List Nat) (s : Nat) : Int × List Nat := (p.1 / 3, if p.1 % 3 = 0 ∧ s ∉ p.2 then p.2 ++ [s] else p.2)
def lawEnds (n : Int) (size : Nat) : Int × List Nat := (List.range size).foldl endStep (n / (size : Nat), [(n % (size : Nat)).toNat])
def wts (n : Int) (m : Nat) : List Int := (List.range m).map fun i => 1 + shr n 4 i % 4
def isum (l : List Int) : Int := l.sum
def chs (ws : List Int) : List Fr := ws.map fun w => nf w ws.sum
def leP (p q : Nat × Fr) : Bool := decide (p.1 ≤ q.1)
def lawMoves (ends : List Nat) (ch : List Fr) : List Move := ((ends.zip ch).mergeSort leP).map fun p => (p.2, p.1)
def lawStand (n : Int) (size : Nat) : Stand := (gainV n, lawMoves (lawEnds (n / 19 / 6) size).2 (chs (wts (lawEnds (n / 19 / 6) size).1 (lawEnds (n / 19 / 6) size).2.length)))
theorem nodup_le : ∀ (n : Nat) {l : List Nat}, l.Nodup → (∀ x ∈ l, x < n) → l.length ≤ n
  | 0, l, _, h => by
    cases l with
    | nil => exact Nat.le_refl _
    | cons a l => exact absurd (h a List.mem_cons_self) (Nat.not_lt_zero _)
  | n + 1, l, hn, h => by
    by_cases hm : n ∈ l
    · have h1 := nodup_le n (hn.sublist (List.erase_sublist (a := n))) fun x hx => by
        have h2 := (hn.mem_erase_iff).mp hx
        have := h x h2.2
        have := h2.1
        omega
      rw [List.length_erase_of_mem hm] at h1
      omega
    · have := nodup_le n hn fun x hx => by
        have h1 := h x hx
        have : x ≠ n := fun e => hm (by rw [← e]; exact hx)
        omega
      omega
structure EndsOk (size : Nat) (l : List Nat) : Prop where
  nd : l.Nodup
  lt : ∀ x ∈ l, x < size
  ne : l ≠ []
theorem EndsOk.step {size s : Nat} {p : Int × List Nat} (h : EndsOk size p.2) (hs : s < size) : EndsOk size (endStep p s).2 := by
  unfold endStep
  split
  · rename_i hc
    refine ⟨?_, fun x hx => ?_, by simp⟩
    · rw [List.nodup_append]
      refine ⟨h.nd, by simp, fun a ha b hb e => ?_⟩
      rw [List.mem_singleton] at hb
      subst hb
      subst e
      exact hc.2 ha
    · rcases List.mem_append.mp hx with hx | hx
      · exact h.lt x hx
      · rw [List.mem_singleton.mp hx]; exact hs
  · exact h
theorem EndsOk.fold {size : Nat} : ∀ {l : List Nat} {p : Int × List Nat}, (∀ s ∈ l, s < size) → EndsOk size p.2 → EndsOk size (l.foldl endStep p).2
  | [], _, _, h => h
  | s :: l, p, hl, h => by
    rw [List.foldl_cons]
    exact EndsOk.fold (fun x hx => hl x (List.mem_cons_of_mem _ hx)) (h.step (hl s List.mem_cons_self))
theorem ends0 {n : Int} {size : Nat} (h : 0 < size) : EndsOk size [(n % (size : Nat)).toNat] := ⟨by simp, fun x hx => by
  rw [List.mem_singleton.mp hx]
  have h1 := Int.emod_nonneg n (show ((size : Nat) : Int) ≠ 0 by omega)
  have h2 := Int.emod_lt_of_pos n (show (0 : Int) < ((size : Nat) : Int) by omega)
  omega, by simp⟩
theorem lawEnds_ok {n : Int} {size : Nat} (h : 0 < size) : EndsOk size (lawEnds n size).2 := EndsOk.fold (fun s hs => List.mem_range.mp hs) (ends0 h)
theorem EndsOk.len {size : Nat} {l : List Nat} (h : EndsOk size l) : l.length ≤ size := nodup_le size h.nd h.lt
theorem wts_len (n : Int) (m : Nat) : (wts n m).length = m := by unfold wts; simp
theorem wts_mem {n : Int} {m : Nat} {w : Int} (h : w ∈ wts n m) : 1 ≤ w ∧ w ≤ 4 := by
  unfold wts at h
  obtain ⟨i, _, rfl⟩ := List.mem_map.mp h
  have h1 : (0 : Int) ≤ shr n 4 i % 4 := Int.emod_nonneg _ (by decide)
  have h2 : shr n 4 i % 4 < 4 := Int.emod_lt_of_pos _ (by decide)
  omega
theorem sum_bd : ∀ {l : List Int}, (∀ w ∈ l, 1 ≤ w ∧ w ≤ 4) → (l.length : Int) ≤ l.sum ∧ l.sum ≤ 4 * (l.length : Int)
  | [], _ => by simp
  | w :: l, h => by
    obtain ⟨h1, h2⟩ := sum_bd (l := l) fun x hx => h x (List.mem_cons_of_mem _ hx)
    obtain ⟨h3, h4⟩ := h w List.mem_cons_self
    rw [List.sum_cons, List.length_cons]
    push_cast
    omega
theorem vs_div (W : Int) (hW : 0 < W) : ∀ l : List Int, vs (l.map fun w => nf w W) = (l.sum : Rat) / (W : Rat)
  | [] => by
    simp only [List.map_nil, vs, List.sum_nil]
    have := ratpos hW
    grind
  | w :: l => by
    have ih := vs_div W hW l
    have := ratpos hW
    simp only [List.map_cons, vs, List.sum_cons]
    rw [ih, val_nf hW]
    push_cast
    grind
theorem chs_sum {ws : List Int} (h : 0 < ws.sum) : vs (chs ws) = 1 := by
  unfold chs
  rw [vs_div _ h]
  have := ratpos h
  grind
theorem chs_ok {ws : List Int} (hw : ∀ w ∈ ws, 1 ≤ w ∧ w ≤ 4) (hl : ws.length ≤ 5) (hne : ws ≠ []) : 0 < ws.sum ∧ ∀ p ∈ chs ws, Low p ∧ 0 < p.1 ∧ Fb 5 p := by
  obtain ⟨h1, h2⟩ := sum_bd hw
  have hp : 0 < ws.length := List.length_pos_iff.mpr hne
  have hs : 0 < ws.sum := by omega
  refine ⟨hs, fun p hp => ?_⟩
  unfold chs at hp
  obtain ⟨w, hwm, rfl⟩ := List.mem_map.mp hp
  obtain ⟨w1, w2⟩ := hw w hwm
  have e : (2 : Nat) ^ 5 = 32 := by decide
  exact ⟨nf_low hs, nf_pos hs (by omega), Fb.nf hs (by omega) (by omega)⟩
theorem sumC_perm {l m : List Move} (h : l.Perm m) : sumC l = sumC m := by
  induction h with
  | nil => rfl
  | cons x _ ih => simp only [sumC]; rw [ih]
  | swap x y l => simp only [sumC]; grind
  | trans _ _ h1 h2 => exact h1.trans h2
theorem sumC_zip : ∀ {es : List Nat} {cs : List Fr}, es.length = cs.length → sumC ((es.zip cs).map fun p => (p.2, p.1)) = vs cs
  | [], [], _ => rfl
  | e :: es, c :: cs, h => by
    have ih := sumC_zip (es := es) (cs := cs) (by simpa using h)
    simp only [List.zip_cons_cons, List.map_cons, sumC, vs]
    rw [ih]
  | [], _ :: _, h => by simp at h
  | _ :: _, [], h => by simp at h
theorem low_one {p : Fr} (h : Low p) (e : val p = 1) : p = (1, 1) := by
  obtain ⟨a, b⟩ := p
  have hb : 1 ≤ b := h.1
  have hp := ratpos (show 0 < b by omega)
  have e1 : (a : Rat) / (b : Rat) = 1 := e
  have e2 : (a : Rat) = (b : Rat) := by grind
  have e3 : a = b := by exact_mod_cast e2
  subst e3
  have hg : cg a a = 1 := h.2
  unfold cg at hg
  rw [Int.gcd_self] at hg
  have : a = 1 := by omega
  rw [this]
theorem sumTo_low : ∀ {ms : List Move} {t : Fr}, (∀ m ∈ ms, 1 ≤ m.1.2) → Low t → Low (ms.foldl (fun t m => fAdd t m.1) t)
  | [], _, _, h => h
  | m :: ms, t, hm, h => by
    rw [List.foldl_cons]
    exact sumTo_low (fun x hx => hm x (List.mem_cons_of_mem _ hx)) (nf_low (mul_pos' h.1 (hm m List.mem_cons_self)))
theorem leP_tr (a b c : Nat × Fr) (h1 : leP a b = true) (h2 : leP b c = true) : leP a c = true := by
  unfold leP at *
  rw [decide_eq_true_eq] at *
  omega
theorem leP_tot (a b : Nat × Fr) : (leP a b || leP b a) = true := by
  unfold leP
  rw [Bool.or_eq_true, decide_eq_true_eq, decide_eq_true_eq]
  omega
theorem zip_fst : ∀ {es : List Nat} {cs : List Fr}, es.length = cs.length → (es.zip cs).map (·.1) = es
  | [], [], _ => rfl
  | e :: es, c :: cs, h => by
    rw [List.zip_cons_cons, List.map_cons, zip_fst (by simpa using h)]
  | [], _ :: _, h => by simp at h
  | _ :: _, [], h => by simp at h
theorem lawMoves_ok {size : Nat} {es : List Nat} {ws : List Int} (he : EndsOk size es) (h5 : size ≤ 5) (hl : es.length = ws.length) (hw : ∀ w ∈ ws, 1 ≤ w ∧ w ≤ 4) : MovesOk size (lawMoves es (chs ws)) := by
  have hle := he.len
  have hne : ws ≠ [] := fun e => he.ne (List.eq_nil_of_length_eq_zero (by rw [hl, e]; rfl))
  obtain ⟨s0, ok⟩ := chs_ok hw (by omega) hne
  have lc : es.length = (chs ws).length := by unfold chs; rw [List.length_map]; exact hl
  have perm := List.mergeSort_perm (es.zip (chs ws)) leP
  have mem : ∀ m ∈ lawMoves es (chs ws), m.1 ∈ chs ws ∧ m.2 ∈ es := fun m hm => by
    unfold lawMoves at hm
    obtain ⟨p, hp, rfl⟩ := List.mem_map.mp hm
    have := perm.mem_iff.mp hp
    obtain ⟨a, b⟩ := List.of_mem_zip (show (p.1, p.2) ∈ es.zip (chs ws) from this)
    exact ⟨b, a⟩
  refine ⟨fun m hm => ok _ (mem m hm).1, ?_, fun m hm => he.lt _ (mem m hm).2, ?_, ?_⟩
  · unfold lawMoves
    rw [List.map_map]
    have e1 : ((fun m : Move => m.2) ∘ fun p : Nat × Fr => (p.2, p.1)) = fun p : Nat × Fr => p.1 := rfl
    rw [e1, List.pairwise_map]
    have sd := List.pairwise_mergeSort leP_tr leP_tot (es.zip (chs ws))
    have nd : ((es.zip (chs ws)).mergeSort leP).Pairwise fun a b => a.1 ≠ b.1 := by
      have n1 : ((es.zip (chs ws)).map (·.1)).Nodup := by rw [zip_fst lc]; exact he.nd
      have n2 : (((es.zip (chs ws)).mergeSort leP).map (·.1)).Nodup := (perm.map _).nodup_iff.mpr n1
      unfold List.Nodup at n2
      rw [List.pairwise_map] at n2
      exact n2
    exact (sd.and nd).imp fun {a b} h => by
      have h1 : a.1 ≤ b.1 := of_decide_eq_true h.1
      have := h.2
      omega
  · have e1 : sumC (lawMoves es (chs ws)) = 1 := by
      unfold lawMoves
      rw [sumC_perm (perm.map _), sumC_zip lc, chs_sum s0]
    have pb : ∀ m ∈ lawMoves es (chs ws), 1 ≤ m.1.2 := fun m hm => (ok _ (mem m hm).1).2.2.pos
    have e2 := sumTo_val (ms := lawMoves es (chs ws)) (t := (0, 1)) pb (by decide)
    rw [val_zero, e1] at e2
    have lw := sumTo_low (ms := lawMoves es (chs ws)) (t := (0, 1)) pb ⟨by decide, by decide⟩
    have e3 : (0 : Rat) + 1 = 1 := by grind
    rw [e3] at e2
    exact low_one lw e2
  · unfold lawMoves
    rw [List.length_map, List.length_mergeSort, List.length_zip]
    omega
theorem gainV_ok (n : Int) : Low (gainV n) ∧ Fb 4 (gainV n) := by
  have a1 : (0 : Int) ≤ n % 19 := Int.emod_nonneg _ (by decide)
  have a2 : n % 19 < 19 := Int.emod_lt_of_pos _ (by decide)
  have t1 : (0 : Int) ≤ n / 19 % 6 := Int.emod_nonneg _ (by decide)
  have t2 : n / 19 % 6 < 6 := Int.emod_lt_of_pos _ (by decide)
  have e : (2 : Nat) ^ 4 = 16 := by decide
  exact ⟨nf_low (by omega), Fb.nf (by omega) (by omega) (by omega)⟩
theorem lawStand_ok {n : Int} {size : Nat} (h0 : 0 < size) (h5 : size ≤ 5) : StandOk size (lawStand n size) := by
  obtain ⟨g1, g2⟩ := gainV_ok n
  exact ⟨g1, g2, lawMoves_ok (lawEnds_ok h0) h5 (wts_len _ _).symm fun w hw => wts_mem hw⟩
theorem partV_ok {n : Int} : PartOk (partV n) := by
  have t1 : (0 : Int) ≤ n % 8 := Int.emod_nonneg _ (by decide)
  have t2 : n % 8 < 8 := Int.emod_lt_of_pos _ (by decide)
  have a1 : (0 : Int) ≤ n / 8 % (1 + n % 8) := Int.emod_nonneg _ (by omega)
  have a2 : n / 8 % (1 + n % 8) < 1 + n % 8 := Int.emod_lt_of_pos _ (by omega)
  have e : (2 : Nat) ^ 4 = 16 := by decide
  have hb : 0 < 2 + n % 8 := by omega
  refine ⟨nf_low hb, Fb.nf hb (by omega) (by omega), nf_pos hb (by omega), ?_⟩
  unfold partV
  obtain ⟨g, u, v, h1, h2, h3, h4, h5, h6, h7⟩ := cg_ex (1 + n / 8 % (1 + n % 8)) (2 + n % 8) hb
  rw [h6]
  show u < v
  have : g * u < g * v := by omega
  exact Int.lt_of_mul_lt_mul_left this (by omega)
/-! ### the sort as the model has it -/
def fP (p : Nat × Fr) : Dat × Dat := (.int (p.1 : Nat), frD p.2)
theorem le_fP {l : List (Nat × Fr)} (nd : (l.map (·.1)).Nodup) : ∀ p ∈ l, ∀ q ∈ l, leP p q = dataLe false encP (fP p) (fP q) := fun p hp q hq => by
  have e0 : dataLe false encP (fP p) (fP q) = !PySem.W.dataLt (encP (fP q)) (encP (fP p)) := rfl
  rw [e0]
  show leP p q = !PySem.W.dataLt (.tuple [.int (q.1 : Nat), py (frD q.2)]) (.tuple [.int (p.1 : Nat), py (frD p.2)])
  have al : PySem.W.alike (py (frD q.2)) (py (frD p.2)) = true := by
    show PySem.W.alike (.tuple [.int q.2.1, .int q.2.2]) (.tuple [.int p.2.1, .int p.2.2]) = true
    simp [PySem.W.alike, PySem.W.alikeAll]
  rw [PySem.W.dataLt_pair (by simp [PySem.W.alike]) al]
  have ei : PyData.eqv (.int ((q.1 : Nat) : Int)) (.int ((p.1 : Nat) : Int)) = decide (q.1 = p.1) := by
    have : PyData.eqv (.int ((q.1 : Nat) : Int)) (.int ((p.1 : Nat) : Int)) = (((q.1 : Nat) : Int) == ((p.1 : Nat) : Int)) := by simp [PyData.eqv]
    rw [this]
    by_cases h : q.1 = p.1
    · simp [h]
    · have h2 : ¬ ((q.1 : Nat) : Int) = ((p.1 : Nat) : Int) := by omega
      simp [h, h2]
  rw [ei]
  by_cases h : q.1 = p.1
  · have epq : q = p := by
      obtain ⟨i, hi⟩ := List.mem_iff_getElem?.mp hp
      obtain ⟨j, hj⟩ := List.mem_iff_getElem?.mp hq
      have h1 : (l.map (·.1))[i]? = some p.1 := by rw [List.getElem?_map, hi]; rfl
      have h2 : (l.map (·.1))[j]? = some p.1 := by rw [List.getElem?_map, hj, ← h]; rfl
      have ij := (List.getElem?_inj (List.getElem?_eq_some_iff.mp h1).1 nd).mp (h1.trans h2.symm)
      subst ij
      rw [hi] at hj
      exact (Option.some.inj hj).symm
    subst epq
    rw [decide_eq_true rfl, if_pos rfl, eqv_fr, decide_eq_true rfl, if_pos rfl]
    unfold leP
    simp
  · rw [decide_eq_false h, if_neg Bool.false_ne_true, PySem.W.dataLt_int, PySem.W.not_lt_int]
    unfold leP
    rw [decide_eq_decide]
    omega
theorem zip_fP : ∀ (es : List Nat) (cs : List Fr), ((casts es).map Dat.int).zip (cs.map frD) = (es.zip cs).map fP
  | [], _ => rfl
  | _ :: _, [] => rfl
  | e :: es, c :: cs => by
    have := zip_fP es cs
    unfold casts at this ⊢
    simp only [List.map_cons, List.zip_cons_cons]
    rw [this]
    rfl
theorem sortD_fP {es : List Nat} {cs : List Fr} (hl : es.length = cs.length) (nd : es.Nodup) : sortD (((casts es).map Dat.int).zip (cs.map frD)) = ((es.zip cs).mergeSort leP).map fP := by
  rw [zip_fP]
  unfold sortD
  exact (List.map_mergeSort (le_fP (by rw [zip_fst hl]; exact nd))).symm
end Tw
end
section
set_option Elab.async false
set_option linter.all false
set_option maxRecDepth 100000
set_option maxHeartbeats 1000000
namespace Tw
open PySem PySem.Spec PyProof.Rows L2
open Evl (Ex)
open PySem.W (EachIs dataLe AllAlike Sortable)
theorem flatAll_map {α : Type} {f : α → Dat} (h : ∀ a, flat (f a) = true) : ∀ l : List α, flatAll (l.map f) = true
  | [] => rfl
  | a :: l => by
    rw [List.map_cons, flatAll, h a, flatAll_map h l]
    rfl
def lawSize (sc : List Int) (st most : Nat) : Nat := 1 + (cellV sc st % (most : Nat)).toNat
def lawBench (sc : List Int) (st most : Nat) : Bench := (List.range (lawSize sc st most)).map fun k => lawStand (cellV sc (st + 1 + k)) (lawSize sc st most)
theorem lawSize_ok (sc : List Int) (st : Nat) {most : Nat} (h : 1 ≤ most) : 1 ≤ lawSize sc st most ∧ lawSize sc st most ≤ most := by
  unfold lawSize
  have h1 := Int.emod_nonneg (cellV sc st) (show ((most : Nat) : Int) ≠ 0 by omega)
  have h2 := Int.emod_lt_of_pos (cellV sc st) (show (0 : Int) < ((most : Nat) : Int) by omega)
  omega
theorem lawBench_len (sc : List Int) (st most : Nat) : (lawBench sc st most).length = lawSize sc st most := by unfold lawBench; simp
theorem lawBench_ok (sc : List Int) (st : Nat) {most : Nat} (h : 1 ≤ most) (h5 : most ≤ 5) : BenchOk (lawBench sc st most) := by
  obtain ⟨h1, h2⟩ := lawSize_ok sc st h
  refine ⟨by rw [lawBench_len]; exact h1, by rw [lawBench_len]; omega, fun s hs => ?_⟩
  rw [lawBench_len]
  unfold lawBench at hs
  obtain ⟨k, _, rfl⟩ := List.mem_map.mp hs
  exact lawStand_ok (by omega) (by omega)
def lawBs (sc : List Int) : Nat → List Nat → List Bench
  | _, [] => []
  | st, m :: l => lawBench sc st m :: lawBs sc (st + m + 1) l
def lawEnd : Nat → List Nat → Nat
  | st, [] => st
  | st, m :: l => lawEnd (st + m + 1) l
theorem lawBs_snoc (sc : List Int) : ∀ (l : List Nat) (st m : Nat), lawBs sc st (l ++ [m]) = lawBs sc st l ++ [lawBench sc (lawEnd st l) m]
  | [], st, m => rfl
  | x :: l, st, m => by
    show lawBench sc st x :: lawBs sc (st + x + 1) (l ++ [m]) = _
    rw [lawBs_snoc sc l]
    rfl
theorem lawEnd_snoc : ∀ (l : List Nat) (st m : Nat), lawEnd st (l ++ [m]) = lawEnd st l + m + 1
  | [], st, m => rfl
  | x :: l, st, m => lawEnd_snoc l (st + x + 1) m
theorem lawBs_len (sc : List Int) : ∀ (l : List Nat) (st : Nat), (lawBs sc st l).length = l.length
  | [], _ => rfl
  | x :: l, st => by rw [lawBs, List.length_cons, lawBs_len sc l, List.length_cons]
def lawBook (sc : List Int) (st : Nat) (szs : List Nat) : Book := (partV (cellV sc (lawEnd st szs)), lawBs sc st szs)
theorem lawBs_ok (sc : List Int) : ∀ (l : List Nat) (st : Nat), (∀ m ∈ l, 1 ≤ m ∧ m ≤ 5) → ∀ b ∈ lawBs sc st l, BenchOk b
  | [], _, _, b, hb => by simp [lawBs] at hb
  | m :: l, st, h, b, hb => by
    rw [lawBs] at hb
    rcases List.mem_cons.mp hb with e | hb
    · subst e
      obtain ⟨h1, h2⟩ := h m List.mem_cons_self
      exact lawBench_ok sc st h1 h2
    · exact lawBs_ok sc l _ (fun x hx => h x (List.mem_cons_of_mem _ hx)) b hb
theorem lawBs_sizes (sc : List Int) : ∀ (l : List Nat) (st : Nat) {a b : Nat}, a ≤ b → (∀ m ∈ l, 1 ≤ m) → ((lawBs sc st l).map (·.length)).foldl (· * ·) a ≤ l.foldl (· * ·) b
  | [], _, _, _, h, _ => h
  | m :: l, st, a, b, h, hm => by
    rw [lawBs, List.map_cons, List.foldl_cons, List.foldl_cons, lawBench_len]
    exact lawBs_sizes sc l _ (Nat.mul_le_mul h (lawSize_ok sc st (hm m List.mem_cons_self)).2) fun x hx => hm x (List.mem_cons_of_mem _ hx)
theorem menu_ok : ∀ l ∈ menu, (∀ m ∈ l, 1 ≤ m ∧ m ≤ 5) ∧ 1 ≤ l.length ∧ l.length ≤ 3 ∧ l.foldl (· * ·) 1 ≤ 18 := by decide
theorem lawBook_ok {sc : List Int} {st : Nat} {szs : List Nat} (h : szs ∈ menu) : BookOk (lawBook sc st szs) ∧ many (lawBook sc st szs) ≤ 18 := by
  obtain ⟨h1, h2, h3, h4⟩ := menu_ok szs h
  have hl := lawBs_len sc szs st
  have hm : many (lawBook sc st szs) ≤ 18 := by
    unfold many sizes
    exact Nat.le_trans (lawBs_sizes sc szs st (Nat.le_refl 1) fun m hm => (h1 m hm).1) h4
  exact ⟨⟨partV_ok, by show 1 ≤ (lawBs sc st szs).length; omega, by show (lawBs sc st szs).length ≤ 3; omega, lawBs_ok sc szs st h1, by omega⟩, hm⟩
section
variable {P : Program} {w : World} {K : PySem.W.Frag} {mg : Str → Option Value} {base : Heap}
def R_stand (n : Int) (ds : List Dat) (r : Dat) (n' : Int) : Prop := ∃ size : Nat, 0 < size ∧ size ≤ 5 ∧ ds = [.int (size : Nat)] ∧ r = standD (lawStand n size) ∧ n' = shr (lawEnds (n / 19 / 6) size).1 4 (lawEnds (n / 19 / 6) size).2.length
theorem ok_law_stand (F : FT K mg "_law_stand" s__law_stand P__law_stand) (z : Zb mg) (c__law_take : Cal P w K mg base 1 "_law_take" (spM K R_take)) (c__law_gain : Cal P w K mg base 3 "_law_gain" (spM K R_gain)) (c__law_frac : Cal P w K mg base 2 "_law_frac" (spP K R_nf)) : Cal P w K mg base 4 "_law_stand" (spM K R_stand) := by
  obtain ⟨f, fd, F, gm, hb⟩ := F.ex
  refine cal_ofM F gm hb sc__law_stand (by decide) (fun n ds r n' ⟨_, _, _, h, _⟩ => by rw [h]; rfl) fun cdv A outer s H E hr c n n' ds r hR => ?_
  obtain ⟨size, s1, s5, rfl, rfl, rfl⟩ := hR
  have hu := hr.units
  refine dss_cons (ds_set 2 (de_callM (i := 0) c__law_gain (hr.mono (by decide)) (da_cons (de_var 0 rfl) da_nil) (by walk_at "dats") rfl ⟨rfl, rfl, rfl⟩) ?_ sc__law_stand.nd)
  have ls : lawStand n size = (gainV n, lawMoves (lawEnds (n / 19 / 6) size).2 (chs (wts (lawEnds (n / 19 / 6) size).1 (lawEnds (n / 19 / 6) size).2.length))) := rfl
  rw [ls]
  generalize gainV n = gv
  generalize n / 19 / 6 = n1
  have e1 : n1 % ((size : Nat) : Int) = (((n1 % ((size : Nat) : Int)).toNat : Nat) : Int) := by
    have := Int.emod_nonneg n1 (show ((size : Nat) : Int) ≠ 0 by omega)
    omega
  have lo := lawEnds_ok (n := n1) s1
  have e0 := ends0 (n := n1) s1
  have le : lawEnds n1 size = (List.range size).foldl endStep (n1 / (size : Nat), [(n1 % (size : Nat)).toNat]) := rfl
  refine dss_cons (ds_set 3 (de_lstO (da_cons (de_callM (i := 0) (n' := n1 / (size : Nat)) c__law_take (hr.mono (by decide)) (da_cons (de_var 0 rfl) (da_cons (de_var 1 rfl) da_nil)) (by walk_at "dats") rfl ⟨size, s1, by omega, rfl, rfl, rfl⟩) da_nil) (by walk_at "dats") (by walk_at "le")) ?_ sc__law_stand.nd)
  generalize lawEnds n1 size = fin at lo le
  refine dss_cut (fun ρ S => ∃ x, ρ = [.o 0, .d (.int (size : Nat)), .d (frD gv), .o 1, x, .un, .un, .un, .un] ∧ S = [.l [.int fin.1], .l ((casts fin.2).map .int)]) (ds_for (T := .one 4) (di_range1 z.range (de_var 1 rfl) (by omega) (by omega)) (pg_one 4 sc__law_stand.nd) (fun i ρ S => ∃ p : Int × List Nat, ρ = [.o 0, .d (.int (size : Nat)), .d (frD gv), .o 1, .un, .un, .un, .un, .un] ∧ S = [.l [.int p.1], .l ((casts p.2).map .int)] ∧ p = (List.range i).foldl endStep (n1 / (size : Nat), [(n1 % (size : Nat)).toNat]) ∧ EndsOk size p.2) ?_ ?_ ?_ ?_) ?_
  · rintro i ρ S ⟨_, rfl, rfl, _⟩; exact Nat.le_refl _
  · refine ⟨_, [.l [.int (n1 / (size : Nat))], .l ((casts [(n1 % (size : Nat)).toNat]).map .int)], ⟨by walk_at "lel", [], ?_⟩, (n1 / (size : Nat), [(n1 % (size : Nat)).toNat]), rfl, rfl, rfl, e0⟩
    show [Ct.l [.int (n1 / (size : Nat))], Ct.l [.int (n1 % ((size : Nat) : Int))]] = _
    rw [e1]
    rfl
  · rintro i d ρ S hd ⟨p, rfl, rfl, hp, hok⟩
    obtain ⟨hi, ed⟩ := of_nums hd
    have hi' : i < size := by omega
    have e2 : (0 : Int) + ((i : Nat) : Int) = ((i : Nat) : Int) := by omega
    rw [e2] at ed
    subst ed
    have hle := hok.len
    have hm : decide (((i : Nat) : Int) ∈ casts p.2) = decide (i ∈ p.2) := by
      rw [decide_eq_decide]
      exact mem_nats
    have stp : (List.range (i + 1)).foldl endStep (n1 / (size : Nat), [(n1 % (size : Nat)).toNat]) = endStep p i := by
      rw [List.range_succ, List.foldl_append, ← hp]
      rfl
    have hok2 := hok.step hi'
    refine ⟨_, .one, ?_⟩
    refine dss_cons (ds_if (dw_dt (dw_andS (dt_cmp (de_callM (i := 0) c__law_take (hr.mono (by decide)) (da_cons (de_var 0 rfl) (da_cons de_int da_nil)) (by walk_at "dats") rfl ⟨3, by decide, by decide, rfl, rfl, rfl⟩) de_int od_eq) fun hk => (dw_and1 (dt_cmp (de_var 4 rfl) (de_var 3 rfl) (od_notInO (k := 1) rfl))))) (fun hk => ?_) fun hk => ?_)
    · rw [hm, Bool.and_eq_true, decide_eq_true_eq, Bool.not_eq_true', decide_eq_false_iff_not] at hk
      have es : endStep p i = (p.1 / 3, p.2 ++ [i]) := by
        unfold endStep
        rw [if_pos ⟨hk.1, hk.2⟩]
      refine dss_cons (ds_expr (de_append (k := 1) (de_var 3 rfl) (de_var 4 rfl) ⟨_, rfl⟩ rfl (by rw [List.length_map, casts_len]; omega)) ?_)
      refine dss_nil (dss_nil ⟨_, [.l [.int (endStep p i).1], .l ((casts (endStep p i).2).map .int)], ⟨by walk_at "lel", [], ?_⟩, endStep p i, rfl, rfl, stp.symm, hok2⟩)
      rw [es, casts_snoc, List.map_append]
      rfl
    · have es : endStep p i = (p.1 / 3, p.2) := by
        unfold endStep
        rw [if_neg]
        rintro ⟨h1, h2⟩
        rw [hm] at hk
        have h1' : p.1 % ((3 : Nat) : Int) = 0 := h1
        rw [decide_eq_true h1', decide_eq_false h2] at hk
        exact tf hk
      refine dss_nil (dss_nil ⟨_, [.l [.int (endStep p i).1], .l ((casts (endStep p i).2).map .int)], ⟨by walk_at "lel", [], ?_⟩, endStep p i, rfl, rfl, stp.symm, hok2⟩)
      rw [es]
      rfl
  · rintro ρ S ⟨p, rfl, rfl, hp, hok⟩
    rw [nums_len, show (((size : Nat) : Int)).toNat = size by omega, ← le] at hp
    subst hp
    exact ⟨.un, rfl, rfl⟩
  · rintro ρ S ⟨x, rfl, rfl⟩
    obtain ⟨n3, es⟩ := fin
    have lo' : EndsOk size es := lo
    have hle := lo'.len
    show DSs _ _ [.o 0, .d (.int (size : Nat)), .d (frD gv), .o 1, x, .un, .un, .un, .un] [.l [.int n3], .l ((casts es).map .int)] _ (RetM (standD (gv, lawMoves es (chs (wts n3 es.length)))) (shr n3 4 es.length))
    refine dss_free 3 1 rfl rfl rfl ?_
    have wl := wts_len n3 es.length
    have wm : ∀ x ∈ wts n3 es.length, 1 ≤ x ∧ x ≤ 4 := fun x hx => wts_mem hx
    refine dss_cons (ds_set 5 (de_lc ((wts n3 es.length).map .int) (fun i => [.l [.int (shr n3 4 i)], .gone]) [("_law_stand_here", 4)] (.one 4) (di_list (ds := (casts es).map .int) (de_var 3 rfl)) sc__law_stand.nd (blkOk_by (N := N__law_stand) (sc := defScope s__law_stand) (by decide +kernel)) (fun _ _ _ _ _ => pg_one 4 sc__law_stand.nd)
      ⟨by rw [List.length_map, casts_len]; omega, by rw [List.length_map, List.length_map, casts_len, wl], by simp [Tg.own], fun _ => Nat.le_refl _, fun i d zz hd hz => ?_⟩) ?_ sc__law_stand.nd)
    · obtain ⟨v, hv, rfl⟩ := of_map hz
      have hi : i < es.length := by have := (List.getElem?_eq_some_iff.mp hv).1; omega
      unfold wts at hv
      rw [List.getElem?_map, List.getElem?_range hi] at hv
      cases hv
      refine ⟨_, .one, fun c => fun s0 H0 C cl fp => ?_⟩
      rw [shr_succ]
      exact de_bin de_int (de_callM (i := 0) c__law_take (hr.mono (by decide)) (da_cons (de_var 0 rfl) (da_cons de_int da_nil)) (by walk_at "dats") rfl ⟨4, by decide, by decide, rfl, rfl, rfl⟩) od_add
    rw [show ((casts es).map Dat.int).length = es.length by rw [List.length_map, casts_len]]
    generalize hws : wts n3 es.length = ws at wl wm
    have hne : ws ≠ [] := fun e => lo'.ne (List.eq_nil_of_length_eq_zero (by rw [← wl, e]; rfl))
    obtain ⟨sp, ok⟩ := chs_ok wm (by omega) hne
    obtain ⟨b1, b2⟩ := sum_bd wm
    have lc : (chs ws).length = ws.length := by unfold chs; rw [List.length_map]
    refine dss_cons (ds_setLc 6 ((chs ws).map frD) (fun _ => [.l [.int (shr n3 4 es.length)], .gone]) [("_law_weight", 7)] (.one 7) (sw_true rfl rfl rfl (by decide +kernel)) (di_list (ds := ws.map .int) (de_var 5 rfl)) sc__law_stand.nd (blkOk_by (N := N__law_stand) (sc := defScope s__law_stand) (by decide +kernel)) (fun _ _ _ _ _ => pg_one 7 sc__law_stand.nd)
      ⟨by rw [List.length_map]; omega, by rw [List.length_map, List.length_map, lc], by simp [Tg.own], fun _ => Nat.le_refl _, fun i d zz hd hz => ?_⟩ ?_)
    · obtain ⟨v, hv, rfl⟩ := of_map hd
      obtain ⟨q, hq, rfl⟩ := of_map hz
      unfold chs at hq
      rw [List.getElem?_map, hv] at hq
      cases hq
      have h9 : (2 : Nat) ^ 64 ≤ 2 ^ 9000 := pow_mono (by decide)
      have e64 : (2 : Nat) ^ 64 = 18446744073709551616 := by decide
      generalize (2 : Nat) ^ 9000 = big at h9
      refine ⟨_, .one, fun c => fun s0 H0 C cl fp => ?_⟩
      exact de_call c__law_frac (hr.mono (by decide)) (da_cons (de_var 7 rfl) (da_cons (de_sum (ns := ws) z.sum (da_cons (de_var 5 rfl) da_nil)) da_nil)) (by walk_at "dats") ⟨v, ws.sum, sp, (by
        have e2 : ws.sum.natAbs < 2 ^ 64 := by omega
        exact Nat.lt_of_lt_of_le e2 (pow_mono (by decide))), rfl, rfl⟩
    have hsort := sortD_fP (es := es) (cs := chs ws) (by omega) lo'.nd
    have lz : (((casts es).map Dat.int).zip ((chs ws).map frD)) = (es.zip (chs ws)).map fP := zip_fP es (chs ws)
    refine dss_cons (ds_ret (de_tup (da_cons (de_var 2 rfl) (da_cons (de_lc ((lawMoves es (chs ws)).map moveD) (fun _ => [.l [.int (shr n3 4 es.length)], .gone]) [("_law_stand_here", 4), ("_law_chance", 8)] (.two 4 8) (di_list (de_sortZip (xs := (casts es).map .int) (ys := (chs ws).map frD) hu z.sorted z.zip (da_cons (de_var 3 rfl) (da_cons (de_var 6 rfl) da_nil)) (by rw [List.length_map, List.length_map, casts_len]; omega) (by rw [List.length_map, casts_len]; omega) (flatAll_map (fun _ => rfl) _) (flatAll_map (fun _ => rfl) _) ?_ ?_)) sc__law_stand.nd (blkOk_by (N := N__law_stand) (sc := defScope s__law_stand) (by decide +kernel)) (fun _ _ _ _ _ => pg_two 4 8 sc__law_stand.nd)
      ⟨?_, ?_, by simp [Tg.own], fun _ => Nat.le_refl _, fun i d zz hd hz => ?_⟩) da_nil)) (by walk_at "dats") (by walk_at "le")) ⟨rfl, rfl⟩)
    · rw [lz, List.map_map]
      refine AllAlike.of fun p q => ?_
      show PySem.W.alike (.tuple [.int (p.1 : Nat), .tuple [.int p.2.1, .int p.2.2]]) (.tuple [.int (q.1 : Nat), .tuple [.int q.2.1, .int q.2.2]]) = true
      simp [PySem.W.alike, PySem.W.alikeAll]
    · rw [lz]
      intro p hp
      obtain ⟨q, _, rfl⟩ := List.mem_map.mp hp
      show (PyData.tuple [.int (q.1 : Nat), .tuple [.int q.2.1, .int q.2.2]]).depth ≤ 32
      simp [PyData.depth, PyData.depthAll]
    · rw [hsort]
      simp only [List.length_map, List.length_mergeSort, List.length_zip]
      omega
    · rw [hsort]
      unfold lawMoves
      simp only [List.length_map]
    · rw [hsort, List.map_map] at hd
      obtain ⟨pr, hpr, rfl⟩ := of_map hd
      obtain ⟨m, hm, rfl⟩ := of_map hz
      unfold lawMoves at hm
      rw [List.getElem?_map, hpr] at hm
      cases hm
      exact ⟨_, .two, fun c => fun s0 H0 C cl fp => de_tup (da_cons (de_var 8 rfl) (da_cons (de_var 4 rfl) da_nil)) (by walk_at "dats") (by walk_at "le")⟩
end
end Tw
end
section
set_option Elab.async false
set_option linter.all false
set_option maxRecDepth 100000
set_option maxHeartbeats 1000000
namespace Tw
open PySem PySem.Spec PyProof.Rows L2
open Evl (Ex)
theorem de_forget0 {X : Cx} {c : Cz} {ρ : List Sl} {S2 : List Ct} {e : Expr} {x : Dat} (h : DE X c ρ [] e (.d x) S2) : DE X c ρ [] e (.d x) [] := de_forget (S' := []) (Tl := S2) h (Nat.le_refl _)
section
variable {P : Program} {w : World} {K : PySem.W.Frag} {mg : Str → Option Value} {base : Heap}
def R_bench (ds : List Dat) (r : Dat) : Prop := ∃ (sc : List Int) (st most : Nat), 1 ≤ most ∧ most ≤ 5 ∧ ds = [scD sc, .int (st : Nat), .int (most : Nat)] ∧ r = benchD (lawBench sc st most)
theorem ok_law_bench (F : FT K mg "_law_bench" s__law_bench P__law_bench) (z : Zb mg) (c__law_cell : Cal P w K mg base 1 "_law_cell" (spP K R_cell)) (c__law_stand : Cal P w K mg base 4 "_law_stand" (spM K R_stand)) : Cal P w K mg base 5 "_law_bench" (spP K R_bench) := by
  obtain ⟨f, fd, F, gm, hb⟩ := F.ex
  refine cal_of F gm hb sc__law_bench (by decide) (fun ds r ⟨_, _, _, _, _, h, _⟩ => by rw [h]; rfl) fun cdv A outer s H E hr c ds r hR => ?_
  obtain ⟨sc, st, most, m1, m5, rfl, rfl⟩ := hR
  obtain ⟨z1, z2⟩ := lawSize_ok sc st m1
  have e0 : (1 : Int) + cellV sc st % ((most : Nat) : Int) = ((lawSize sc st most : Nat) : Int) := by
    unfold lawSize
    have h1 := Int.emod_nonneg (cellV sc st) (show ((most : Nat) : Int) ≠ 0 by omega)
    omega
  have lb := lawBench_len sc st most
  have hb2 : lawBench sc st most = (List.range (lawSize sc st most)).map fun k => lawStand (cellV sc (st + 1 + k)) (lawSize sc st most) := rfl
  refine dss_cons (ds_set 3 (r := .d (.int ((lawSize sc st most : Nat) : Int))) (S1 := []) ?_ ?_ sc__law_bench.nd)
  · rw [← e0]
    exact de_bin de_int (de_bin (de_call c__law_cell (hr.mono (by decide)) (da_cons (de_var 0 rfl) (da_cons (de_var 1 rfl) da_nil)) (by walk_at "dats") ⟨sc, st, rfl, rfl⟩) (de_var 2 rfl) (od_mod (by omega))) od_add
  generalize lawSize sc st most = size at z1 z2 lb hb2
  show DSs _ _ [.d (scD sc), .d (.int (st : Nat)), .d (.int (most : Nat)), .d (.int (size : Nat)), .un] [] _ (Ret (benchD (lawBench sc st most)))
  refine dss_cons (ds_ret (de_lc ((lawBench sc st most).map standD) (fun _ => []) [("_law_k", 4)] (.one 4) (di_range1 z.range (de_var 3 rfl) (by omega) (by omega)) sc__law_bench.nd (blkOk_by (N := N__law_bench) (sc := defScope s__law_bench) (by decide +kernel)) (fun _ _ _ _ _ => pg_one 4 sc__law_bench.nd)
    ⟨by rw [nums_len]; omega, by rw [nums_len, List.length_map, lb]; omega, by simp [Tg.own], fun _ => Nat.le_refl _, fun i d zz hd hz => ?_⟩) rfl)
  obtain ⟨hi, ed⟩ := of_nums hd
  have hi' : i < size := by omega
  have e2 : (0 : Int) + ((i : Nat) : Int) = ((i : Nat) : Int) := by omega
  rw [e2] at ed
  subst ed
  obtain ⟨t, ht, rfl⟩ := of_map hz
  rw [hb2, List.getElem?_map, List.getElem?_range hi'] at ht
  cases ht
  have e3 : ((st : Nat) : Int) + 1 + ((i : Nat) : Int) = ((st + 1 + i : Nat) : Int) := by omega
  refine ⟨_, .one, fun c => fun s0 H0 C cl fp => ?_⟩
  exact de_forget0 (de_callM (i := 0) c__law_stand (hr.mono (by decide)) (da_cons (de_lstO (S1 := []) (ds := [.int (cellV sc (st + 1 + i))]) (da_cons (de_call c__law_cell (hr.mono (by decide)) (da_cons (de_var 0 rfl) (da_cons (de_bin (de_bin (de_var 1 rfl) de_int od_add) (de_var 4 rfl) od_add) da_nil)) (by walk_at "dats") ⟨sc, st + 1 + i, by rw [e3], rfl⟩) da_nil) (by walk_at "dats") (by walk_at "le")) (da_cons (de_var 3 rfl) da_nil)) (by walk_at "dats") rfl ⟨size, by omega, by omega, rfl, rfl, rfl⟩)
def R_law_book (ds : List Dat) (r : Dat) : Prop := ∃ (sc : List Int) (st : Nat) (szs : List Nat), szs ∈ menu ∧ ds = [scD sc, .int (st : Nat), natsD szs] ∧ r = bookD (lawBook sc st szs)
theorem ok_law_book (F : FT K mg "_law_book" s__law_book P__law_book) (c__law_cell : Cal P w K mg base 1 "_law_cell" (spP K R_cell)) (c__law_part : Cal P w K mg base 3 "_law_part" (spP K R_part)) (c__law_bench : Cal P w K mg base 5 "_law_bench" (spP K R_bench)) : Cal P w K mg base 6 "_law_book" (spP K R_law_book) := by
  obtain ⟨f, fd, F, gm, hb⟩ := F.ex
  refine cal_of F gm hb sc__law_book (by decide) (fun ds r ⟨_, _, _, _, h, _⟩ => by rw [h]; rfl) fun cdv A outer s H E hr c ds r hR => ?_
  obtain ⟨sc, st, szs, hm, rfl, rfl⟩ := hR
  obtain ⟨h1, h2, h3, h4⟩ := menu_ok szs hm
  refine dss_cons (ds_set 3 (de_lstO (ds := []) da_nil (by walk_at "dats") (by walk_at "le")) ?_ sc__law_book.nd)
  refine dss_cut (fun ρ S => ∃ x, ρ = [.d (scD sc), .d (.int ((lawEnd st szs : Nat) : Int)), .d (natsD szs), .o 0, x] ∧ S = [.l ((lawBs sc st szs).map benchD)]) (ds_for (T := .one 4) (di_list (ds := (casts szs).map .int) (de_var 2 rfl)) (pg_one 4 sc__law_book.nd) (fun i ρ S => ρ = [.d (scD sc), .d (.int ((lawEnd st (szs.take i) : Nat) : Int)), .d (natsD szs), .o 0, .un] ∧ S = [.l ((lawBs sc st (szs.take i)).map benchD)]) ?_ ?_ ?_ ?_) ?_
  · rintro i ρ S ⟨rfl, rfl⟩; exact Nat.le_refl _
  · exact ⟨_, [.l ((lawBs sc st []).map benchD)], ⟨by walk_at "lel", [], rfl⟩, rfl, rfl⟩
  · rintro i d ρ S hd ⟨rfl, rfl⟩
    obtain ⟨v, hv, rfl⟩ := of_map hd
    obtain ⟨m, hm2, rfl⟩ : ∃ m : Nat, szs[i]? = some m ∧ v = ((m : Nat) : Int) := by
      unfold casts at hv
      rw [List.getElem?_map] at hv
      cases e : szs[i]? with
      | none =>
        rw [e] at hv
        cases hv
      | some m =>
        rw [e] at hv
        cases hv
        exact ⟨m, rfl, rfl⟩
    have hmem : m ∈ szs := List.mem_of_getElem? hm2
    obtain ⟨m1, m5⟩ := h1 m hmem
    have hil := (List.getElem?_eq_some_iff.mp hm2).1
    have et : szs.take (i + 1) = szs.take i ++ [m] := by
      rw [List.take_add_one, hm2]
      rfl
    refine ⟨_, .one, ?_⟩
    refine dss_cons (ds_expr (de_append (k := 0) (de_var 3 rfl) (de_call c__law_bench (hr.mono (by decide)) (da_cons (de_var 0 rfl) (da_cons (de_var 1 rfl) (da_cons (de_var 4 rfl) da_nil))) (by walk_at "dats") ⟨sc, lawEnd st (szs.take i), m, m1, m5, rfl, rfl⟩) ⟨_, rfl⟩ rfl (by rw [List.length_map, lawBs_len, List.length_take]; omega)) ?_)
    refine dss_cons (ds_set 1 (de_bin (de_bin (de_var 1 rfl) (de_var 4 rfl) od_add) de_int od_add) ?_ sc__law_book.nd)
    refine dss_nil ⟨[.d (scD sc), .d (.int (((lawEnd st (szs.take i) : Nat) : Int) + ((m : Nat) : Int) + 1)), .d (natsD szs), .o 0, .un], [.l ((lawBs sc st (szs.take (i + 1))).map benchD)], ⟨by walk_at "lel", [], ?_⟩, ?_, rfl⟩
    · rw [et, lawBs_snoc, List.map_append]
      rfl
    · rw [et, lawEnd_snoc]
      have e3 : ((lawEnd st (szs.take i) : Nat) : Int) + ((m : Nat) : Int) + 1 = ((lawEnd st (szs.take i) + m + 1 : Nat) : Int) := by omega
      rw [← e3]
  · rintro ρ S ⟨rfl, rfl⟩
    rw [List.take_of_length_le (by rw [List.length_map, casts_len]; exact Nat.le_refl _)]
    exact ⟨.un, rfl, rfl⟩
  · rintro ρ S ⟨x, rfl, rfl⟩
    refine dss_free 3 0 rfl rfl rfl ?_
    exact dss_cons (ds_ret (de_tup (da_cons (de_call c__law_part (hr.mono (by decide)) (da_cons (de_call c__law_cell (hr.mono (by decide)) (da_cons (de_var 0 rfl) (da_cons (de_var 1 rfl) da_nil)) (by walk_at "dats") ⟨sc, lawEnd st szs, rfl, rfl⟩) da_nil) (by walk_at "dats") ⟨_, rfl, rfl⟩) (da_cons (de_var 3 rfl) da_nil)) (by walk_at "dats") (by walk_at "le")) rfl)
end
end Tw
end
section
set_option Elab.async false
set_option linter.all false
set_option maxRecDepth 100000
set_option maxHeartbeats 1000000
/-! sorted(d) of a dict whose keys are tuples. -/
namespace Tw
open PySem PySem.Spec PyProof.Rows L2
open Evl (Ex)
open PySem.W (EachIs dataLe AllAlike Sortable)
def AD.enc (b : Addr × Dat) : PyData := py b.2
def tupPy (d : PyData) : Prop := ∃ x r, d = .tuple (x :: r)
theorem call_sorted_dT {X : Cx} (hc : X.calm = true) (hu : X.A.units + 64 < cLine) : CallR X (.builtin "sorted") (fun xs H Q => ∃ d kvs, ∃ ds : List Dat, xs = [V.ref d] ∧ Rd H d (.dT kvs) ∧ ds.length ≤ 1000 ∧ (∀ bs, IsKeys H kvs bs → bs.length = ds.length ∧ ∀ (j : Nat) b x, bs[j]? = some b → ds[j]? = some x → Dp X.K H (.ref b) (py x)) ∧ AllAlike (ds.map py) ∧ (∀ x ∈ ds, tupPy (py x) ∧ (py x).depth ≤ 32) ∧
    ∀ p bs, H p = none → IsKeys H kvs bs → Q (.ref p) (upd H p (.lst (((bs.zip ds).mergeSort (dataLe false AD.enc)).map fun b => V.ref b.1)))) := by
  intro pins s σ H xs us Q I r h
  obtain ⟨d, kvs, ds, rfl, hd, hL, hdp, hal, htp, q⟩ := h
  obtain ⟨u, rfl, rx⟩ := r.one
  cases rx
  obtain ⟨z, hs, ks, pr, o, es, ep, ho, hx, hdt, he, hn⟩ := (show ObjOk X.prog X.w H s.heap d (.dT kvs) from hd.ok I.hok)
  have l1 : es.size = ks.length := size_of_entries he
  have hik := isKeys_of pr
  generalize hbs : ks.map (fun x => x.2.1) = bs at hik
  obtain ⟨hlen, hdp'⟩ := hdp bs hik
  have lb : bs.length = ks.length := by rw [← hbs, List.length_map]
  have line := line63
  have hz : ds.length ≤ sizeLine := Evl.sz_of (by omega)
  refine Calls.call_function_entry PyProof.Rows.kind_sorted PyProof.Rows.plain_sorted PyProof.Rows.entry_sorted (PyProof.Rows.args_sorted1 _) ?_
  unfold Builtin.«sorted»
  refine wpAny_bind (m := checkCount "sorted" 1 1 _) (wpAny_pure ?_)
  refine wpAny_bind (PySem.W.kdu_collect (A := X.A.in1) (kdl_raw hs hx hdt) (I.ok.hd hc) ho (by omega) fun h' tk acc' hk it => ?_)
  have ea : acc'.toList = bs.map Value.ref := by
    rw [← hbs, List.map_map]
    have hl : acc'.toList.length = ks.length := by rw [Array.length_toList, it.1]; exact l1
    apply List.ext_getElem?
    intro j
    rw [List.getElem?_map]
    cases hj : acc'.toList[j]? with
    | none =>
      have h1 := List.getElem?_eq_none_iff.mp hj
      rw [List.getElem?_eq_none (by omega)]
      all_goals rfl
    | some v =>
      obtain ⟨en, hen, hv⟩ := it.2 j v (by rw [← Array.getElem?_toList]; exact hj)
      have qe := entry_at he j
      rw [hen] at qe
      cases hb : ks[j]? with
      | none =>
        rw [hb] at qe
        exact nomatch (show some en = none from qe)
      | some b =>
        rw [hb] at qe
        have e2 : en = entryOfKey (tupleKind (mixKind X.prog X.w)) b := Option.some.inj qe
        rw [hv, e2]
        all_goals rfl
  rw [ea]
  refine wpAny_bind (wpAny_newList ?_ (by rw [List.length_map]; omega))
  have e1 : (bs.zip ds).map (fun b => Value.ref b.1) = bs.map Value.ref := by
    have : (bs.zip ds).map (·.1) = bs := List.map_fst_zip (by omega)
    calc (bs.zip ds).map (fun b => Value.ref b.1) = ((bs.zip ds).map (·.1)).map Value.ref := by rw [List.map_map]; rfl
      _ = _ := by rw [this]
  have e2 : (bs.zip ds).map AD.enc = ds.map py := by
    have : (bs.zip ds).map (·.2) = ds := List.map_snd_zip (by omega)
    show (bs.zip ds).map (py ∘ fun b : Addr × Dat => b.2) = _
    rw [← List.map_map, this]
  have hzl : (bs.zip ds).length = ds.length := by rw [List.length_zip]; omega
  have hob : (h'.push { cls := .type "list", data := .seq (bs.map Value.ref).toArray }).get? h'.objs.size = some (seqObj "list" (bs.map Value.ref).toArray 0) := Heap.get?_push_size _ rfl
  have kb : ∀ b o, s.heap.get? b = some o → (h'.push { cls := .type "list", data := .seq (bs.map Value.ref).toArray }).get? b = some o := fun b o e => Heap.get?_push_of_some _ (hk b o e)
  have ne0 : ∀ b o, s.heap.get? b = some o → b ≠ h'.objs.size := fun b o e => Nat.ne_of_lt (Heap.lt_size (hk b o e))
  have I0 : Inv X pins σ H { s with heap := h', toks := tk } := I.kept hk
  have ka : ∀ b o, h'.get? b = some o → (h'.push { cls := .type "list", data := .seq (bs.map Value.ref).toArray }).get? b = some o := fun b o e => Heap.get?_push_of_some _ e
  generalize hh2 : h'.push { cls := .type "list", data := .seq (bs.map Value.ref).toArray } = h2 at hob kb ka ⊢
  have rd : ∀ b ∈ bs.zip ds, ∃ as, Reads h2 (Value.ref b.1) (AD.enc b) as ∧ h'.objs.size ∉ as := fun b hbm => by
    obtain ⟨j, hj⟩ := List.mem_iff_getElem?.mp hbm
    rw [List.getElem?_zip_eq_some] at hj
    obtain ⟨as1, r1⟩ := Dp.reads I _ _ _ (hdp' j b.1 b.2 hj.1 hj.2) rfl
    refine ⟨as1, PyProof.Rows.Reads.keeps kb r1, fun hm => ?_⟩
    obtain ⟨o, e⟩ := reads_there r1 _ hm
    exact ne0 _ _ e rfl
  refine wpAny_bind (wpAny_holding (wpAny_mono (Q := fun _ s' => EP X pins σ Q (.ref h'.objs.size) s') ?_ (fun _ s' x => wpAny_pure ⟨_, rfl, x⟩) fun _ _ e => e))
  refine PySem.W.list_sort_data (s := { s with heap := h2, toks := tk }) (enc := AD.enc) (bs := bs.zip ds) (R := fun v b => v = Value.ref b.1) (n := 0) hob (by rw [← e1]; exact eachMem fun b _ => rfl) (by rw [← e1]; exact eachMem rd) (by rw [e2]; exact hal) (.inl fun x hx => ?_) (by rw [hzl]; exact hz) (fun b hbm => ?_) fun out ol oe => ?_
  · rw [e2] at hx
    obtain ⟨y, hy, rfl⟩ := List.mem_map.mp hx
    exact (htp y hy).1
  · have := (htp b.2 (List.of_mem_zip hbm).2).2
    show X.A.units + 1 + 1 + (py b.2).depth < cLine
    omega
  · have eo := eachEq oe
    have kF : ∀ b o, b ≠ h'.objs.size → h2.get? b = some o → (sortedHeap h2 h'.objs.size (bs.map Value.ref) out.toArray).get? b = some o := fun b o hb e => (PyProof.Rows.sortedHeap_old hb (Heap.lt_size e)).trans e
    obtain ⟨eF, heF⟩ := PyProof.Rows.sortedHeap_at (vs := bs.map Value.ref) (out := out.toArray) hob
    generalize sortedHeap h2 h'.objs.size (bs.map Value.ref) out.toArray = h3 at kF heF ⊢
    show EP X pins σ Q (.ref h'.objs.size) { s with heap := h3, toks := tk }
    have hn0 : H h'.objs.size = none := I0.hok.fresh (Nat.le_refl _)
    have hq := q _ bs hn0 hik
    have hlen2 : (((bs.zip ds).mergeSort (dataLe false AD.enc)).map fun b => V.ref b.1).length ≤ sizeLine := by rw [List.length_map, List.length_mergeSort, hzl]; exact hz
    have rv : Vals (((bs.zip ds).mergeSort (dataLe false AD.enc)).map fun b => V.ref b.1) out := by
      rw [eo]
      exact vals_maps (fun b : Addr × Dat => V.ref b.1) (fun b => Value.ref b.1) _ fun _ _ => rfl
    generalize ((bs.zip ds).mergeSort (dataLe false AD.enc)).map (fun b => V.ref b.1) = res at hlen2 rv hq
    have ok : ObjOk X.prog X.w (upd H h'.objs.size (.lst res)) h3 h'.objs.size (.lst res) := ⟨hlen2, out, eF, rv, heF⟩
    exact ⟨.ref h'.objs.size, _, I0.laid (t' := tk) (fun b u e => kF b u (Nat.ne_of_lt (Heap.lt_size e)) (ka b u e)) (Nat.le_refl _) ok, rfl, hq⟩
theorem of_map0 {α : Type} {f : α → Dat} {l : List α} {i : Nat} {d : Dat} (h : (l.map f)[i]? = some d) : ∃ x, l[i]? = some x ∧ d = f x := by
  rw [List.getElem?_map] at h
  cases e : l[i]? with
  | none => rw [e] at h; cases h
  | some x => rw [e] at h; cases h; exact ⟨x, rfl, rfl⟩
theorem atall_ad {K : PySem.W.Frag} {H : Hp} : ∀ {l : List (Addr × Dat)}, (∀ b ∈ l, At K H (.ref b.1) b.2) → AtAll K H (l.map fun b => V.ref b.1) (l.map (·.2))
  | [], _ => .nil
  | b :: l, h => .cons (h b List.mem_cons_self) (atall_ad fun c hc => h c (List.mem_cons_of_mem _ hc))
def sortK (kvs : List (List Int × Dat)) : List Dat := (keysD kvs).mergeSort (dataLe false py)
section
variable {X : Cx} {c : Cz} {ρ : List Sl} {S S1 : List Ct} {e : Expr} {es : List Expr} {pos p : Pos} {kvs : List (List Int × Dat)}
theorem de_sortedD (hu : X.A.units + 64 < cLine) (hm : X.mg "sorted" = none) (h : DA X c ρ S (e :: es) [.d (.dic kvs)] S1) (hL : kvs.length ≤ 1000) (hal : AllAlike ((keysD kvs).map py)) (htp : ∀ x ∈ keysD kvs, tupPy (py x) ∧ (py x).depth ≤ 32) (hc : X.calm = true := by rfl) (hg : Gl X "sorted" := by rfl)
    (he : starEach (e :: es) X.env = (false, eval e X.env) :: starEach es X.env := by rfl) (hpl : (backTo pos (starEach es X.env)).any (·.1) = false := by rfl) :
    DE X c ρ S (.Call (.Name "sorted" p) (e :: es) [] pos) (.d (.lst (sortK kvs))) S1 := de_callB (call_sorted_dT hc hu) hm boot_sortedB h (fun vs H O hs hv Q q => by
  obtain ⟨v, e1, e2⟩ := hv.one
  have e2' : At X.K _ v (.dic kvs) := e2
  have kl : (keysD kvs).length = kvs.length := List.length_map _
  cases e2' with
  | dic g1 g2 =>
    refine ⟨_, _, keysD kvs, e1, vw_le.rd _ _ g1, by rw [kl]; exact hL, fun bs hb => ?_, hal, htp, fun p bs hp hb => ?_⟩
    · have ka := keys_at hs g2 hb
      have hl := ka.length
      rw [List.length_map] at hl
      refine ⟨by omega, fun j b x hb2 hx => ?_⟩
      obtain ⟨v, f1, f2⟩ := ka.get hx
      rw [List.getElem?_map, hb2] at f1
      cases f1
      refine (At.mono vw_le f2).dp ?_
      unfold keysD at hx
      obtain ⟨kv, _, rfl⟩ := of_map0 hx
      rfl
    · have ka := keys_at hs g2 hb
      have hl := ka.length
      rw [List.length_map] at hl
      have es : sortK kvs = ((bs.zip (keysD kvs)).mergeSort (dataLe false AD.enc)).map (·.2) := by
        have e3 : (bs.zip (keysD kvs)).map (·.2) = keysD kvs := List.map_snd_zip (by omega)
        unfold sortK
        conv => lhs; rw [← e3]
        exact (List.map_mergeSort (f := fun b : Addr × Dat => b.2) (r := dataLe false AD.enc) (s := dataLe false py) fun a _ b _ => rfl).symm
      rw [es] at q
      have ex := Ex.new (o := .lst (((bs.zip (keysD kvs)).mergeSort (dataLe false AD.enc)).map fun b => V.ref b.1)) hp
      refine q.ex hs ex (.lst (.inl (.inl (vw_fresh hs hp))) (AtAll.mono (RX.vw_ex ex) (atall_ad fun b hb2 => ?_)))
      have hb3 := (List.mergeSort_perm _ _).mem_iff.mp hb2
      obtain ⟨j, hj⟩ := List.mem_iff_getElem?.mp hb3
      rw [List.getElem?_zip_eq_some] at hj
      obtain ⟨v, f1, f2⟩ := ka.get hj.2
      rw [List.getElem?_map, hj.1] at f1
      cases f1
      exact f2) hg (he := he) (hpl := hpl)
end
end Tw
end
section
set_option Elab.async false
set_option linter.all false
set_option maxRecDepth 100000
set_option maxHeartbeats 1000000
namespace Tw
open PySem PySem.Spec PyProof.Rows L2
open PySem.W (EachIs dataLe AllAlike Sortable)
theorem alikeAll_ints : ∀ (a b : List Int), PySem.W.alikeAll (a.map PyData.int) (b.map .int) = true
  | [], [] => rfl
  | [], _ :: _ => rfl
  | _ :: _, [] => rfl
  | x :: a, y :: b => by
    show (PySem.W.alike (.int x) (.int y) && PySem.W.alikeAll (a.map PyData.int) (b.map .int)) = true
    rw [alikeAll_ints a b]
    rfl
theorem py_st (ns : List Int) : py (.st ns) = .tuple (ns.map .int) := by
  simp [py]
theorem keys_alike (kvs : List (List Int × Dat)) : AllAlike ((keysD kvs).map py) := by
  unfold keysD
  rw [List.map_map]
  refine AllAlike.of fun p q => ?_
  show PySem.W.alike (py (.st p.1)) (py (.st q.1)) = true
  rw [py_st, py_st]
  exact alikeAll_ints _ _
theorem ints_depth : ∀ (ns : List Int), PyData.depthAll (ns.map PyData.int) ≤ 1
  | [] => by simp [PyData.depthAll]
  | n :: ns => by
    have := ints_depth ns
    simp [PyData.depthAll, PyData.depth]
    try omega
theorem keys_tup {kvs : List (List Int × Dat)} (h : ∀ x ∈ kvs, x.1 ≠ []) : ∀ x ∈ keysD kvs, tupPy (py x) ∧ (py x).depth ≤ 32 := by
  intro x hx
  unfold keysD at hx
  obtain ⟨kv, hk, rfl⟩ := List.mem_map.mp hx
  have h1 := h kv hk
  rw [py_st]
  refine ⟨?_, ?_⟩
  · cases e : kv.1 with
    | nil => exact absurd e h1
    | cons a l => exact ⟨_, _, rfl⟩
  · have := ints_depth kv.1
    simp [PyData.depth]
    omega
end Tw
end
section
set_option Elab.async false
set_option linter.all false
set_option maxRecDepth 100000
set_option maxHeartbeats 1000000
namespace Tw
open PySem PySem.Spec PyProof.Rows L2
open PySem.W (EachIs dataLe AllAlike Sortable dataLt rowLt dataLt_tuple dataLt_ints)
def leS (a b : List Int) : Bool := decide (a ≤ b)
theorem le_st (a b : List Int) : leS a b = dataLe false py (.st a) (.st b) := by
  show _ = (!dataLt (py (.st b)) (py (.st a)))
  rw [py_st, py_st, dataLt_tuple]
  show _ = (!rowLt (b.map .int) (a.map .int))
  rw [dataLt_ints]
  unfold leS
  by_cases h : b < a
  · have h' : ¬ a ≤ b := fun r => List.not_lt.mpr r h
    simp [h, h']
  · have h' : a ≤ b := List.not_lt.mp h
    simp [h, h']
theorem sortK_eq (kvs : List (List Int × Dat)) : sortK kvs = ((kvs.map (·.1)).mergeSort leS).map .st := by
  have e : keysD kvs = (kvs.map (·.1)).map Dat.st := by unfold keysD; rw [List.map_map]; rfl
  unfold sortK
  rw [e]
  exact (List.map_mergeSort (f := Dat.st) (r := leS) (s := dataLe false py) fun a _ b _ => le_st a b).symm
theorem leS_trans (a b c : List Int) (h1 : leS a b = true) (h2 : leS b c = true) : leS a c = true := by
  unfold leS at h1 h2 ⊢
  exact decide_eq_true (List.le_trans (of_decide_eq_true h1) (of_decide_eq_true h2))
theorem leS_total (a b : List Int) : (leS a b || leS b a) = true := by
  unfold leS
  rcases List.le_total a b with h | h
  · simp [h]
  · simp [h]
theorem sorted_uniq {l m : List (List Int)} (hm : m.Pairwise (· < ·)) (hp : l.Perm m) : l.mergeSort leS = m := by
  have h1 : (l.mergeSort leS).Pairwise (fun a b => leS a b = true) := List.pairwise_mergeSort leS_trans leS_total l
  have h2 : m.Pairwise (fun a b => leS a b = true) := hm.imp fun h => decide_eq_true (List.not_lt.mp fun r => List.lt_asymm h r)
  refine List.Perm.eq_of_pairwise (le := fun a b => leS a b = true) (fun a b _ _ h3 h4 => ?_) h1 h2 ((List.mergeSort_perm l leS).trans hp)
  exact List.le_antisymm (of_decide_eq_true h3) (of_decide_eq_true h4)
end Tw
end
section
set_option Elab.async false
set_option linter.all false
set_option maxRecDepth 100000
set_option maxHeartbeats 1000000
namespace Tw
open PySem PySem.Spec PyProof.Rows L2
theorem eqvAll_ints : ∀ (a b : List Int), PyData.eqvAll (a.map .int) (b.map .int) = decide (a = b)
  | [], [] => by simp [PyData.eqvAll]
  | [], _ :: _ => by simp [PyData.eqvAll]
  | _ :: _, [] => by simp [PyData.eqvAll]
  | x :: a, y :: b => by
    have ih := eqvAll_ints a b
    simp [PyData.eqvAll, PyData.eqv, ih]
    rfl
theorem eqvAll_sts : ∀ (l m : List (List Int)), PyData.eqvAll (pyAll (l.map .st)) (pyAll (m.map .st)) = decide (l = m)
  | [], [] => by simp [PyData.eqvAll, pyAll]
  | [], _ :: _ => by simp [PyData.eqvAll, pyAll]
  | _ :: _, [] => by simp [PyData.eqvAll, pyAll]
  | x :: a, y :: b => by
    have ih := eqvAll_sts a b
    simp [PyData.eqvAll, PyData.eqv, pyAll, py, ih, eqvAll_ints]
theorem eqv_sts (l m : List (List Int)) : PyData.eqv (py (.lst (l.map .st))) (py (.lst (m.map .st))) = decide (l = m) := by
  show PyData.eqv (.list (pyAll (l.map .st))) (.list (pyAll (m.map .st))) = _
  rw [PyData.eqv]
  exact eqvAll_sts l m
end Tw
end
section
set_option Elab.async false
set_option linter.all false
set_option maxRecDepth 100000
set_option maxHeartbeats 1000000
namespace Tw
open PySem PySem.Spec PyProof.Rows L2
theorem valD_key (kvs : List (List Int × Dat)) (s : List Int) : (valD kvs s).isSome = true ↔ s ∈ kvs.map (·.1) := by
  rw [← valD_any, List.any_eq_true, List.mem_map]
  constructor
  · rintro ⟨x, h1, h2⟩
    exact ⟨x, h1, of_decide_eq_true h2⟩
  · rintro ⟨x, h1, h2⟩
    exact ⟨x, h1, decide_eq_true h2⟩
theorem perm_subset : ∀ {m l : List (List Int)}, m.Nodup → (∀ s ∈ m, s ∈ l) → l.length = m.length → l.Perm m
  | [], l, _, _, h => by rw [List.eq_nil_of_length_eq_zero h]
  | a :: m, l, nd, hs, h => by
    have ha := hs a List.mem_cons_self
    have h1 := List.nodup_cons.mp nd
    refine (List.perm_cons_erase ha).trans (List.Perm.cons a (perm_subset h1.2 (fun s hm => ?_) ?_))
    · exact (List.mem_erase_of_ne (fun e : s = a => h1.1 (by rw [← e]; exact hm))).mpr (hs s (List.mem_cons_of_mem _ hm))
    · rw [List.length_erase_of_mem ha, h, List.length_cons]
      omega
theorem sorted_has (k : Book) {kvs : List (List Int × Dat)} (nd : (kvs.map (·.1)).Nodup) : decide ((kvs.map (·.1)).mergeSort leS = sts k) = hasSt k (.dic kvs) := by
  have so : (sts k).Pairwise (· < ·) := sorted_states _ rfl
  have nds : (sts k).Nodup := so.imp fun h e => by subst e; exact List.lt_irrefl _ h
  rw [hasSt_dic, Bool.eq_iff_iff, Bool.and_eq_true, decide_eq_true_eq, decide_eq_true_eq, List.all_eq_true]
  constructor
  · intro h
    have p : (kvs.map (·.1)).Perm (sts k) := h ▸ (List.mergeSort_perm _ leS).symm
    refine ⟨by rw [← p.length_eq, List.length_map], fun s hs => (valD_key kvs s).mpr (p.mem_iff.mpr hs)⟩
  · rintro ⟨hl, ha⟩
    refine sorted_uniq so ?_
    exact perm_subset nds (fun s hs => (valD_key kvs s).mp (ha s hs)) (by rw [List.length_map]; exact hl)
end Tw
end
section
set_option Elab.async false
set_option linter.all false
set_option maxRecDepth 100000
set_option maxHeartbeats 1000000
namespace Tw
open PySem PySem.Spec PyProof.Rows L2

mutual
def plainD : Dat → Bool
  | .non => true
  | .bl _ => true
  | .int _ => true
  | .str _ => false
  | .tup ds => plainAll ds
  | .st _ => true
  | .lst ds => plainAll ds
  | .dic _ => false
def plainAll : List Dat → Bool
  | [] => true
  | d :: ds => plainD d && plainAll ds
end
theorem lay_ints : ∀ ns : List Int, PyData.canLayAll0 (ns.map .int) = true
  | [] => rfl
  | n :: ns => by
    show (PyData.canLay0 (.int n) && PyData.canLayAll0 (ns.map .int)) = true
    rw [lay_ints ns]
    rfl
mutual
theorem plain_lay : ∀ d : Dat, plainD d = true → (py d).canLay0 = true
  | .non, _ => rfl
  | .bl _, _ => rfl
  | .int _, _ => rfl
  | .str _, h => by simp [plainD] at h
  | .tup ds, h => plain_layAll ds h
  | .st ns, _ => lay_ints ns
  | .lst ds, h => plain_layAll ds h
  | .dic _, h => by simp [plainD] at h
theorem plain_layAll : ∀ ds : List Dat, plainAll ds = true → PyData.canLayAll0 (pyAll ds) = true
  | [], _ => rfl
  | d :: ds, h => by
    rw [plainAll, Bool.and_eq_true] at h
    show (PyData.canLay0 (py d) && PyData.canLayAll0 (pyAll ds)) = true
    rw [plain_lay d h.1, plain_layAll ds h.2]
    rfl
end
end Tw
end
section
set_option Elab.async false
set_option linter.all false
set_option maxRecDepth 100000
set_option maxHeartbeats 1000000
namespace Tw
open PySem PySem.Spec PyProof.Rows L2
structure Shp (n : Nat) (d : Dat) : Prop where
  pl : plainD d = true
  fl : flat d = true
  dp : (py d).depth ≤ n
theorem Shp.mono {n m : Nat} {d : Dat} (h : Shp n d) (hm : n ≤ m) : Shp m d := ⟨h.pl, h.fl, Nat.le_trans h.dp hm⟩
theorem Shp.shaped {n : Nat} {d : Dat} (h : Shp n d) (hn : n ≤ 64) : SeqAt.shaped (py d) = true := by
  unfold SeqAt.shaped
  rw [plain_lay d h.pl, decide_eq_true (Nat.le_trans h.dp hn)]
  rfl
theorem shp_all {n : Nat} : ∀ {ds : List Dat}, (∀ d ∈ ds, Shp n d) → plainAll ds = true ∧ flatAll ds = true ∧ PyData.depthAll (pyAll ds) ≤ n
  | [], _ => ⟨rfl, rfl, Nat.zero_le _⟩
  | d :: ds, h => by
    obtain ⟨h1, h2, h3⟩ := shp_all (ds := ds) fun x hx => h x (List.mem_cons_of_mem _ hx)
    have hd := h d List.mem_cons_self
    refine ⟨by rw [plainAll, hd.pl, h1]; rfl, by rw [flatAll, hd.fl, h2]; rfl, ?_⟩
    show max (py d).depth (PyData.depthAll (pyAll ds)) ≤ n
    have := hd.dp
    omega
theorem Shp.lst {n : Nat} {ds : List Dat} (h : ∀ d ∈ ds, Shp n d) : Shp (n + 1) (.lst ds) := by
  obtain ⟨h1, h2, h3⟩ := shp_all h
  refine ⟨h1, h2, ?_⟩
  show PyData.depthAll (pyAll ds) + 1 ≤ n + 1
  omega
theorem Shp.tup {n : Nat} {ds : List Dat} (h : ∀ d ∈ ds, Shp n d) : Shp (n + 1) (.tup ds) := by
  obtain ⟨h1, h2, h3⟩ := shp_all h
  refine ⟨h1, h2, ?_⟩
  show PyData.depthAll (pyAll ds) + 1 ≤ n + 1
  omega
theorem Shp.int (i : Int) : Shp 0 (.int i) := ⟨rfl, rfl, Nat.le_refl _⟩
theorem Shp.tup2 {n : Nat} {a b : Dat} (h1 : Shp n a) (h2 : Shp n b) : Shp (n + 1) (.tup [a, b]) := Shp.tup fun d hd => by
  rcases List.mem_cons.mp hd with e | hd
  · subst e; exact h1
  · rcases List.mem_cons.mp hd with e | hd
    · subst e; exact h2
    · cases hd
theorem Shp.map {α : Type} {n : Nat} {f : α → Dat} (h : ∀ a, Shp n (f a)) (l : List α) : Shp (n + 1) (.lst (l.map f)) := Shp.lst fun d hd => by
  obtain ⟨a, _, rfl⟩ := List.mem_map.mp hd
  exact h a
theorem shp_fr (f : Fr) : Shp 1 (frD f) := Shp.tup2 (.int _) (.int _)
theorem shp_move (m : Move) : Shp 2 (moveD m) := Shp.tup2 (shp_fr _) ((Shp.int _).mono (by decide))
theorem shp_stand (s : Stand) : Shp 4 (standD s) := Shp.tup2 ((shp_fr _).mono (by decide)) (Shp.map shp_move _)
theorem shp_bench (b : Bench) : Shp 5 (benchD b) := Shp.map shp_stand _
theorem shp_book (k : Book) : Shp 7 (bookD k) := Shp.tup2 ((shp_fr _).mono (by decide)) (Shp.map shp_bench _)
theorem shp_st (s : List Int) : Shp 2 (.st s) := by
  refine ⟨rfl, rfl, ?_⟩
  rw [py_st]
  have := ints_depth s
  show PyData.depthAll _ + 1 ≤ 2
  omega
theorem shp_sts (l : List (List Int)) : Shp 3 (.lst (l.map .st)) := Shp.map shp_st l
section
variable {X : Cx} {c : Cz} {S : List Ct}
theorem od_neSts (hu : X.A.units + 64 < cLine) (l m : List (List Int)) : OpD X c (compareOp .NotEq) S (.d (.lst (l.map .st))) (.d (.lst (m.map .st))) (.d (.bl (!decide (l = m)))) S := by
  have h := od_neD (X := X) (c := c) (S := S) hu (shp_sts l).fl (shp_sts m).fl ((shp_sts l).shaped (by decide)) ((shp_sts m).shaped (by decide))
  rw [eqv_sts] at h
  exact h
theorem od_neBook (hu : X.A.units + 64 < cLine) (k j : Book) : OpD X c (compareOp .NotEq) S (.d (bookD k)) (.d (bookD j)) (.d (.bl (!PyData.eqv (py (bookD k)) (py (bookD j))))) S :=
  od_neD hu (shp_book k).fl (shp_book j).fl ((shp_book k).shaped (by decide)) ((shp_book j).shaped (by decide))
end
end Tw
end
section
set_option Elab.async false
set_option linter.all false
set_option maxRecDepth 100000
set_option maxHeartbeats 1000000
namespace Tw
open PySem PySem.Spec PyProof.Rows L2
open Evl (Ex)
/-- a dict that may be looked at -/
structure KvP (kvs : List (List Int × Dat)) : Prop where
  nd : (kvs.map (·.1)).Nodup
  ne : ∀ x ∈ kvs, x.1 ≠ []
  few : kvs.length ≤ 1000
theorem valD_nd : ∀ {kvs : List (List Int × Dat)} {i : Nat} {kv : List Int × Dat}, (kvs.map (·.1)).Nodup → kvs[i]? = some kv → valD kvs kv.1 = some kv.2
  | p :: r, 0, kv, _, h => by
    simp at h
    subst h
    exact valD_pos rfl
  | p :: r, i + 1, kv, nd, h => by
    rw [List.map_cons, List.nodup_cons] at nd
    have h' : r[i]? = some kv := by simpa using h
    rw [valD_neg fun e => nd.1 (by rw [e]; exact List.mem_map_of_mem (List.mem_of_getElem? h'))]
    exact valD_nd nd.2 h'
  | [], i, _, _, h => by simp at h
theorem hasSt_keys {k : Book} {kvs : List (List Int × Dat)} (h : hasSt k (.dic kvs) = true) : ∀ {kv : List Int × Dat}, kv ∈ kvs → kv.1 ∈ sts k := fun {kv} hkv => by
  have h' := h
  rw [hasSt_dic, Bool.and_eq_true, List.all_eq_true] at h'
  have hp := perm_subset (m := sts k) (l := kvs.map (·.1)) (nodup_states _) (fun s hs => (valD_key kvs s).mp (h'.2 s hs)) (by rw [List.length_map]; exact of_decide_eq_true h'.1)
  exact hp.mem_iff.mp (List.mem_map_of_mem hkv)
section
variable {X : Cx} {c : Cz} {ρ : List Sl} {S S1 : List Ct} {e : Expr} {es : List Expr} {pos p : Pos} {kvs : List (List Int × Dat)}
theorem de_sortedKv (hu : X.A.units + 64 < cLine) (hm : X.mg "sorted" = none) (h : DA X c ρ S (e :: es) [.d (.dic kvs)] S1) (ok : KvP kvs) (hc : X.calm = true := by rfl) (hg : Gl X "sorted" := by rfl)
    (he : starEach (e :: es) X.env = (false, eval e X.env) :: starEach es X.env := by rfl) (hpl : (backTo pos (starEach es X.env)).any (·.1) = false := by rfl) :
    DE X c ρ S (.Call (.Name "sorted" p) (e :: es) [] pos) (.d (.lst (((kvs.map (·.1)).mergeSort leS).map .st))) S1 := by
  rw [← sortK_eq]
  exact de_sortedD hu hm h ok.few (keys_alike kvs) (keys_tup ok.ne) hc hg he hpl
end
section
variable {P : Program} {w : World} {K : PySem.W.Frag} {mg : Str → Option Value} {base : Heap}
def R_law_are (ds : List Dat) (r : Dat) : Prop := ∃ (k : Book) (d : Dat), BookOk k ∧ (∀ kvs, d = .dic kvs → KvP kvs ∧ ∀ x ∈ kvs, TameV x.2) ∧ ds = [d, bookD k] ∧ r = .bl (areW k d)
theorem ok_law_are_worths (F : FT K mg "_law_are_worths" s__law_are_worths P__law_are_worths) (z : Zb mg) (c__law_states : Cal P w K mg base 1 "_law_states" (spP K R_all_states)) (c__law_is_fraction : Cal P w K mg base 2 "_law_is_fraction" (spP K R_is_fraction)) : Cal P w K mg base 3 "_law_are_worths" (spP K R_law_are) := by
  obtain ⟨f, fd, F, gm, hb⟩ := F.ex
  refine cal_of F gm hb sc__law_are_worths (by decide) (fun ds r ⟨_, _, _, _, h, _⟩ => by rw [h]; rfl) fun cdv A outer s H E hr c ds r hR => ?_
  obtain ⟨k, d, hk0, ht, rfl, rfl⟩ := hR
  have hu := hr.units
  have few := sts_few hk0
  cases hd : isDicT d with
  | false =>
    have e2 : areW k d = false := by cases d <;> first | rfl | cases hd
    refine dss_cons (ds_if (dw_dt (dw_or (k2 := false) (dt_not (dt_val (de_isi z.isinstance z.dict (de_var 0 rfl) (kit_dict d) boot_dict'))) fun hk => absurd hk (by rw [hd]; decide))) (fun hk => ?_) fun hk => ?_)
    · refine dss_cons (ds_ret de_bl ?_)
      rw [e2]; rfl
    · rw [hd] at hk; cases hk
  | true =>
    obtain ⟨kvs, rfl⟩ : ∃ kvs, d = .dic kvs := by cases d <;> first | exact ⟨_, rfl⟩ | (cases hd; done)
    obtain ⟨kp, tm⟩ := ht kvs rfl
    refine dss_cons (ds_if (dw_dt (dw_or (dt_not (dt_val (de_isi z.isinstance z.dict (de_var 0 rfl) (kit_dict _) boot_dict'))) fun hk => (dw_or1 (dt_cmp (de_sortedKv hu z.sorted (da_cons (de_var 0 rfl) da_nil) kp) (de_call c__law_states (hr.mono (by decide)) (da_cons (de_var 1 rfl) da_nil) (by walk_at "dats") ⟨k, hk0, rfl, rfl⟩) (od_neSts hu ((kvs.map (·.1)).mergeSort leS) (sts k)))))) (fun hk => ?_) fun hk => ?_)
    · rw [sorted_has k kp.nd] at hk
      refine dss_cons (ds_ret de_bl ?_)
      have e1 : hasSt k (.dic kvs) = false := by cases e1 : hasSt k (.dic kvs) <;> first | rfl | (rw [e1] at hk; exact ff hk)
      rw [areW_dic, e1]
      rfl
    · rw [sorted_has k kp.nd] at hk
      have e1 : hasSt k (.dic kvs) = true := by cases e1 : hasSt k (.dic kvs) <;> first | rfl | (rw [e1] at hk; simp [isDicT] at hk)
      have kf := kp.few
      refine dss_nil ?_
      refine dss_cons (ds_ret (de_all (bs := kvs.map fun kv => isFrD kv.2) z.all (da_cons (de_lcKeys 0 ((kvs.map fun kv => isFrD kv.2).map .bl) [("_law_state", 2)] (.one 2) rfl sc__law_are_worths.nd (blkOk_by (N := N__law_are_worths) (sc := defScope s__law_are_worths) (by decide +kernel)) (fun _ _ _ _ _ => pg_one 2 sc__law_are_worths.nd)
        ⟨by unfold keysD; rw [List.length_map]; omega, by unfold keysD; rw [List.length_map, List.length_map, List.length_map], by simp [Tg.own], fun _ => Nat.le_refl _, fun i d zz hd hz => ?_⟩) da_nil)) ?_)
      · unfold keysD at hd
        rw [List.getElem?_map] at hd
        rw [List.getElem?_map, List.getElem?_map] at hz
        cases hkv : kvs[i]? with
        | none => rw [hkv] at hd; cases hd
        | some kv =>
          rw [hkv] at hd hz
          cases hd
          cases hz
          exact ⟨_, .one, fun c => fun s0 H0 C cl fp => de_call c__law_is_fraction (hr.mono (by decide)) (da_cons (de_getD hu (de_var 0 rfl) (de_var 2 rfl) (valD_nd kp.nd hkv)) da_nil) (by walk_at "dats") ⟨kv.2, rfl, (tm kv (List.mem_of_getElem? hkv)).st, rfl⟩⟩
      · show _ = Sl.d (.bl (areW k (.dic kvs)))
        rw [areW_dic, e1, List.all_map]
        rfl
end
end Tw
end
section
set_option Elab.async false
set_option linter.all false
set_option maxRecDepth 100000
set_option maxHeartbeats 1000000
namespace Tw
open PySem PySem.Spec PyProof.Rows L2
open Evl (Ex)
/-- a paper that may be looked at -/
structure Fit (paper : Dat) : Prop where
  st : isSt paper = false
  pl : ∀ pk w, paper = .tup [.dic pk, w] → KvP pk
  wo : ∀ p kvs, paper = .tup [p, .dic kvs] → KvP kvs ∧ ∀ x ∈ kvs, TameV x.2
theorem Fit.tame {paper : Dat} (h : Fit paper) : Tame paper := ⟨h.st, fun p kvs e => (h.wo p kvs e).2⟩
def rowOk (k : Book) (wk : List (List Int × Dat)) (kv : List Int × Dat) : Bool := isBN k.2.length kv.2 && holds k kv.1 (numOf (some kv.2)) fun t => frOf (valD wk t)
theorem judge_rows {k : Book} {pk wk : List (List Int × Dat)} (nd : (pk.map (·.1)).Nodup) (hp : hasSt k (.dic pk) = true) (hw : areW k (.dic wk) = true) : judge k (.tup [.dic pk, .dic wk]) = pk.all (rowOk k wk) := by
  rw [judge_two, isPl_dic, hp, hw, Bool.true_and, Bool.true_and]
  show (pk.all _ && (sts k).all fun s => holds k s (numOf (valD pk s)) fun t => frOf (valD wk t)) = _
  rw [Bool.eq_iff_iff, Bool.and_eq_true, List.all_eq_true, List.all_eq_true, List.all_eq_true]
  constructor
  · rintro ⟨h1, h2⟩ kv hkv
    obtain ⟨i, hi⟩ := List.mem_iff_getElem?.mp hkv
    have h3 := h2 kv.1 (hasSt_keys hp hkv)
    rw [valD_nd nd hi] at h3
    unfold rowOk
    rw [h1 kv hkv, h3]
    rfl
  · intro h
    refine ⟨fun kv hkv => ?_, fun s hs => ?_⟩
    · have h3 := h kv hkv
      unfold rowOk at h3
      rw [Bool.and_eq_true] at h3
      exact h3.1
    · obtain ⟨d, e, _⟩ := hasSt_get hp hs
      obtain ⟨kv, hkv, ek⟩ := List.mem_map.mp ((valD_key pk s).mp (by rw [e]; rfl))
      obtain ⟨i, hi⟩ := List.mem_iff_getElem?.mp hkv
      have h3 := h kv hkv
      unfold rowOk at h3
      rw [Bool.and_eq_true] at h3
      have h4 := valD_nd nd hi
      rw [ek] at h4 h3
      rw [h4]
      exact h3.2
theorem all_take {α : Type} {f : α → Bool} {l : List α} {i : Nat} {x : α} (h : l[i]? = some x) : (l.take (i + 1)).all f = ((l.take i).all f && f x) := by
  rw [List.take_add_one, h, List.all_append]
  simp
theorem all_not {α : Type} {f : α → Bool} {l : List α} {i : Nat} {x : α} (h : l[i]? = some x) (hf : f x = false) : l.all f = false := by
  cases e : l.all f with
  | false => rfl
  | true =>
    rw [List.all_eq_true] at e
    rw [e x (List.mem_of_getElem? h)] at hf
    cases hf
section
variable {P : Program} {w : World} {K : PySem.W.Frag} {mg : Str → Option Value} {base : Heap}
def R_shows (ds : List Dat) (r : Dat) : Prop := ∃ (k : Book) (paper : Dat), BookOk k ∧ Fit paper ∧ ds = [bookD k, paper] ∧ r = .bl (judge k paper)
theorem ok_law_shows (F : FT K mg "_law_shows" s__law_shows P__law_shows) (z : Zb mg) (c__law_states : Cal P w K mg base 1 "_law_states" (spP K R_all_states)) (c__law_are_worths : Cal P w K mg base 3 "_law_are_worths" (spP K R_law_are)) (c__law_tried : Cal P w K mg base 4 "_law_tried" (spP K R_tried)) (c__law_below : Cal P w K mg base 1 "_law_below" (spP K R_below)) : Cal P w K mg base 5 "_law_shows" (spP K R_shows) := by
  obtain ⟨f, fd, F, gm, hb⟩ := F.ex
  refine cal_of F gm hb sc__law_shows (by decide) (fun ds r ⟨_, _, _, _, h, _⟩ => by rw [h]; rfl) fun cdv A outer s H E hr c ds r hR => ?_
  obtain ⟨k, d, hk0, tm, rfl, rfl⟩ := hR
  have hu := hr.units
  have few := sts_few hk0
  have kf := hk0.few
  have hst := tm.st
  cases ht : isTupT d with
  | false =>
    have e : judge k d = false := by cases d <;> first | rfl | cases ht
    refine dss_cons (ds_if (dw_dt (dw_or (k2 := false) (dt_not (dt_val (de_isi z.isinstance z.tuple (de_var 1 rfl) (kit_tuple d) boot_tuple'))) fun hk => absurd hk (by rw [ht]; decide))) (fun hk => ?_) fun hk => ?_)
    · refine dss_cons (ds_ret de_bl ?_)
      rw [e]; rfl
    · rw [ht] at hk; cases hk
  | true =>
    obtain ⟨ds, rfl⟩ : ∃ ds, d = .tup ds := by cases d <;> first | exact ⟨_, rfl⟩ | (cases hst; done) | (cases ht; done)
    by_cases hl : ds.length = 2
    · obtain ⟨p, wt, rfl⟩ := len2 hl
      refine dss_cons (ds_if (dw_dt (dw_or (dt_not (dt_val (de_isi z.isinstance z.tuple (de_var 1 rfl) (kit_tuple _) boot_tuple'))) fun hk => (dw_or (dt_cmp (de_len z.len (da_cons (de_var 1 rfl) da_nil) rfl) de_int od_ne) fun hk => (dw_or1 (dt_not (dt_val (de_isi z.isinstance z.dict (de_ix (de_var 1 rfl) de_int (ix_t (atI_at 0 rfl))) (kit_dict p) boot_dict'))))))) (fun hk => ?_) fun hk => ?_)
      · refine dss_cons (ds_ret de_bl ?_)
        have hd : isDicT p = false := by cases e : isDicT p <;> first | rfl | (rw [e] at hk; exact ff hk)
        rw [judge_two, show isPl k p = false by cases p <;> first | rfl | (cases hd; done)]
        rfl
      · have hd : isDicT p = true := by cases e : isDicT p <;> first | rfl | (rw [e] at hk; simp [isTupT] at hk)
        obtain ⟨pk, rfl⟩ : ∃ kvs, p = .dic kvs := by cases p <;> first | exact ⟨_, rfl⟩ | (cases hd; done)
        have kp := tm.pl pk wt rfl
        have kpf := kp.few
        refine dss_nil ?_
        refine dss_cons (ds_unpack (T := .two 2 3) (pg_two 2 3 sc__law_shows.nd) (de_var 1 rfl) .two ?_)
        refine dss_cons (ds_if (dw_dt (dw_or (dt_cmp (de_sortedKv hu z.sorted (da_cons (de_var 2 rfl) da_nil) kp) (de_call c__law_states (hr.mono (by decide)) (da_cons (de_var 0 rfl) da_nil) (by walk_at "dats") ⟨k, hk0, rfl, rfl⟩) (od_neSts hu ((pk.map (·.1)).mergeSort leS) (sts k))) fun hk => (dw_or1 (dt_not (dt_val (de_call c__law_are_worths (hr.mono (by decide)) (da_cons (de_var 3 rfl) (da_cons (de_var 0 rfl) da_nil)) (by walk_at "dats") ⟨k, wt, hk0, fun kvs e => tm.wo (.dic pk) kvs (by rw [e]), rfl, rfl⟩)))))) (fun hk => ?_) fun hk => ?_)
        · rw [sorted_has k kp.nd] at hk
          refine dss_cons (ds_ret de_bl ?_)
          rw [judge_two, isPl_dic]
          cases h1 : hasSt k (.dic pk) with
          | false => rfl
          | true =>
            cases h2 : areW k wt with
            | false => rw [Bool.false_and, Bool.and_false]; rfl
            | true => rw [h1, h2] at hk; exact ff hk
        · rw [sorted_has k kp.nd] at hk
          have h1 : hasSt k (.dic pk) = true := by cases h : hasSt k (.dic pk) <;> first | rfl | (rw [h] at hk; simp at hk)
          have h2 : areW k wt = true := by cases h : areW k wt <;> first | rfl | (rw [h] at hk; simp at hk)
          obtain ⟨wk, rfl, hW⟩ := areW_get h2 fun kvs e => (tm.wo (.dic pk) kvs (by rw [e])).2
          have jr := judge_rows kp.nd h1 h2
          rw [jr]
          refine dss_nil ?_
          refine dss_cut (fun ρ S => pk.all (rowOk k wk) = true ∧ ∃ a b x y z, ρ = [.d (bookD k), x, y, z, .un, a, b, .un, .un]) (ds_forKeys 2 (T := .one 4) rfl (pg_one 4 sc__law_shows.nd) (fun i ρ S => ∃ a b, ρ = [.d (bookD k), .d (.tup [.dic pk, .dic wk]), .d (.dic pk), .d (.dic wk), .un, a, b, .un, .un] ∧ S = [] ∧ (pk.take i).all (rowOk k wk) = true) ?_ ?_ ?_ ?_) ?_
          · rintro i ρ S ⟨_, _, rfl, rfl, _⟩; exact Nat.le_refl _
          · exact ⟨_, _, ⟨by walk_at "lel", [], rfl⟩, .un, .un, rfl, rfl, rfl⟩
          · rintro c i d ρ S hd ⟨a, b, rfl, rfl, hI⟩
            unfold keysD at hd
            rw [List.getElem?_map] at hd
            cases hkv : pk[i]? with
            | none => rw [hkv] at hd; cases hd
            | some kv =>
              rw [hkv] at hd
              cases hd
              obtain ⟨s, v⟩ := kv
              have hs : s ∈ sts k := hasSt_keys h1 (List.mem_of_getElem? hkv)
              have hv := valD_nd kp.nd hkv
              have sl0 := sts_slen hs
              refine ⟨_, .one, ?_⟩
              refine dss_cons (ds_set 5 (de_getD hu (de_var 2 rfl) (de_var 4 rfl) hv) ?_ sc__law_shows.nd)
              cases hi : isIntT v with
              | false =>
                have e : isBN k.2.length v = false := by cases v <;> first | rfl | cases hi
                refine dss_cons (ds_if (dw_dt (dw_or (k2 := false) (dt_not (dt_val (de_isi z.isinstance z.int (de_var 5 rfl) (kit_int v) boot_int'))) fun hk => absurd hk (by rw [hi]; decide))) (fun hk => ?_) fun hk => ?_)
                · refine dss_cons (ds_ret de_bl ?_)
                  rw [all_not hkv (by unfold rowOk; rw [e]; rfl)]
                  rfl
                · rw [hi] at hk; cases hk
              | true =>
                cases hbl : isBlT v with
                | true =>
                  have e : isBN k.2.length v = false := by cases v <;> first | rfl | cases hbl
                  refine dss_cons (ds_if (dw_dt (dw_or (dt_not (dt_val (de_isi z.isinstance z.int (de_var 5 rfl) (kit_int v) boot_int'))) fun hk => (dw_or (k2 := false) (dt_val (de_isi z.isinstance z.bool (de_var 5 rfl) (kit_bool v) boot_bool')) fun hk => absurd hk (by rw [hbl]; decide)))) (fun hk => ?_) fun hk => ?_)
                  · refine dss_cons (ds_ret de_bl ?_)
                    rw [all_not hkv (by unfold rowOk; rw [e]; rfl)]
                    rfl
                  · rw [hi, hbl] at hk; cases hk
                | false =>
                  obtain ⟨n, rfl⟩ : ∃ n, v = .int n := by cases v <;> first | exact ⟨_, rfl⟩ | (cases hi; done) | (cases hbl; done)
                  have eb : isBN k.2.length (.int n) = (decide (0 ≤ n) && decide (n < ((k.2.length : Nat) : Int))) := rfl
                  refine dss_cons (ds_if (dw_dt (dw_or (dt_not (dt_val (de_isi z.isinstance z.int (de_var 5 rfl) (kit_int _) boot_int'))) fun hk => (dw_or (dt_val (de_isi z.isinstance z.bool (de_var 5 rfl) (kit_bool _) boot_bool')) fun hk => (dw_or (dt_cmp (de_var 5 rfl) de_int od_lt) fun hk => (dw_or1 (dt_cmp (de_var 5 rfl) (de_len z.len (da_cons (de_var 4 rfl) da_nil) (d := .st s) rfl) od_ge)))))) (fun hk => ?_) fun hk => ?_)
                  · refine dss_cons (ds_ret de_bl ?_)
                    rw [all_not hkv (by
                      unfold rowOk
                      rw [eb]
                      by_cases g1 : 0 ≤ n
                      · by_cases g2 : n < ((k.2.length : Nat) : Int)
                        · rw [decide_eq_false (by omega), decide_eq_false (by omega)] at hk
                          exact ff hk
                        · rw [decide_eq_false g2, Bool.and_false]; rfl
                      · rw [decide_eq_false g1]; rfl)]
                    rfl
                  · have g1 : 0 ≤ n := by
                      by_cases g1 : 0 ≤ n
                      · exact g1
                      · rw [decide_eq_true (show n < 0 by omega)] at hk
                        simp [isIntT, isBlT] at hk
                    have g2 : n < ((k.2.length : Nat) : Int) := by
                      by_cases g2 : n < ((k.2.length : Nat) : Int)
                      · exact g2
                      · rw [decide_eq_true (show ((s.length : Nat) : Int) ≤ n by omega)] at hk
                        simp [isIntT, isBlT] at hk
                    have en : n = ((n.toNat : Nat) : Int) := by omega
                    have hn : n.toNat < k.2.length := by omega
                    have eb2 : isBN k.2.length (.int n) = true := by rw [eb, decide_eq_true g1, decide_eq_true g2]; rfl
                    have er : rowOk k wk (s, .int n) = holds k s n.toNat fun t => frOf (valD wk t) := by
                      unfold rowOk
                      rw [eb2, Bool.true_and]
                      rfl
                    have at' := all_take (f := rowOk k wk) hkv
                    generalize hWf : (fun t => frOf (valD wk t)) = W at hW er
                    obtain ⟨w1, w2⟩ := hW.at' _ hs
                    refine dss_nil ?_
                    refine dss_cons (ds_setLc 6 ((List.range s.length).map fun bn => frD (tried k s bn W)) (fun _ => []) [("_law_other", 7)] (.one 7) (sw_true rfl rfl rfl (by decide +kernel)) (di_range1 z.range (de_len z.len (da_cons (de_var 4 rfl) da_nil) (d := .st s) rfl) (by omega) (by omega)) sc__law_shows.nd (blkOk_by (N := N__law_shows) (sc := defScope s__law_shows) (by decide +kernel)) (fun _ _ _ _ _ => pg_one 7 sc__law_shows.nd)
                      ⟨by rw [nums_len]; omega, by rw [nums_len, List.length_map, List.length_range]; omega, by simp [Tg.own], fun _ => Nat.le_refl _, fun j d zz hd hz => ?_⟩ ?_)
                    · obtain ⟨hj, ed⟩ := of_nums hd
                      have hj' : j < s.length := by omega
                      have e0 : (0 : Int) + ((j : Nat) : Int) = ((j : Nat) : Int) := by omega
                      rw [e0] at ed
                      subst ed
                      rw [List.getElem?_map, List.getElem?_range hj'] at hz
                      cases hz
                      exact ⟨_, .one, fun c => fun s0 H0 C cl fp => de_call c__law_tried (hr.mono (by decide)) (da_cons (de_var 0 rfl) (da_cons (de_var 4 rfl) (da_cons (de_var 7 rfl) (da_cons (de_var 3 rfl) da_nil)))) (by walk_at "dats") ⟨k, s, j, wk, W, 1200, hk0, hs, by omega, hW, rfl, rfl⟩⟩
                    · refine dss_cons (ds_if (dw_dt (dw_or (dt_cmp (de_ix (de_var 6 rfl) (de_var 5 rfl) (ix_l (d := frD (tried k s n.toNat W)) (by rw [en]; exact atI_at n.toNat (by rw [List.getElem?_map, List.getElem?_range (by omega)]; rfl)))) (de_getD hu (de_var 3 rfl) (de_var 4 rfl) w1) (od_neD hu rfl rfl rfl rfl)) fun hk => (dw_or1 (dt_val (de_any (bs := (List.range s.length).map fun bn => fLt (W s) (tried k s bn W)) z.any (da_cons (de_lc (((List.range s.length).map fun bn => fLt (W s) (tried k s bn W)).map .bl) (fun _ => []) [("_law_one", 8)] (.one 8) (di_list (de_var 6 rfl)) sc__law_shows.nd (blkOk_by (N := N__law_shows) (sc := defScope s__law_shows) (by decide +kernel)) (fun _ _ _ _ _ => pg_one 8 sc__law_shows.nd)
                        ⟨by rw [List.length_map, List.length_range]; omega, by rw [List.length_map, List.length_map, List.length_map], by simp [Tg.own], fun _ => Nat.le_refl _, fun j d zz hd hz => ?_⟩) da_nil)))))) (fun hk => ?_) fun hk => ?_)
                      · rw [List.getElem?_map] at hd
                        rw [List.getElem?_map, List.getElem?_map] at hz
                        cases hj : (List.range s.length)[j]? with
                        | none => rw [hj] at hd; cases hd
                        | some j' =>
                          rw [hj] at hd hz
                          cases hd
                          cases hz
                          have hj' := List.mem_range.mp (List.mem_of_getElem? hj)
                          have tf := tried_fb hk0 hW hs (bn := j') (by omega)
                          exact ⟨_, .one, fun c => fun s0 H0 C cl fp => de_call c__law_below (hr.mono (by decide)) (da_cons (de_getD hu (de_var 3 rfl) (de_var 4 rfl) w1) (da_cons (de_var 8 rfl) da_nil)) (by walk_at "dats") ⟨W s, tried k s j' W, 1200, 5 * 1200 + 40, w2, tf, by decide, by decide, by decide, rfl, rfl⟩⟩
                      · refine dss_cons (ds_ret de_bl ?_)
                        rw [all_not hkv (by
                          rw [er]
                          unfold holds
                          rw [eqv_fr] at hk
                          cases g1 : decide (tried k s n.toNat W = W s) with
                          | false => rfl
                          | true =>
                            rw [g1] at hk
                            cases g2 : ((List.range s.length).map fun bn => fLt (W s) (tried k s bn W)).any id with
                            | true => rfl
                            | false => rw [g2] at hk; exact ff hk)]
                        rfl
                      · have eh : holds k s n.toNat W = true := by
                          unfold holds
                          rw [eqv_fr] at hk
                          cases g1 : decide (tried k s n.toNat W = W s) with
                          | false => rw [g1] at hk; simp at hk
                          | true =>
                            rw [g1] at hk
                            cases g2 : ((List.range s.length).map fun bn => fLt (W s) (tried k s bn W)).any id with
                            | true => rw [g2] at hk; simp at hk
                            | false => rfl
                        refine dss_nil (dss_nil ⟨[.d (bookD k), .d (.tup [.dic pk, .dic wk]), .d (.dic pk), .d (.dic wk), .un, .d (.int n), .d (.lst ((List.range s.length).map fun bn => frD (tried k s bn W))), .un, .un], [], ⟨by walk_at "lel", [], rfl⟩, _, _, rfl, rfl, ?_⟩)
                        rw [at', hI, er, eh]
                        rfl
          · rintro ρ S ⟨a, b, rfl, rfl, hI⟩
            unfold keysD at hI
            rw [List.length_map, List.take_length] at hI
            exact ⟨hI, _, _, _, _, _, rfl⟩
          · rintro ρ S ⟨hI, _, _, _, _, _, rfl⟩
            refine dss_cons (ds_ret de_bl ?_)
            rw [hI]
            rfl
    · have e : judge k (.tup ds) = false := by
        match ds, hl with
        | [], _ => rfl
        | [_], _ => rfl
        | [_, _], h => exact absurd rfl h
        | _ :: _ :: _ :: _, _ => rfl
      have hk1 : decide (((ds.length : Nat) : Int) = 2) = false := decide_eq_false (by omega)
      refine dss_cons (ds_if (dw_dt (dw_or (dt_not (dt_val (de_isi z.isinstance z.tuple (de_var 1 rfl) (kit_tuple _) boot_tuple'))) fun hk => (dw_or (k2 := false) (dt_cmp (de_len z.len (da_cons (de_var 1 rfl) da_nil) rfl) de_int od_ne) fun hk => absurd hk (by rw [hk1]; decide)))) (fun hk => ?_) fun hk => ?_)
      · refine dss_cons (ds_ret de_bl ?_)
        rw [e]; rfl
      · rw [hk1] at hk
        simp at hk
end
end Tw
end
section
set_option Elab.async false
set_option linter.all false
set_option maxRecDepth 100000
set_option maxHeartbeats 1000000
/-! sorted(d.items()) of a dict of one's own. -/
namespace Tw
open PySem PySem.Spec PyProof.Rows L2
open Evl (Ex)
open PySem.W (EachIs dataLe AllAlike Sortable)
open L2.DX (itemsO mt_itemsT)
theorem AtKv.vals {K : PySem.W.Frag} {H : Hp} : ∀ {ws : List (List Key × V)} {kvs : List (List Int × Dat)}, AtKv K H ws kvs → AtAll K H (ws.map (·.2)) (valsD kvs)
  | _, _, .nil => .nil
  | _, _, .cons h t => .cons h (AtKv.vals t)
theorem kt_keysAt {K : PySem.W.Frag} {Hm H : Hp} : ∀ {ws : List (List Key × V)} {xs : List (List Key × Addr × Value)} {kvs : List (List Int × Dat)}, L2.KT H ws xs → AtKv K Hm ws kvs → AtAll K H (xs.map fun x => V.ref x.2.1) (keysD kvs)
  | _, _, _, .nil, .nil => .nil
  | _, _, _, .cons h t, .cons _ u => by
    refine .cons ?_ (kt_keysAt t u)
    have h2 := h.2.1
    rw [kI_kV] at h2
    exact .st h2
theorem keysD_len (kvs : List (List Int × Dat)) : (keysD kvs).length = kvs.length := List.length_map _
theorem valsD_len (kvs : List (List Int × Dat)) : (valsD kvs).length = kvs.length := List.length_map _
def itemsD (kvs : List (List Int × Dat)) : List (Dat × Dat) := (keysD kvs).zip (valsD kvs)
/-- the reading of sorted(d.items()) -/
def rSortItD (K : PySem.W.Frag) : List V → Hp → VK → Prop := fun vs H Q => ∃ (p a : Addr) (ws : List (List Key × V)) (kvs : List (List Int × Dat)) (Hm : Hp), vs = [.ref p] ∧ H p = some (itemsO p a) ∧ H a = some (.dT ws) ∧ RX Hm H ∧ AtKv K Hm ws kvs ∧ kvs.length ≤ 1000 ∧ flatAll (valsD kvs) = true ∧ AllAlike ((itemsD kvs).map encP) ∧ (∀ p ∈ itemsD kvs, (encP p).depth ≤ 32) ∧
  ∀ (H2 : Hp) (D : Addr) (bs : List LP), (∀ b o, H b = some o → H2 b = some o) → H D = none → H2 D = some (.lst (bs.map fun b => V.ref b.a)) → bs.map (fun b => (b.x, b.y)) = sortD (itemsD kvs) →
    (∀ b ∈ bs, H2 b.a = some (.tup [b.p, b.q]) ∧ At K Hm b.q b.y ∧ ∃ ns q, b.p = .ref q ∧ b.x = .st ns ∧ H q = some (.tup (ns.map V.int))) → Q (.ref D) H2
theorem flat_keys : ∀ kvs : List (List Int × Dat), flatAll (keysD kvs) = true
  | [] => rfl
  | kv :: kvs => by
    show (flat (.st kv.1) && flatAll (keysD kvs)) = true
    rw [flat_keys kvs]
    rfl
theorem cr_sortedItD {X : Cx} (hc : X.calm = true) (hu : X.A.units + 64 < cLine) : CallR X (.builtin "sorted") (rSortItD X.K) := by
  intro pins s σ H xs us Q I r h
  obtain ⟨p, a, ws, kvs, Hm, rfl, hp, ha, rx, hkv, hL, hfl, hal, hd, q⟩ := h
  obtain rfl := Vals.ref1 r
  have view : s.heap.IsItemsView p a := (show ObjOk X.prog X.w H s.heap p (itemsO p a) from I.hok p _ hp).1
  obtain ⟨z, hdd, xs', rel, o, es, ep, ho, hx, hdat, hes, his, hn⟩ := L2.dt_of I.hok ha
  have l1 : ws.length = xs'.length := Paired.length rel
  have l0 : ws.length = kvs.length := AtKv.length hkv
  have l2 : es.size = xs'.length := size_of_entries hes
  have hh : X.A.handled = none := I.ok.hd hc
  refine DT.sortedI (es := es) (ep := ep) hh view ⟨o, ho, hx, hdat⟩ (by rw [sizeLine_eq]; omega) fun h' tk as hk hlt hl hG => ?_
  have nd : as.Nodup := List.Pairwise.imp (fun h => Nat.ne_of_lt h) hG.rise
  have ak := kt_keysAt rel hkv
  have av := hkv.vals
  obtain ⟨e1, e2, e3⟩ := mkLP_as (n := kvs.length) (as := as) (ps := xs'.map fun x => V.ref x.2.1) (qs := ws.map (·.2)) (xs := keysD kvs) (ys := valsD kvs) (by omega) (by rw [List.length_map]; omega) (by rw [List.length_map]; omega) (keysD_len _) (valsD_len _)
  generalize hbs : mkLP as (xs'.map fun x => V.ref x.2.1) (ws.map (·.2)) (keysD kvs) (valsD kvs) = bs at e1 e2 e3
  have facts : ∀ b ∈ bs, At X.K Hm b.q b.y ∧ (∃ ns q, b.p = .ref q ∧ b.x = .st ns ∧ H q = some (.tup (ns.map V.int))) ∧ s.heap.objs.size ≤ b.a ∧ (∃ u v, h'.get? b.a = some { cls := .type "tuple", data := .seq #[u, v] } ∧ RelV b.p u ∧ RelV b.q v) ∧ Dp X.K H b.p b.dp ∧ Dp X.K H b.q b.dq := fun b hb => by
    rw [← hbs] at hb
    obtain ⟨j, hj⟩ := List.mem_iff_getElem?.mp hb
    obtain ⟨g1, g2, g3, g4, g5⟩ := mkLP_get hj
    obtain ⟨v, f1, f2⟩ := ak.get g4
    rw [g2] at f1
    cases f1
    obtain ⟨v, f1, f3⟩ := av.get g5
    rw [g3] at f1
    cases f1
    have ha := hG.above b.a (List.mem_of_getElem? g1)
    obtain ⟨en, m1, m2⟩ := hG.pairs j b.a g1
    rw [entry_at hes j] at m1
    rw [List.getElem?_map] at g2 g3
    cases hxj : xs'[j]? with
    | none => rw [hxj] at g2; cases g2
    | some x =>
      rw [hxj] at g2 m1
      have een : entryOfKey (tupleKind (mixKind X.prog X.w)) x = en := Option.some.inj m1
      have ebp : V.ref x.2.1 = b.p := Option.some.inj g2
      obtain ⟨w0, hw0, r1, r2, r3⟩ := L2.DX.pget rel hxj
      rw [hw0] at g3
      have ebq : w0.2 = b.q := Option.some.inj g3
      have g4' := g4
      unfold keysD at g4'
      obtain ⟨kv, hkv', ex⟩ := of_map0 g4'
      rw [ex] at f2
      rw [← ebp] at f2
      cases f2 with
      | st f2' =>
        refine ⟨f3, ⟨kv.1, x.2.1, ebp.symm, ex, f2'⟩, Nat.le_of_lt ha, ⟨.ref x.2.1, x.2.2, ?_, ?_, ?_⟩, ?_, (At.mono rx f3).dp (flatAll_get hfl g5)⟩
        · rw [m2, ← een]; rfl
        · rw [← ebp]; rfl
        · rw [← ebq]; exact r3
        · show Dp X.K H b.p (py b.x)
          rw [← ebp, ex]
          exact At.dp (.st f2') rfl
  have enc2 : bs.map LP.enc = (itemsD kvs).map encP := by
    unfold itemsD
    rw [← e2, List.map_map]
    rfl
  have main := sortPairs I hu (h' := h') (tk := tk) hk (Nat.le_of_lt hlt) (by rw [e1]; exact nd) (fun b hb => (facts b hb).2.2) (by rw [enc2]; exact hal) (by rw [e3]; exact hL) (fun b hb => by
    have : (b.x, b.y) ∈ itemsD kvs := by
      unfold itemsD
      rw [← e2]; exact List.mem_map.mpr ⟨b, hb, rfl⟩
    exact hd _ this) (Q := Q) fun H2 D gr hn hD ht => q H2 D _ gr hn hD (sort_lp e2) fun b hb => by
      have hb' := (List.mergeSort_perm _ _).mem_iff.mp hb
      obtain ⟨f1, f2, _⟩ := facts b hb'
      exact ⟨ht b hb', f1, f2⟩
  rw [e1] at main
  exact main
def sortedItems (kvs : List (List Int × Dat)) : Dat := .lst ((sortD (itemsD kvs)).map fun p => .tup [p.1, p.2])
section
variable {X : Cx} {c : Cz} {ρ : List Sl} {S S1 : List Ct} {o : Expr} {k : Nat} {pos p apos cpos : Pos} {kvs : List (List Int × Dat)}
theorem vw_new0 {K : PySem.W.Frag} {O : List Addr} {H H2 : Hp} {p : Addr} {u : HO} (h : Hs K c O S H) (hp : H p = none) (hu : H2 p = some u) : vw c O S H2 p = some u := by
  rw [vw_of (h.ok.fr H p h.ph hp).1 fun z => ?_]
  · exact hu
  · obtain ⟨u, e1, _⟩ := h.liveSome z
    rw [hp] at e1; cases e1
theorem de_sortedItems (hu : X.A.units + 64 < cLine) (hm : X.mg "sorted" = none) (ho : DE X c ρ S o (.o k) S1) (hk : S1[k]? = some (.m kvs)) (hL : kvs.length ≤ 1000) (hfl : flatAll (valsD kvs) = true) (hal : AllAlike ((itemsD kvs).map encP)) (hd : ∀ p ∈ itemsD kvs, (encP p).depth ≤ 32) (hc : X.calm = true := by rfl) (hg : Gl X "sorted" := by rfl)
    (hbase : attributeBase o "items" X.env (eval o X.env) = eval o X.env := by rfl) (hline : (apos.endLine == cpos.line) = true := by rfl)
    (hs0 : starEach [.Call (.Attribute o "items" apos) [] [] cpos] X.env = (false, eval (.Call (.Attribute o "items" apos) [] [] cpos) X.env) :: starEach [] X.env := by rfl) (hpl : (backTo pos (starEach [] X.env)).any (·.1) = false := by rfl) :
    DE X c ρ S (.Call (.Name "sorted" p) [.Call (.Attribute o "items" apos) [] [] cpos] [] pos) (.d (sortedItems kvs)) S1 :=
  de_of (pe_callB (cr_sortedItD hc hu) hg hm boot_sortedB (pa_cons (pe_bm0 PySem.F.plainAttrs_dict PySem.F.slot_dict_items PySem.F.type_dict_items mt_itemsT pe_tW hbase hline) pa_nil hs0) (by decide) (by decide) hs0 hpl) fun σ H O hs sl Q q => ho σ H O hs sl _ fun v H1 O1 a1 a2 a3 => by
    obtain ⟨pp, e2, e3⟩ := a3
    subst e3
    obtain ⟨us, c1, c2⟩ := a1.cell k pp _ e2 hk
    refine ⟨.inr (.inr (.inl ⟨rfl, .inr ⟨us, c1⟩⟩)), pp, us, rfl, rfl, c1, fun p hp => ?_⟩
    have ex1 : Ex H1 (upd H1 p (itemsO p pp)) := Ex.new hp
    have npp : pp ≠ p := fun z => by rw [z, hp] at c1; cases c1
    refine ⟨p, pp, us, kvs, _, rfl, upd_same, by rw [upd_ne npp]; exact c1, vw_le.trans (RX.ex ex1), c2, hL, hfl, hal, hd, fun H2 D bs gr hn hD hb hall => ?_⟩
    have ex2 : Ex H1 H2 := fun b u e => gr b u (ex1 b u e)
    have q2 := q.step a2
    have hD1 : H1 D = none := by
      cases e : H1 D with
      | none => rfl
      | some u => rw [ex1 D u e] at hn; cases hn
    have hs2 := a1.ex ex2
    refine q2.ex a1 ex2 (.lst (.inl (.inl (vw_new0 a1 hD1 hD))) ?_)
    have eb : (bs.map fun b => Dat.tup [b.x, b.y]) = (sortD (itemsD kvs)).map fun p => Dat.tup [p.1, p.2] := by
      rw [← hb, List.map_map]
      rfl
    rw [← eb]
    refine atall_lp fun b hbm => ?_
    obtain ⟨f1, f2, ns, q', f3, f4, f5⟩ := hall b hbm
    refine .tup (.inl (.inl (hs2.st f1))) (.cons ?_ (.cons (f2.mono (RX.vw_ex ex2)) .nil))
    rw [f3, f4]
    exact .st (hs2.st (gr _ _ f5))
end
end Tw
end
section
set_option Elab.async false
set_option linter.all false
set_option maxRecDepth 100000
set_option maxHeartbeats 1000000
/-! str(data): tuples, lists, dicts in each other. -/
namespace Tw
open PySem PySem.Spec PyProof.Rows L2
open Evl (Ex)
def Rp1 (h : Heap) (u : Value) (d : PyData) : Prop := ∃ as, Reads h u d as ∧ ∀ (P : Program) (w : World), ∃ bs, ReadAtMost h d.depth bs ∧ ReprK P w bs h d.depth u d.shown
def RpA (h : Heap) (us : List Value) (ds : List PyData) : Prop := ∃ as, ReadsAll h us ds as ∧ ∀ (P : Program) (w : World), ∃ bs, ReadAtMost h (PyData.depthAll ds) bs ∧ ReprAllK P w bs h (PyData.depthAll ds) us (PyData.shownAll ds)
theorem rpA_nil (h : Heap) : RpA h [] [] := ⟨[], .nil, fun P w => ⟨[], fun _ z => (nomatch z), .nil⟩⟩
theorem rpA_cons {h : Heap} {u : Value} {us : List Value} {d : PyData} {ds : List PyData} (a : Rp1 h u d) (b : RpA h us ds) : RpA h (u :: us) (d :: ds) := by
  obtain ⟨as1, r1, f1⟩ := a
  obtain ⟨as2, r2, f2⟩ := b
  refine ⟨_, .cons r1 r2, fun P w => ?_⟩
  obtain ⟨b1, m1, k1⟩ := f1 P w
  obtain ⟨b2, m2, k2⟩ := f2 P w
  have e : PyData.depthAll (d :: ds) = max d.depth (PyData.depthAll ds) := by simp only [PyData.depthAll]
  have l1 : d.depth ≤ PyData.depthAll (d :: ds) := by omega
  have l2 : PyData.depthAll ds ≤ PyData.depthAll (d :: ds) := by omega
  refine ⟨b1 ++ b2, (m1.mono l1).append (m2.mono l2), ?_⟩
  have k3 := (k1.more (as' := b1 ++ b2) fun b hb => List.mem_append_left _ hb).level_le l1
  have k4 := ReprAllK.more_le (as' := b1 ++ b2) (fun b hb => List.mem_append_right _ hb) l2 k2
  simp only [PyData.shownAll]
  exact .cons k3 k4
theorem rp_flat {h : Heap} {u : Value} {d : PyData} {as : List Addr} (r : Reads h u d as) (hd : d.hasDict = false) (hs : d.showable = true) (hz : d.shown.length ≤ sizeLine) : Rp1 h u d := ⟨as, r, fun P w => ReprK.of_reads r hs (PyData.noDict_hsm hd) hz⟩
theorem rpA_flat {h : Heap} {us : List Value} {ds : List PyData} {as : List Addr} (r : ReadsAll h us ds as) (hd : PyData.hasDictAll ds = false) (hs : PyData.showableAll ds = true) (hz : ∀ t ∈ PyData.shownAll ds, t.length ≤ sizeLine) : RpA h us ds := ⟨as, r, fun P w => ReprAllK.of_readsAll r hs (fun z => by rw [hd] at z; cases z) hz⟩
theorem keys_noDict : ∀ kvs : List (List Int × Dat), PyData.hasDictAll (pyAll (keysD kvs)) = false
  | [] => by simp only [keysD, List.map_nil, pyAll, PyData.hasDictAll]
  | kv :: kvs => by
    show PyData.hasDictAll (py (.st kv.1) :: pyAll (keysD kvs)) = false
    simp only [PyData.hasDictAll, keys_noDict kvs, Bool.or_false]
    rw [py_st]
    simp only [PyData.hasDict]
    exact ints_noDict kv.1
where
  ints_noDict : ∀ ns : List Int, PyData.hasDictAll (ns.map .int) = false
    | [] => by simp only [List.map_nil, PyData.hasDictAll]
    | n :: ns => by simp only [List.map_cons, PyData.hasDictAll, PyData.hasDict, ints_noDict ns, Bool.or_self]
theorem pyKv_keys : ∀ kvs : List (List Int × Dat), (pyKv kvs).map (·.1) = pyAll (keysD kvs)
  | [] => by simp only [pyKv, List.map_nil, keysD, pyAll]
  | (n, d) :: kvs => by
    rw [pyKv, List.map_cons, pyKv_keys kvs]
    show _ = py (.st n) :: pyAll (keysD kvs)
    rw [py_st]
theorem pyKv_vals : ∀ kvs : List (List Int × Dat), (pyKv kvs).map (·.2) = pyAll (valsD kvs)
  | [] => by simp only [pyKv, List.map_nil, valsD, pyAll]
  | (n, d) :: kvs => by
    rw [pyKv, List.map_cons, pyKv_vals kvs]
    rfl
/-- a dict's keys and values, read -/
theorem dic_at {X : Cx} {pins : List (Addr × Obj)} {σ : L2.St} {H Hm : Hp} {s : Shared} (I : Inv X pins σ H s) {a : Addr} {ws : List (List Key × V)} {kvs : List (List Int × Dat)} (hd : Rd H a (.dT ws)) (hk : AtKv X.K Hm ws kvs) :
    ∃ (o : Obj) (es : Array DictEntry) (ep : Nat) (bs : List V), s.heap.get? a = some o ∧ o.cls = .type "dict" ∧ o.data = .dict es ep ∧ (a == sysModules) = false ∧ AtAll X.K H bs (keysD kvs) ∧ Vals bs (es.toList.map (·.key)) ∧ Vals (ws.map (·.2)) (es.toList.map (·.val)) := by
  obtain ⟨z, lo, xs, rel, o, es, ep, ho, hx, hdat, hes, his, hn⟩ := dt_rd I.hok hd
  refine ⟨o, es, ep, xs.map fun x => V.ref x.2.1, ho, hx.1, hdat, lo, kt_keysAt rel hk, ?_, ?_⟩
  · rw [hes, List.map_map]
    exact vals_maps (fun x : List Key × Addr × Value => V.ref x.2.1) _ xs fun _ _ => rfl
  · rw [hes, List.map_map]
    clear hes his hn hk hd z
    induction rel with
    | nil => exact .nil
    | cons h _ ih => exact .cons h.2.2 ih
section
variable {X : Cx} {pins : List (Addr × Obj)} {σ : L2.St} {H Hm : Hp} {s : Shared}
theorem rp_dict (I : Inv X pins σ H s) {a : Addr} {ws : List (List Key × V)} {kvs : List (List Int × Dat)} (hd : Rd H a (.dT ws)) (hk : AtKv X.K Hm ws kvs) (hs : (py (.dic kvs)).showable = true) (hz : (py (.dic kvs)).shown.length ≤ sizeLine)
    (hv : PyData.showableAll (pyAll (valsD kvs)) = true → (∀ t ∈ PyData.shownAll (pyAll (valsD kvs)), t.length ≤ sizeLine) → ∀ us, Vals (ws.map (·.2)) us → RpA s.heap us (pyAll (valsD kvs))) :
    ∃ (o : Obj) (es : Array DictEntry) (ep : Nat) (as : List Addr), s.heap.get? a = some o ∧ o.cls = .type "dict" ∧ o.data = .dict es ep ∧ (a == sysModules) = false ∧ Reads s.heap (.ref a) (py (.dic kvs)) as ∧
      ∀ (P : Program) (w : World), ∃ bs, ReadAtMost s.heap (PyData.depthKv (pyKv kvs)) bs ∧ a ∉ bs ∧ ReprEntriesK P w bs s.heap (PyData.depthKv (pyKv kvs)) es.toList (PyData.shownKv (pyKv kvs)) := by
  obtain ⟨o, es, ep, bs, ho, hc, hdat, lo, hka, hkv, hvv⟩ := dic_at I hd hk
  have hs' : PyData.showableKv (pyKv kvs) = true := by
    have : (py (.dic kvs)) = .dict (pyKv kvs) := by rw [py]
    rw [this] at hs
    simpa only [PyData.showable] using hs
  have hz' : (dictText (PyData.shownKv (pyKv kvs))).length ≤ sizeLine := by
    have : (py (.dic kvs)) = .dict (pyKv kvs) := by rw [py]
    rw [this] at hz
    simpa only [PyData.shown] using hz
  obtain ⟨s1, s2⟩ := PyData.showableKv_split _ hs'
  have z1 := PyData.shownKv_key_le (pyKv kvs)
  have z2 := PyData.shownKv_val_le (pyKv kvs)
  have g1 := PyData.depthAll_keys_le (pyKv kvs)
  have g2 := PyData.depthAll_vals_le (pyKv kvs)
  have ek := PyData.shownKv_eq (pyKv kvs)
  rw [pyKv_keys] at s1 z1 g1 ek
  rw [pyKv_vals] at s2 z2 g2 ek
  obtain ⟨as0, r0⟩ := Dp.readsAll I _ _ _ (hka.dp (flat_keys kvs)) hkv
  obtain ⟨as1, r1, f1⟩ := rpA_flat r0 (keys_noDict kvs) s1 fun t ht => by
    obtain ⟨p, hp, hl⟩ := z1 t ht
    exact Nat.le_trans hl (Nat.le_trans (dictText_mem_le hp) hz')
  obtain ⟨as2, r2, f2⟩ := hv s2 (fun t ht => by
    obtain ⟨p, hp, hl⟩ := z2 t ht
    exact Nat.le_trans hl (Nat.le_trans (dictText_mem_le hp) hz')) _ hvv
  have r : Reads s.heap (.ref a) (py (.dic kvs)) (a :: as1 ++ as2) := by
    rw [py]
    exact .dict ho hc hdat (by rw [pyKv_keys]; exact r1) (by rw [pyKv_vals]; exact r2)
  refine ⟨o, es, ep, _, ho, hc, hdat, lo, r, fun P w => ?_⟩
  obtain ⟨b1, m1, k1⟩ := f1 P w
  obtain ⟨b2, m2, k2⟩ := f2 P w
  have hm := (m1.mono g1).append (m2.mono g2)
  refine ⟨b1 ++ b2, hm, not_mem_of_deeper r (by rw [py]; simp only [PyData.depth]; omega) hm, ?_⟩
  rw [ek]
  exact ReprEntriesK.of_two es.toList _ _ (ReprAllK.more_le (fun b hb => List.mem_append_left _ hb) g1 k1) (ReprAllK.more_le (fun b hb => List.mem_append_right _ hb) g2 k2)
theorem rp_tup (I : Inv X pins σ H s) {a : Addr} {xs : List V} {ds : List Dat} (hs : SqT X.K H a xs) (hz : (py (.tup ds)).shown.length ≤ sizeLine) (hsh : (py (.tup ds)).showable = true)
    (hv : PyData.showableAll (pyAll ds) = true → (∀ t ∈ PyData.shownAll (pyAll ds), t.length ≤ sizeLine) → ∀ us, Vals xs us → RpA s.heap us (pyAll ds)) :
    ∃ (o : Obj) (its : Array Value) (n : Nat) (as : List Addr), s.heap.get? a = some o ∧ o.cls = .type "tuple" ∧ o.data = .seq its n ∧ Reads s.heap (.ref a) (py (.tup ds)) as ∧
      ∀ (P : Program) (w : World), ∃ bs, ReadAtMost s.heap (PyData.depthAll (pyAll ds)) bs ∧ a ∉ bs ∧ ReprAllK P w bs s.heap (PyData.depthAll (pyAll ds)) its.toList (PyData.shownAll (pyAll ds)) := by
  obtain ⟨its, rv, ⟨o, ho, hc, n, hd⟩, _⟩ := I.tuple hs
  rw [py] at hz hsh ⊢
  have hz' : (tupleText (PyData.shownAll (pyAll ds))).length ≤ sizeLine := by simpa only [PyData.shown] using hz
  obtain ⟨as, r0, f0⟩ := hv (by simpa only [PyData.showable] using hsh) (fun t ht => Nat.le_trans (tupleText_mem_le ht) hz') its rv
  have r : Reads s.heap (.ref a) (.tuple (pyAll ds)) as := .tuple ho hc hd r0
  refine ⟨o, _, n, _, ho, hc, hd, r, fun P w => ?_⟩
  obtain ⟨bs, m, k⟩ := f0 P w
  exact ⟨bs, m, not_mem_of_deeper r (by simp only [PyData.depth]; omega) m, k⟩
theorem rp_lst (I : Inv X pins σ H s) {a : Addr} {xs : List V} {ds : List Dat} (hs : SqL X.K H a xs) (hz : (py (.lst ds)).shown.length ≤ sizeLine) (hsh : (py (.lst ds)).showable = true)
    (hv : PyData.showableAll (pyAll ds) = true → (∀ t ∈ PyData.shownAll (pyAll ds), t.length ≤ sizeLine) → ∀ us, Vals xs us → RpA s.heap us (pyAll ds)) :
    ∃ (o : Obj) (its : List Value) (n : Nat) (as : List Addr), s.heap.get? a = some o ∧ o.cls = .type "list" ∧ o.data = .seq its.toArray n ∧ its.length = (pyAll ds).length ∧ Reads s.heap (.ref a) (py (.lst ds)) as ∧
      ∀ (P : Program) (w : World), ∃ bs, ReadAtMost s.heap (PyData.depthAll (pyAll ds)) bs ∧ a ∉ bs ∧ ReprAllK P w bs s.heap (PyData.depthAll (pyAll ds)) its (PyData.shownAll (pyAll ds)) := by
  obtain ⟨its, rv, ⟨o, n, ho, hc, _, hd⟩, _⟩ := I.list hs
  rw [py] at hz hsh ⊢
  have hz' : (listText (PyData.shownAll (pyAll ds))).length ≤ sizeLine := by simpa only [PyData.shown] using hz
  obtain ⟨as, r0, f0⟩ := hv (by simpa only [PyData.showable] using hsh) (fun t ht => Nat.le_trans (listText_mem_le ht) hz') its rv
  have r : Reads s.heap (.ref a) (.list (pyAll ds)) (a :: as) := .list ho hc hd r0
  have hl : its.length = (pyAll ds).length := by
    obtain ⟨bs, m, k⟩ := f0 X.prog X.w
    have := k.length_eq
    rw [← this, PyData.shownAll_length]
  refine ⟨o, its, n, _, ho, hc, hd, hl, r, fun P w => ?_⟩
  obtain ⟨bs, m, k⟩ := f0 P w
  exact ⟨bs, m, not_mem_of_deeper r (by simp only [PyData.depth]; omega) m, k⟩
mutual
theorem At.rp (I : Inv X pins σ H s) (rx : RX Hm H) : ∀ (d : Dat) (v : V) (u : Value), At X.K Hm v d → RelV v u → (py d).showable = true → (py d).shown.length ≤ sizeLine → Rp1 s.heap u (py d)
  | .non, _, _, h, r, hs, hz => by
    obtain ⟨as, q⟩ := Dp.reads I _ _ _ ((At.mono rx h).dp rfl) r
    exact rp_flat q rfl hs hz
  | .bl _, _, _, h, r, hs, hz => by
    obtain ⟨as, q⟩ := Dp.reads I _ _ _ ((At.mono rx h).dp rfl) r
    exact rp_flat q rfl hs hz
  | .int _, _, _, h, r, hs, hz => by
    obtain ⟨as, q⟩ := Dp.reads I _ _ _ ((At.mono rx h).dp rfl) r
    exact rp_flat q rfl hs hz
  | .str _, _, _, h, r, hs, hz => by
    obtain ⟨as, q⟩ := Dp.reads I _ _ _ ((At.mono rx h).dp rfl) r
    exact rp_flat q rfl hs hz
  | .st ns, _, _, h, r, hs, hz => by
    obtain ⟨as, q⟩ := Dp.reads I _ _ _ ((At.mono rx h).dp rfl) r
    refine rp_flat q ?_ hs hz
    rw [py_st]
    simp only [PyData.hasDict]
    exact keys_noDict.ints_noDict ns
  | .tup ds, _, _, h, r, hs, hz => by
    cases h with
    | tup ha hall =>
      cases r
      obtain ⟨o, its, n, as, ho, hc, hd, q, f⟩ := rp_tup I (rx.t ha) hz hs fun h1 h2 us hu => AtAll.rp I rx ds _ us hall hu h1 h2
      refine ⟨as, q, fun P w => ?_⟩
      obtain ⟨bs, m, na, k⟩ := f P w
      refine ⟨_ :: bs, ReadAtMost.cons q (by rw [py]; simp only [PyData.depth]; omega) m, ?_⟩
      rw [py]
      simp only [PyData.depth, PyData.shown]
      exact ReprK.tuple ho hc hd na k
  | .lst ds, _, _, h, r, hs, hz => by
    cases h with
    | lst ha hall =>
      cases r
      obtain ⟨o, its, n, as, ho, hc, hd, hl, q, f⟩ := rp_lst I (rx.l ha) hz hs fun h1 h2 us hu => AtAll.rp I rx ds _ us hall hu h1 h2
      refine ⟨as, q, fun P w => ?_⟩
      obtain ⟨bs, m, na, k⟩ := f P w
      refine ⟨_ :: bs, ReadAtMost.cons q (by rw [py]; simp only [PyData.depth]; omega) m, ?_⟩
      rw [py]
      simp only [PyData.depth, PyData.shown]
      cases its with
      | nil =>
        have e0 : pyAll ds = [] := List.length_eq_zero_iff.mp hl.symm
        rw [e0]
        simp only [PyData.shownAll, listText_nil]
        exact ReprK.listEmpty ho hc hd
      | cons x l => exact ReprK.list ho hc hd na (by simpa using k.length_eq) fun i y e => k.item i y (by simpa using e)
  | .dic kvs, _, _, h, r, hs, hz => by
    cases h with
    | dic ha hall =>
      cases r
      obtain ⟨o, es, ep, as, ho, hc, hd, lo, q, f⟩ := rp_dict I (rx.rd _ _ ha) hall hs hz fun h1 h2 us hu => AtKv.rp I rx kvs _ us hall hu h1 h2
      refine ⟨as, q, fun P w => ?_⟩
      obtain ⟨bs, m, na, k⟩ := f P w
      refine ⟨_ :: bs, ReadAtMost.cons q (by rw [py]; simp only [PyData.depth]; omega) m, ?_⟩
      rw [py]
      simp only [PyData.depth, PyData.shown]
      exact ReprK.dict ho hc hd lo na k
theorem AtAll.rp (I : Inv X pins σ H s) (rx : RX Hm H) : ∀ (ds : List Dat) (vs : List V) (us : List Value), AtAll X.K Hm vs ds → Vals vs us → PyData.showableAll (pyAll ds) = true → (∀ t ∈ PyData.shownAll (pyAll ds), t.length ≤ sizeLine) → RpA s.heap us (pyAll ds)
  | [], _, _, h, r, _, _ => by
    cases h
    cases r
    rw [pyAll]
    exact rpA_nil _
  | d :: ds, _, _, h, r, hs, hz => by
    cases h with
    | cons h1 h2 =>
      cases r with
      | cons r1 r2 =>
        rw [pyAll] at hs hz ⊢
        simp only [PyData.showableAll, Bool.and_eq_true] at hs
        simp only [PyData.shownAll, List.mem_cons] at hz
        exact rpA_cons (At.rp I rx d _ _ h1 r1 hs.1 (hz _ (.inl rfl))) (AtAll.rp I rx ds _ _ h2 r2 hs.2 fun t ht => hz t (.inr ht))
theorem AtKv.rp (I : Inv X pins σ H s) (rx : RX Hm H) : ∀ (kvs : List (List Int × Dat)) (ws : List (List Key × V)) (us : List Value), AtKv X.K Hm ws kvs → Vals (ws.map (·.2)) us → PyData.showableAll (pyAll (valsD kvs)) = true → (∀ t ∈ PyData.shownAll (pyAll (valsD kvs)), t.length ≤ sizeLine) → RpA s.heap us (pyAll (valsD kvs))
  | [], _, _, h, r, _, _ => by
    cases h
    cases r
    exact rpA_nil _
  | (n, d) :: kvs, _, _, h, r, hs, hz => by
    cases h with
    | cons h1 h2 =>
      cases r with
      | cons r1 r2 =>
        have e : pyAll (valsD ((n, d) :: kvs)) = py d :: pyAll (valsD kvs) := rfl
        rw [e] at hs hz ⊢
        simp only [PyData.showableAll, Bool.and_eq_true] at hs
        simp only [PyData.shownAll, List.mem_cons] at hz
        exact rpA_cons (At.rp I rx d _ _ h1 r1 hs.1 (hz _ (.inl rfl))) (AtKv.rp I rx kvs _ _ h2 r2 hs.2 fun t ht => hz t (.inr ht))
end
end
end Tw
end
section
set_option Elab.async false
set_option linter.all false
set_option maxRecDepth 100000
set_option maxHeartbeats 1000000
/-! str(data): the call; what may be shown. -/
namespace Tw
open PySem PySem.Spec PyProof.Rows L2
open Evl (Ex)
/-- data that may be shown: at most so long, so deep -/
structure Shw (n k : Nat) (d : Dat) : Prop where
  sh : (py d).showable = true
  ln : (py d).shown.length ≤ n
  dp : (py d).depth ≤ k
theorem Shw.fits {n k : Nat} {d : Dat} (h : Shw n k d) (hn : n ≤ 8000000) : (py d).shown.length ≤ sizeLine := by
  have := h.ln
  rw [sizeLine_eq]
  omega
theorem Shw.mono {n m k l : Nat} {d : Dat} (h : Shw n k d) (e : n ≤ m) (f : k ≤ l) : Shw m l d := ⟨h.sh, Nat.le_trans h.ln e, Nat.le_trans h.dp f⟩
theorem shw_int {i : Int} (h : i.natAbs < 2 ^ 1919) : Shw 1921 0 (.int i) := by
  have h1 : i.natAbs.log2 < 1920 := by
    by_cases e : i.natAbs = 0
    · rw [e]; decide
    · exact Nat.lt_of_lt_of_le ((Nat.log2_lt e).mpr h) (by decide)
  refine ⟨?_, ?_, ?_⟩
  · rw [py]; simp only [PyData.showable, decide_eq_true_eq]; exact h1
  · rw [py]; simp only [PyData.shown]; rw [PySem.ofString_length]; exact int_text_length_le (by decide) h1
  · rw [py]; simp only [PyData.depth]; exact Nat.le_refl _
theorem shw_bl (b : Bool) : Shw 8 0 (.bl b) := by
  refine ⟨?_, ?_, ?_⟩
  · rw [py]; simp only [PyData.showable]
  · rw [py]; simp only [PyData.shown]; cases b <;> decide
  · rw [py]; simp only [PyData.depth]; exact Nat.le_refl _
theorem shw_non : Shw 8 0 .non := by
  refine ⟨?_, ?_, ?_⟩
  · rw [py]; simp only [PyData.showable]
  · rw [py]; simp only [PyData.shown]; decide
  · rw [py]; simp only [PyData.depth]; exact Nat.le_refl _
theorem shw_str {x : Str} {n : Nat} (h : (reprText x).length ≤ n) : Shw n 0 (.str x) := by
  refine ⟨?_, ?_, ?_⟩
  · rw [py]; simp only [PyData.showable]
  · rw [py]; simp only [PyData.shown]; exact h
  · rw [py]; simp only [PyData.depth]; exact Nat.le_refl _
theorem shw_all {n k : Nat} : ∀ {ds : List Dat}, (∀ d ∈ ds, Shw n k d) → PyData.showableAll (pyAll ds) = true ∧ ((PyData.shownAll (pyAll ds)).map (·.length)).sum ≤ n * ds.length ∧ PyData.depthAll (pyAll ds) ≤ k ∧ (PyData.shownAll (pyAll ds)).length = ds.length
  | [], _ => by
    rw [pyAll]
    refine ⟨by simp only [PyData.showableAll], by simp [PyData.shownAll], by simp [PyData.depthAll], by simp [PyData.shownAll]⟩
  | d :: ds, h => by
    have h1 := h d List.mem_cons_self
    obtain ⟨a, b, c, e⟩ := shw_all fun x hx => h x (List.mem_cons_of_mem _ hx)
    have g1 := h1.ln
    have g2 := h1.dp
    rw [pyAll]
    refine ⟨by simp only [PyData.showableAll, h1.sh, a, Bool.and_self], ?_, ?_, ?_⟩
    · simp only [PyData.shownAll, List.map_cons, List.sum_cons, List.length_cons]
      rw [Nat.mul_add, Nat.mul_one]
      omega
    · simp only [PyData.depthAll]
      omega
    · simp only [PyData.shownAll, List.length_cons, e]
theorem shw_tup {n k : Nat} {ds : List Dat} (h : ∀ d ∈ ds, Shw n k d) : Shw ((n + 2) * ds.length + 3) (k + 1) (.tup ds) := by
  obtain ⟨a, b, c, e⟩ := shw_all h
  have l := tupleText_len_le (PyData.shownAll (pyAll ds))
  refine ⟨?_, ?_, ?_⟩
  · rw [py]; simp only [PyData.showable]; exact a
  · rw [py]; simp only [PyData.shown]
    rw [Nat.add_mul]
    omega
  · rw [py]; simp only [PyData.depth]; omega
theorem shw_lst {n k : Nat} {ds : List Dat} (h : ∀ d ∈ ds, Shw n k d) : Shw ((n + 2) * ds.length + 3) (k + 1) (.lst ds) := by
  obtain ⟨a, b, c, e⟩ := shw_all h
  have l := listText_len_le (PyData.shownAll (pyAll ds))
  refine ⟨?_, ?_, ?_⟩
  · rw [py]; simp only [PyData.showable]; exact a
  · rw [py]; simp only [PyData.shown]
    rw [Nat.add_mul]
    omega
  · rw [py]; simp only [PyData.depth]; omega
theorem pyAll_ints : ∀ ns : List Int, pyAll (ns.map .int) = ns.map PyData.int
  | [] => by simp [pyAll]
  | n :: ns => by rw [List.map_cons, List.map_cons, pyAll, pyAll_ints ns, py]
theorem shw_st {ns : List Int} (h : ∀ i ∈ ns, i.natAbs < 2 ^ 1919) : Shw (1923 * ns.length + 3) 1 (.st ns) := by
  have z := shw_tup (n := 1921) (k := 0) (ds := ns.map .int) fun d hd => by
    obtain ⟨i, hi, rfl⟩ := List.mem_map.mp hd
    exact shw_int (h i hi)
  rw [List.length_map] at z
  have e : py (.tup (ns.map .int)) = py (.st ns) := by rw [py, pyAll_ints, py_st]
  exact ⟨by rw [← e]; exact z.sh, by rw [← e]; exact z.ln, by rw [← e]; exact z.dp⟩
theorem shw_kv {n m k : Nat} : ∀ {kvs : List (List Int × Dat)}, (∀ x ∈ kvs, Shw n k (.st x.1) ∧ Shw m k x.2) → PyData.showableKv (pyKv kvs) = true ∧ ((PyData.shownKv (pyKv kvs)).map (·.length)).sum ≤ (n + m + 2) * kvs.length ∧ PyData.depthKv (pyKv kvs) ≤ k ∧ (PyData.shownKv (pyKv kvs)).length = kvs.length
  | [], _ => by
    rw [pyKv]
    refine ⟨by simp only [PyData.showableKv], by simp [PyData.shownKv], by simp [PyData.depthKv], by simp [PyData.shownKv]⟩
  | (ns, d) :: kvs, h => by
    obtain ⟨h1, h2⟩ := h (ns, d) List.mem_cons_self
    obtain ⟨a, b, c, e⟩ := shw_kv fun x hx => h x (List.mem_cons_of_mem _ hx)
    have g1 : (PyData.tuple (ns.map .int)).shown.length ≤ n := by have z := h1.ln; rw [py_st] at z; exact z
    have g2 : (PyData.tuple (ns.map .int)).depth ≤ k := by have z := h1.dp; rw [py_st] at z; exact z
    have g3 : (PyData.tuple (ns.map .int)).showable = true := by have z := h1.sh; rw [py_st] at z; exact z
    have g4 : (py d).shown.length ≤ m := h2.ln
    have g5 : (py d).depth ≤ k := h2.dp
    rw [pyKv]
    refine ⟨by simp only [PyData.showableKv, g3, h2.sh, a, Bool.and_self], ?_, ?_, ?_⟩
    · have e2 : ((PyData.tuple (ns.map .int)).shown ++ ": " ++ (py d).shown).length = (PyData.tuple (ns.map .int)).shown.length + 2 + (py d).shown.length := by
        rw [strLen_append, strLen_append]; rfl
      simp only [PyData.shownKv, List.map_cons, List.sum_cons, List.length_cons]
      rw [Nat.mul_add, Nat.mul_one]
      omega
    · simp only [PyData.depthKv]
      omega
    · simp only [PyData.shownKv, List.length_cons, e]
theorem shw_dic {n m k : Nat} {kvs : List (List Int × Dat)} (h : ∀ x ∈ kvs, Shw n k (.st x.1) ∧ Shw m k x.2) : Shw ((n + m + 4) * kvs.length + 3) (k + 1) (.dic kvs) := by
  obtain ⟨a, b, c, e⟩ := shw_kv h
  have l := dictText_len_le (PyData.shownKv (pyKv kvs))
  refine ⟨?_, ?_, ?_⟩
  · rw [py]; simp only [PyData.showable]; exact a
  · rw [py]; simp only [PyData.shown]
    rw [show n + m + 4 = (n + m + 2) + 2 by omega, Nat.add_mul (n + m + 2)]
    omega
  · rw [py]; simp only [PyData.depth]; omega
def txt : Dat → Str
  | .str x => x
  | d => (py d).shown
theorem str_of_shows {h₀ : Heap} {a : Addr} {d : PyData} {prog : Program} {w : World} {A : Around} {E : Value → Shared → Prop} {s : Shared} {Q : Value → Shared → Prop} (S : ∀ (P : Program) (w : World), ∃ T idr, ShowsBy P w h₀ a d T idr) (hg : A.guards = some []) (hu : A.units + (d.depth + 3) < cLine) (hk0 : ∀ b o, h₀.get? b = some o → s.heap.get? b = some o)
    (hQ : ∀ h' u tk, (∀ b o, s.heap.get? b = some o → h'.get? b = some o) → Q (.str d.shown u) { s with heap := h', toks := tk }) : wpAny (model prog w) A (call (.type "str") [.ref a]) Q E s := by
  refine callType_new F.called_str (by decide) (F.typeCall_str_1 _) (F.newCall_str_1 _) (fun obj => F.args_object_init_2 obj _) F.entry_str_new
    (meets_str_new (S := fun B R t => B.guards = some [] ∧ B.units + (d.depth + 2) < cLine ∧ (∀ b o, h₀.get? b = some o → t.heap.get? b = some o) ∧ ∀ h' u tk, (∀ b o, t.heap.get? b = some o → h'.get? b = some o) → R (.ok (.ret (.str d.shown u))) { t with heap := h', toks := tk }) fun P w' B R t h => ?_)
    ⟨hg, by show A.units + 1 + (d.depth + 2) < cLine; omega, hk0, fun h' u tk hk => ⟨typeIs_str _ _ _, hQ h' u tk hk⟩⟩
  obtain ⟨b1, b2, b3, b4⟩ := h
  obtain ⟨T, idr, Z⟩ := S P w'
  refine wpAny_strOf_slot rfl (by show B.units + 1 + 1 < cLine; omega) (Z.typeIs t b3) Z.slotStr Z.slotRepr ?_
  exact Z.call _ _ t _ b1 (by show B.units + 1 + 1 + d.depth < cLine; omega) b3 fun h' u tk hk => ⟨_, _, rfl, b4 h' u tk hk⟩
section
variable {X : Cx} {pins : List (Addr × Obj)} {σ : L2.St} {H Hm : Hp} {s : Shared}
theorem At.shows (I : Inv X pins σ H s) (rx : RX Hm H) {d : Dat} {a : Addr} (h : At X.K Hm (.ref a) d) (hs : (py d).showable = true) (hz : (py d).shown.length ≤ sizeLine) : ∀ (P : Program) (w : World), ∃ T idr, ShowsBy P w s.heap a (py d) T idr := fun P w => by
  cases h with
  | st e =>
    rename_i ns
    obtain ⟨as, q⟩ := Dp.reads I _ _ (.ref a) ((At.mono rx (.st e)).dp rfl) rfl
    refine showsBy_of_reads q hs (PyData.noDict_hsm ?_) hz
    rw [py_st]
    simp only [PyData.hasDict]
    exact keys_noDict.ints_noDict ns
  | tup ha hall =>
    rename_i xs ds
    obtain ⟨o, its, n, as, ho, hc, hd, q, f⟩ := rp_tup I (rx.t ha) hz hs fun h1 h2 us hu => AtAll.rp I rx ds _ us hall hu h1 h2
    obtain ⟨bs, m, na, k⟩ := f P w
    rw [py] at hz ⊢
    refine ⟨"tuple", "tuple.__repr__", F.slot_tuple_repr, F.slot_tuple_str, F.slot_tuple_format, fun t hk => ⟨o, hk _ _ ho, hc⟩, fun A E t Q hg hu hk hQ => ?_⟩
    simp only [PyData.depth] at hu
    simp only [PyData.shown] at hQ hz
    exact call_tuple_reprK ho hc hd na k hg (fun b _ => Clear.nil b) hu hk hQ hz
  | lst ha hall =>
    rename_i xs ds
    obtain ⟨o, its, n, as, ho, hc, hd, hl, q, f⟩ := rp_lst I (rx.l ha) hz hs fun h1 h2 us hu => AtAll.rp I rx ds _ us hall hu h1 h2
    obtain ⟨bs, m, na, k⟩ := f P w
    rw [py] at hz ⊢
    refine ⟨"list", "list.__repr__", F.slot_list_repr.toG, F.slot_list_str, F.slot_list_format, fun t hk => ⟨o, hk _ _ ho, hc⟩, fun A E t Q hg hu hk hQ => ?_⟩
    simp only [PyData.depth] at hu
    simp only [PyData.shown] at hQ hz
    cases its with
    | nil =>
      have e0 : pyAll ds = [] := List.length_eq_zero_iff.mp hl.symm
      rw [e0] at hQ
      simp only [PyData.shownAll, listText_nil] at hQ
      exact call_list_repr_empty ⟨o, hk _ _ ho, hc⟩ (hk _ _ ho) hd (hQ t.heap _ _ fun _ _ e => e)
    | cons x l => exact call_list_reprK ho hc hd na (by simpa using k.length_eq) (fun i y e => k.item i y (by simpa using e)) hg (fun b _ => Clear.nil b) hu hk hQ hz
  | dic ha hall =>
    rename_i ws kvs
    obtain ⟨o, es, ep, as, ho, hc, hd, lo, q, f⟩ := rp_dict I (rx.rd _ _ ha) hall hs hz fun h1 h2 us hu => AtKv.rp I rx kvs _ us hall hu h1 h2
    obtain ⟨bs, m, na, k⟩ := f P w
    rw [py] at hz ⊢
    refine ⟨"dict", "dict.__repr__", F.slot_dict_repr, F.slot_dict_str, F.slot_dict_format, fun t hk => ⟨o, hk _ _ ho, hc⟩, fun A E t Q hg hu hk hQ => ?_⟩
    simp only [PyData.depth] at hu
    simp only [PyData.shown] at hQ hz
    exact call_dict_reprK ho hc hd lo na k hg (fun b _ => Clear.nil b) hu hk hQ hz
theorem call_strD (hu : X.A.units + 64 < cLine) (hg : X.A.guards = some []) : CallR X (.type "str") (fun xs H Q => ∃ (v : V) (d : Dat) (Hm : Hp), xs = [v] ∧ RX Hm H ∧ At X.K Hm v d ∧ Shw 8000000 16 d ∧ Q (.str (txt d)) H) := by
  intro pins s σ H xs us Q I r h
  obtain ⟨v, d, Hm, rfl, rx, ha, sw, q⟩ := h
  obtain ⟨u, rfl, ru⟩ := r.one
  have hz := sw.fits (Nat.le_refl _)
  have hdp := sw.dp
  have big : ∀ a, v = .ref a → At X.K Hm (.ref a) d → txt d = (py d).shown → wpAny (model X.prog X.w) X.A (call (.type "str") [u]) (EP X pins σ Q) X.xe s := fun a e h1 h2 => by
    subst e
    cases ru
    rw [h2] at q
    exact str_of_shows (At.shows I rx h1 sw.sh hz) hg (by omega) (fun _ _ e => e) fun h' t tk hk => ⟨.str (py d).shown, H, I.kept hk, ⟨t, rfl⟩, q⟩
  cases ha with
  | non =>
    cases ru
    exact PySem.P.str_of_none ⟨.str _, H, I.tok _, ⟨_, rfl⟩, q⟩
  | bl b =>
    cases ru
    exact PySem.P.str_of_bool ⟨.str _, H, I.tok _, ⟨_, rfl⟩, by cases b <;> exact q⟩
  | int i =>
    obtain ⟨t, rfl⟩ := ru
    exact PySem.P.str_of_int (by have := sw.sh; rw [py] at this; simpa only [PyData.showable, decide_eq_true_eq] using this) ⟨.str _, H, I.tok _, ⟨_, rfl⟩, q⟩
  | str x =>
    obtain ⟨t, rfl⟩ := ru
    exact PySem.P.str_of_str ⟨.str _, H, I, ⟨_, rfl⟩, q⟩
  | tup h1 h2 => exact big _ rfl (.tup h1 h2) rfl
  | st h1 => exact big _ rfl (.st h1) rfl
  | lst h1 h2 => exact big _ rfl (.lst h1 h2) rfl
  | dic h1 h2 => exact big _ rfl (.dic h1 h2) rfl
end
theorem boot_strT : bootBuiltins "str" = some (.type "str") := by decide +kernel
section
variable {X : Cx} {c : Cz} {ρ : List Sl} {S S1 : List Ct} {e : Expr} {es : List Expr} {pos p : Pos} {d : Dat}
theorem de_strD (hu : X.A.units + 64 < cLine) (hgu : X.A.guards = some []) (hm : X.mg "str" = none) (h : DA X c ρ S (e :: es) [.d d] S1) (sw : Shw 8000000 16 d) (hg : Gl X "str" := by rfl)
    (he : starEach (e :: es) X.env = (false, eval e X.env) :: starEach es X.env := by rfl) (hpl : (backTo pos (starEach es X.env)).any (·.1) = false := by rfl) :
    DE X c ρ S (.Call (.Name "str" p) (e :: es) [] pos) (.d (.str (txt d))) S1 := de_callTy (call_strD hu hgu) hm boot_strT h (fun vs H O hs hv Q q => by
  obtain ⟨v, e1, e2⟩ := hv.one
  exact ⟨v, d, _, e1, vw_le, e2, sw, q.here hs (.str _)⟩) hg (he := he) (hpl := hpl)
end
end Tw
end
section
set_option Elab.async false
set_option linter.all false
set_option maxRecDepth 100000
set_option maxHeartbeats 1000000
/-! dict(d) of a dict whose keys are tuples of numbers: a copy of one's own. -/
namespace Tw
open PySem PySem.Spec PyProof.Rows L2
open Evl (Ex)
theorem kt_keys {H : Hp} {kvs : List (List Key × V)} {xs : List (List Key × Addr × Value)} (r : L2.KT H kvs xs) : xs.map (·.1) = kvs.map (·.1) := by
  induction r with
  | nil => rfl
  | cons h _ ih => rw [List.map_cons, List.map_cons, ih, h.1]
theorem tk_push {P : Program} {w : World} {h : Heap} {k : List Key} {a : Addr} {o : Obj} (x : (tupleKind (mixKind P w)).is h k a) : (tupleKind (mixKind P w)).is (h.push o) k a := by
  obtain ⟨u, items, n, ho, r⟩ := x
  exact ⟨u, items, n, Heap.get?_push_of_some _ ho, r⟩
theorem call_dict_copyT {X : Cx} (hu : X.A.units + 64 < cLine) : CallR X (.type "dict") (fun xs H Q => ∃ a kvs, xs = [V.ref a] ∧ Rd H a (.dT kvs) ∧ (kvs.map fun x => (tupleKind (mixKind X.prog X.w)).hash x.1).Nodup ∧ ∀ p, H p = none → Q (.ref p) (upd H p (.dT kvs))) := by
  intro pins s σ H xs us Q I r h
  obtain ⟨a, kvs, rfl, ha, hn, q⟩ := h
  obtain ⟨u, rfl, rx⟩ := r.one
  cases rx
  obtain ⟨z, lo, ks, pr, dd⟩ := dt_rd I.hok ha
  have lk : kvs.length = ks.length := Paired.length pr
  have hap : (ks.map fun x => (tupleKind (mixKind X.prog X.w)).hash x.1).Nodup := by
    have e := congrArg (fun l => l.map (tupleKind (mixKind X.prog X.w)).hash) (kt_keys pr)
    simp only [List.map_map] at e
    have e' : (ks.map fun x => (tupleKind (mixKind X.prog X.w)).hash x.1) = kvs.map fun x => (tupleKind (mixKind X.prog X.w)).hash x.1 := e
    rw [e']
    exact hn
  have hnd : (ks.map (·.1)).Nodup := dd.nodup
  refine callType_codes (Q₁ := fun obj s₁ => obj = .ref s.heap.objs.size ∧ s₁ = { s with heap := s.heap.push { cls := .type "dict", data := .dict #[] } }) F.kt_called_dict (F.kt_typeCall_dict_1 _) F.entry_dict_init (kt_code_dict_new _ ⟨rfl, rfl⟩) ?_
  rintro obj s₁ ⟨rfl, rfl⟩
  have hnew : (s.heap.push { cls := .type "dict", data := .dict #[] }).DictOfH (tupleKind (mixKind X.prog X.w)) s.heap.objs.size [] := Heap.DictOfH.new s.heap
  have his : ∀ y ∈ ks, (tupleKind (mixKind X.prog X.w)).is (s.heap.push { cls := .type "dict", data := .dict #[] }) y.1 y.2.1 := by
    obtain ⟨_, _, _, _, _, _, _, hi, _⟩ := dd
    exact fun y hy => tk_push (hi y hy)
  have ho' : (s.heap.push { cls := .type "dict", data := .dict #[] }).DictOfH (tupleKind (mixKind X.prog X.w)) a ks := dd.at' (fun o e => Heap.get?_push_of_some _ e) his
  have hdo : s.heap.objs.size ≠ a := by
    obtain ⟨_, _, _, hg, _⟩ := dd
    exact fun e => absurd (Heap.lt_size hg) (by rw [e]; exact Nat.lt_irrefl _)
  refine ⟨hnew.typeIs, F.args_dict_init_2 _ _, ?_⟩
  unfold Builtin.«dict.__init__»
  refine wpAny_bind ?_
  unfold Builtin.Dict.selfAndRest
  refine wpAny_bind (wpAny_notOrdered_dict hnew.typeIs ?_)
  show wpAny _ _ (pure (s.heap.objs.size, [Value.ref a])) _ _ _
  refine wpAny_pure ?_
  show wpAny _ _ (Builtin.Dict.updateFrom "dict.__init__" s.heap.objs.size (.ref a) [] .none) _ _ _
  unfold Builtin.Dict.updateFrom
  refine wpAny_bind (wpAny_typeOf ho'.typeIs ?_)
  rw [if_neg (by decide)]
  refine wpAny_bind ?_
  unfold Builtin.Dict.merge
  refine wpAny_bind ?_
  unfold Builtin.Dict.readDirectly
  refine wpAny_bind (wpAny_isInstance ho'.typeIs isSubtype_dict_dict ?_)
  simp only [Bool.not_true, Bool.false_eq_true, if_false]
  refine wpAny_bind (wpAny_specialOf ho'.typeIs F.slot_dict_iter.lookup (wpAny_pure ?_))
  simp only [beq_self_eq_true, if_true]
  refine wpAny_bind (wpAny_pure ?_)
  refine wpAny_mergeDict_heap (knd := tupleKind (mixKind X.prog X.w)) (hsz := by simp; omega) (by show X.A.units + 1 + 1 < cLine; omega) hdo lo hnew ho' (.inr ⟨fun x hx => IsTupleKey.typeIs (his x hx), hap⟩) fun h' hd' _ hs' => ?_
  show wpAny _ _ (Builtin.Dict.addKeywords s.heap.objs.size [] >>= _) _ _ _
  rw [storedAllH_nil_of_nodup _ hnd] at hd'
  refine wpAny_bind (wpAny_pure (wpAny_pure ⟨rfl, ?_⟩))
  have hk : ∀ b o, s.heap.get? b = some o → h'.get? b = some o := fun b o e => (hs'.2 b (Nat.ne_of_lt (Heap.lt_size e))).trans (Heap.get?_push_of_some _ e)
  have fr := I.hok.fresh (Nat.le_refl _)
  obtain ⟨o, es, ep, g1, g2, g3, g4, _, g5⟩ := hd'
  refine ⟨.ref s.heap.objs.size, upd H s.heap.objs.size (.dT kvs), I.laid (h' := h') (t' := s.toks) hk (Nat.le_refl _) ⟨z, beq_eq_false_iff_ne.mpr (Ne.symm (Nat.ne_of_lt I.big)), ks, pr.keeps fun c ys ec => ?_, o, es, ep, g1, g2, g3, g4, g5⟩, rfl, q _ fr⟩
  rw [upd_ne (ne_of_none ec fr)]; exact ec
/-- what a state's hash comes to -/
def stH (ns : List Int) : Int := reduceHash (Builtin.Tuple.tupleHashOf (ns.map hashInt))
theorem stH_is {P : Program} {w : World} (ns : List Int) : (tupleKind (mixKind P w)).hash (kI ns) = stH ns := by
  show tupleKeyHash (mixKind P w) (kI ns) = _
  unfold tupleKeyHash stH kI
  rw [List.map_map]
  rfl
theorem atkv_keys {K : PySem.W.Frag} {H : Hp} {f : List Key → Int} : ∀ {ws : List (List Key × V)} {kvs : List (List Int × Dat)}, AtKv K H ws kvs → (ws.map fun x => f x.1) = kvs.map fun x => f (kI x.1)
  | _, _, .nil => rfl
  | _, _, .cons _ t => by rw [List.map_cons, List.map_cons, atkv_keys t]
section
variable {X : Cx} {c : Cz} {ρ : List Sl} {S S1 : List Ct} {e : Expr} {es : List Expr} {pos p : Pos} {kvs : List (List Int × Dat)}
/-- dict(d): a new dict of one's own -/
theorem de_dictCopy (hu : X.A.units + 64 < cLine) (hm : X.mg "dict" = none) (h : DA X c ρ S (e :: es) [.d (.dic kvs)] S1) (hh : (kvs.map fun x => stH x.1).Nodup) (hg : Gl X "dict" := by rfl)
    (he : starEach (e :: es) X.env = (false, eval e X.env) :: starEach es X.env := by rfl) (hpl : (backTo pos (starEach es X.env)).any (·.1) = false := by rfl) :
    DE X c ρ S (.Call (.Name "dict" p) (e :: es) [] pos) (.o S1.length) (S1 ++ [.m kvs]) := de_callTy (call_dict_copyT hu) hm boot_dictT h (fun vs H O hs hv Q q => by
  obtain ⟨v, e1, e2⟩ := hv.one
  have e2' : At X.K _ v (.dic kvs) := e2
  cases e2' with
  | @dic a ws _ g1 g2 =>
    refine ⟨a, ws, e1, vw_le.rd _ _ g1, ?_, fun p hp => q.own hs hp rfl ⟨ws, upd_same, g2⟩⟩
    rw [atkv_keys g2]
    simp only [stH_is]
    exact hh) hg (he := he) (hpl := hpl)
end
end Tw
end
section
set_option Elab.async false
set_option linter.all false
set_option maxRecDepth 100000
set_option maxHeartbeats 1000000
/-! dicts of states: put, drop; what may be looked at and shown. -/
namespace Tw
open PySem PySem.Spec PyProof.Rows L2
open Evl (Ex)
structure KOk (ns : List Int) : Prop where
  ne : ns ≠ []
  len : ns.length ≤ 4
  sm : ∀ i ∈ ns, i.natAbs < 2 ^ 100
structure VGd (d : Dat) : Prop where
  tm : TameV d
  sw : Shw 8000 2 d
structure KvG (m : Nat) (kvs : List (List Int × Dat)) : Prop where
  nd : (kvs.map (·.1)).Nodup
  ks : ∀ x ∈ kvs, KOk x.1
  vs : ∀ x ∈ kvs, VGd x.2
  few : kvs.length ≤ m
theorem pow_le {n m : Nat} (h : n ≤ m) : 2 ^ n ≤ 2 ^ m := Nat.pow_le_pow_right (by decide) h
theorem KOk.shw {ns : List Int} (h : KOk ns) : Shw 7695 1 (.st ns) := by
  refine (shw_st fun i hi => Nat.lt_of_lt_of_le (h.sm i hi) (pow_le (by decide))).mono ?_ (Nat.le_refl _)
  have := h.len
  omega
theorem KvG.kvp {m : Nat} {kvs : List (List Int × Dat)} (h : KvG m kvs) (e : m ≤ 1000) : KvP kvs := ⟨h.nd, fun x hx => (h.ks x hx).ne, Nat.le_trans h.few e⟩
theorem KvG.shw {m : Nat} {kvs : List (List Int × Dat)} (h : KvG m kvs) (e : m ≤ 100) : Shw 1600000 3 (.dic kvs) := by
  refine (shw_dic (n := 7695) (m := 8000) (k := 2) fun x hx => ⟨(h.ks x hx).shw.mono (Nat.le_refl _) (by decide), (h.vs x hx).sw⟩).mono ?_ (Nat.le_refl _)
  have h1 := h.few
  have h2 : (7695 + 8000 + 4) * kvs.length ≤ 15699 * 100 := Nat.mul_le_mul (Nat.le_refl _) (by omega)
  omega
theorem put_keys (kvs : List (List Int × Dat)) (ns : List Int) (d : Dat) : (putD kvs ns d).map (·.1) = if ns ∈ kvs.map (·.1) then kvs.map (·.1) else kvs.map (·.1) ++ [ns] := by
  have e : (kvs.any fun kv => decide (kv.1 = ns)) = decide (ns ∈ kvs.map (·.1)) := by
    rw [Bool.eq_iff_iff, List.any_eq_true, decide_eq_true_eq, List.mem_map]
    constructor
    · rintro ⟨x, hx, h⟩; exact ⟨x, hx, of_decide_eq_true h⟩
    · rintro ⟨x, hx, h⟩; exact ⟨x, hx, decide_eq_true h⟩
  unfold putD
  rw [e]
  by_cases h : ns ∈ kvs.map (·.1)
  · rw [if_pos (decide_eq_true h), if_pos h, List.map_map]
    apply List.map_congr_left
    intro x _
    show (if x.1 = ns then (x.1, d) else x).1 = x.1
    split <;> rfl
  · rw [if_neg (by rw [decide_eq_false h]; decide), if_neg h, List.map_append]
    rfl
theorem put_mem {kvs : List (List Int × Dat)} {ns : List Int} {d : Dat} {x : List Int × Dat} (h : x ∈ putD kvs ns d) : x = (ns, d) ∨ x ∈ kvs := by
  unfold putD at h
  split at h
  · obtain ⟨y, hy, e⟩ := List.mem_map.mp h
    by_cases z : y.1 = ns
    · rw [if_pos z] at e
      exact .inl (by rw [← e, z])
    · rw [if_neg z] at e
      exact .inr (e ▸ hy)
  · rcases List.mem_append.mp h with h | h
    · exact .inr h
    · exact .inl (List.mem_singleton.mp h)
theorem KvG.put {m : Nat} {kvs : List (List Int × Dat)} (h : KvG m kvs) {ns : List Int} {d : Dat} (hk : KOk ns) (hv : VGd d) : KvG (m + 1) (putD kvs ns d) := by
  have hl : (putD kvs ns d).length ≤ kvs.length + 1 := by
    have e := congrArg List.length (put_keys kvs ns d)
    rw [List.length_map] at e
    split at e <;> (simp at e; omega)
  refine ⟨?_, fun x hx => ?_, fun x hx => ?_, by have := h.few; omega⟩
  · rw [put_keys]
    split
    · exact h.nd
    · rename_i hn
      rw [List.nodup_append]
      refine ⟨h.nd, by simp, fun a ha b hb => ?_⟩
      rw [List.mem_singleton] at hb
      subst hb
      exact fun e => hn (e ▸ ha)
  · rcases put_mem hx with rfl | hx
    · exact hk
    · exact h.ks x hx
  · rcases put_mem hx with rfl | hx
    · exact hv
    · exact h.vs x hx
theorem KvG.drop {m : Nat} {kvs : List (List Int × Dat)} (h : KvG m kvs) (ns : List Int) : KvG m (dropD kvs ns) := by
  have sub : (dropD kvs ns).Sublist kvs := List.filter_sublist
  exact ⟨h.nd.sublist (sub.map _), fun x hx => h.ks x (sub.subset hx), fun x hx => h.vs x (sub.subset hx), Nat.le_trans sub.length_le h.few⟩
theorem KvG.mono {m n : Nat} {kvs : List (List Int × Dat)} (h : KvG m kvs) (e : m ≤ n) : KvG n kvs := ⟨h.nd, h.ks, h.vs, Nat.le_trans h.few e⟩
/-- of all states -/
theorem kvg_zip {k : Book} (hk : BookOk k) (hm : many k ≤ 18) {ds : List Dat} (hl : ds.length = (sts k).length) (hv : ∀ d ∈ ds, VGd d) : KvG 18 ((sts k).zip ds) := by
  have e1 : ((sts k).zip ds).map (·.1) = sts k := List.map_fst_zip (by omega)
  refine ⟨by rw [e1]; exact nodup_states _, fun x hx => ?_, fun x hx => hv _ (List.of_mem_zip hx).2, ?_⟩
  · have hs := (List.of_mem_zip hx).1
    have sl := sts_slen hs
    have kf := hk.few
    have kp := hk.pos
    refine ⟨fun e => ?_, by omega, fun i hi => ?_⟩
    · rw [e] at sl; simp at sl; omega
    · obtain ⟨j, hj⟩ := List.mem_iff_getElem?.mp hi
      have hjl := (List.getElem?_eq_some_iff.mp hj).1
      have so := sts_ok.mp hs
      cases hn : (sizes k)[j]? with
      | none =>
        have := List.getElem?_eq_none_iff.mp hn
        have := so.1
        omega
      | some n =>
        obtain ⟨a, ha, hb⟩ := so.2 j n hn
        rw [hj] at ha
        cases ha
        unfold sizes at hn
        rw [List.getElem?_map] at hn
        cases hb2 : k.2[j]? with
        | none => rw [hb2] at hn; cases hn
        | some b =>
          rw [hb2] at hn
          cases hn
          have := (hk.bn b (List.mem_of_getElem? hb2)).few
          have hb' : a < b.length := hb
          rw [Int.natAbs_natCast]
          exact Nat.lt_of_lt_of_le (show a < 8 by omega) (pow_le (n := 3) (by decide))
  · rw [List.length_zip, hl, Nat.min_self, sts_len]
    exact hm
theorem vok_int {i : Int} (h : i.natAbs < 2 ^ 1919) : VGd (.int i) := ⟨⟨rfl, nofun⟩, (shw_int h).mono (by decide) (by decide)⟩
theorem vok_non : VGd .non := ⟨⟨rfl, nofun⟩, shw_non.mono (by decide) (by decide)⟩
theorem vok_bl (b : Bool) : VGd (.bl b) := ⟨⟨rfl, nofun⟩, (shw_bl b).mono (by decide) (by decide)⟩
theorem vok_str {x : Str} (h : (reprText x).length ≤ 100) : VGd (.str x) := ⟨⟨rfl, nofun⟩, (shw_str h).mono (by decide) (by decide)⟩
theorem int_bits {a : Int} {n : Nat} (h : a.natAbs < 2 ^ n) (e : n ≤ 1919) : a.natAbs < 2 ^ 1919 := Nat.lt_of_lt_of_le h (pow_le e)
theorem vok_pair {a b : Int} (h1 : a.natAbs < 2 ^ 1200) (h2 : b.natAbs < 2 ^ 1200) : VGd (.tup [.int a, .int b]) := by
  refine ⟨⟨rfl, fun x y e => ?_⟩, ?_⟩
  · cases e; exact ⟨h1, h2⟩
  · exact (shw_tup (n := 1921) (k := 0) fun d hd => by
      rcases List.mem_cons.mp hd with rfl | hd
      · exact shw_int (int_bits h1 (by decide))
      · rcases List.mem_cons.mp hd with rfl | hd
        · exact shw_int (int_bits h2 (by decide))
        · cases hd).mono (by show (1921 + 2) * 2 + 3 ≤ 8000; decide) (by decide)
theorem vok_fr {p : Fr} {n : Nat} (h : Fb n p) (e : n ≤ 1200) : VGd (frD p) := vok_pair (Nat.lt_of_lt_of_le h.top (pow_le e)) (Nat.lt_of_lt_of_le h.bot (pow_le e))
theorem vok_tup3 {a b c : Int} (h1 : a.natAbs < 2 ^ 1200) (h2 : b.natAbs < 2 ^ 1200) (h3 : c.natAbs < 2 ^ 1200) : VGd (.tup [.int a, .int b, .int c]) := by
  refine ⟨⟨rfl, fun x y e => (nomatch e)⟩, ?_⟩
  · exact (shw_tup (n := 1921) (k := 0) fun d hd => by
      rcases List.mem_cons.mp hd with rfl | hd
      · exact shw_int (int_bits h1 (by decide))
      · rcases List.mem_cons.mp hd with rfl | hd
        · exact shw_int (int_bits h2 (by decide))
        · rcases List.mem_cons.mp hd with rfl | hd
          · exact shw_int (int_bits h3 (by decide))
          · cases hd).mono (by show (1921 + 2) * 3 + 3 ≤ 8000; decide) (by decide)
theorem vok_tup1 {a : Int} (h1 : a.natAbs < 2 ^ 1200) : VGd (.tup [.int a]) := by
  refine ⟨⟨rfl, fun x y e => (nomatch e)⟩, ?_⟩
  · exact (shw_tup (n := 1921) (k := 0) fun d hd => by
      rcases List.mem_cons.mp hd with rfl | hd
      · exact shw_int (int_bits h1 (by decide))
      · cases hd).mono (by show (1921 + 2) * 1 + 3 ≤ 8000; decide) (by decide)
theorem vok_lst {ns : List Int} (hl : ns.length ≤ 2) (h : ∀ i ∈ ns, i.natAbs < 2 ^ 1200) : VGd (.lst (ns.map .int)) := by
  refine ⟨⟨rfl, fun x y e => (nomatch e)⟩, ?_⟩
  · refine (shw_lst (n := 1921) (k := 0) fun d hd => by
      obtain ⟨i, hi, rfl⟩ := List.mem_map.mp hd
      exact shw_int (int_bits (h i hi) (by decide))).mono ?_ (by decide)
    rw [List.length_map]
    omega
/-- the paper's worths, its plan -/
def wKv (k : Book) : List (List Int × Dat) := (sts k).zip ((worthsF k (plIdx k)).map frD)
def pKv (k : Book) : List (List Int × Dat) := (sts k).zip ((casts (plIdx k)).map .int)
theorem paper_eq (k : Book) : paperD k = .tup [.dic (pKv k), .dic (wKv k)] := rfl
theorem kvg_worths {k : Book} (hk : BookOk k) (hm : many k ≤ 18) {ps : List Nat} (hp : PlOk k ps) : KvG 18 ((sts k).zip ((worthsF k ps).map frD)) :=
  kvg_zip hk hm (by rw [List.length_map, worthsF_len]) fun d hd => by
    obtain ⟨p, hp', rfl⟩ := List.mem_map.mp hd
    exact vok_fr (worthsF_ok hk hm hp p hp').2 (by decide)
theorem wKv_ok {k : Book} (hk : BookOk k) (hm : many k ≤ 18) : KvG 18 (wKv k) := kvg_worths hk hm (plIdx_ok hk)
theorem plIdx_len (k : Book) : (plIdx k).length = (sts k).length := by unfold plIdx; simp
theorem pKv_ok {k : Book} (hk : BookOk k) (hm : many k ≤ 18) : KvG 18 (pKv k) :=
  kvg_zip hk hm (by rw [List.length_map, casts_len, plIdx_len]) fun d hd => by
    obtain ⟨i, hi, rfl⟩ := List.mem_map.mp hd
    obtain ⟨n, hn, rfl⟩ := List.mem_map.mp hi
    obtain ⟨j, hj⟩ := List.mem_iff_getElem?.mp hn
    have hjl := (List.getElem?_eq_some_iff.mp hj).1
    rw [plIdx_len] at hjl
    obtain ⟨e, hl⟩ := (plIdx_ok hk).at' hjl
    rw [hj] at e
    cases e
    have kf := hk.few
    refine vok_int ?_
    rw [Int.natAbs_natCast]
    exact Nat.lt_of_lt_of_le (show _ < 4 by omega) (pow_le (n := 2) (by decide))
theorem wKv_keys (k : Book) : (wKv k).map (·.1) = sts k := List.map_fst_zip (by rw [List.length_map, worthsF_len]; exact Nat.le_refl _)
theorem pKv_keys (k : Book) : (pKv k).map (·.1) = sts k := List.map_fst_zip (by rw [List.length_map, casts_len, plIdx_len]; exact Nat.le_refl _)
theorem wKv_len (k : Book) : (wKv k).length = (sts k).length := by have e := congrArg List.length (wKv_keys k); rw [List.length_map] at e; exact e
theorem pKv_len (k : Book) : (pKv k).length = (sts k).length := by have e := congrArg List.length (pKv_keys k); rw [List.length_map] at e; exact e
theorem hash_of {k : Book} {kvs : List (List Int × Dat)} (e : kvs.map (·.1) = sts k) (h : ((sts k).map stH).Nodup) : (kvs.map fun x => stH x.1).Nodup := by
  rw [← e, List.map_map] at h
  exact h
def wF (k : Book) (s : List Int) : Fr := frOf (valD (wKv k) s)
theorem wF_get {k : Book} (hk : BookOk k) (hm : many k ≤ 18) {s : List Int} (hs : s ∈ sts k) : valD (wKv k) s = some (frD (wF k s)) ∧ Fb 1110 (wF k s) := by
  have h1 : (valD (wKv k) s).isSome = true := (valD_key _ _).mpr (by rw [wKv_keys]; exact hs)
  obtain ⟨d, e⟩ := Option.isSome_iff_exists.mp h1
  obtain ⟨x, hx, ex⟩ := valD_mem e
  have hd := (List.of_mem_zip hx).2
  rw [ex] at hd
  obtain ⟨p, hp, rfl⟩ := List.mem_map.mp hd
  unfold wF
  rw [e]
  exact ⟨rfl, (worthsF_ok hk hm (plIdx_ok hk) p hp).2⟩
theorem all_menu {k : Book} (h : sizes k ∈ menu) : ((sts k).map stH).Nodup := by
  have hm : ∀ szs ∈ menu, ((statesOf szs).map stH).Nodup := by decide +kernel
  exact hm _ h
/-- the state that a number picks -/
def pick (k : Book) (i : Int) : List Int := stN k (i % ((sts k).length : Nat)).toNat
theorem pick_ok {k : Book} (h : 0 < (sts k).length) (i : Int) : 0 ≤ i % (((sts k).length : Nat) : Int) ∧ (sts k)[(i % (((sts k).length : Nat) : Int)).toNat]? = some (pick k i) ∧ pick k i ∈ sts k := by
  have h1 : 0 ≤ i % (((sts k).length : Nat) : Int) := Int.emod_nonneg _ (by omega)
  have h2 : i % (((sts k).length : Nat) : Int) < ((sts k).length : Nat) := Int.emod_lt_of_pos _ (by omega)
  obtain ⟨g1, g2⟩ := stN_get (k := k) (i := (i % (((sts k).length : Nat) : Int)).toNat) (by omega)
  exact ⟨h1, g1, g2⟩
theorem cut_last {ns : List Int} (h : ns ≠ []) : cutN ns none (some (-1)) = ns.dropLast := by
  have hl : 0 < ns.length := List.length_pos_iff.mpr h
  unfold cutN
  rw [List.dropLast_eq_take]
  have e1 : HT.sIx ns.length 0 none = 0 := rfl
  have e2 : HT.sIx ns.length ns.length (some (-1)) = ns.length - 1 := by
    unfold HT.sIx
    simp
    try omega
  rw [e1, e2]
  rfl
theorem sts_pos {k : Book} (hk : BookOk k) : 0 < (sts k).length := by
  rw [sts_len]
  unfold many
  have h : ∀ (l : List Nat) (a : Nat), 0 < a → (∀ n ∈ l, 0 < n) → 0 < l.foldl (· * ·) a := by
    intro l
    induction l with
    | nil => intro a ha _; exact ha
    | cons n l ih =>
      intro a ha hl
      rw [List.foldl_cons]
      exact ih _ (Nat.mul_pos ha (hl n List.mem_cons_self)) fun m hm => hl m (List.mem_cons_of_mem _ hm)
  refine h _ 1 (by decide) fun n hn => ?_
  unfold sizes at hn
  obtain ⟨b, hb, rfl⟩ := List.mem_map.mp hn
  exact (hk.bn b hb).pos
end Tw
end
section
set_option Elab.async false
set_option linter.all false
set_option maxRecDepth 100000
set_option maxHeartbeats 1000000
namespace Tw
open PySem PySem.Spec PyProof.Rows L2
open Evl (Ex)
open PySem.W (EachIs dataLe AllAlike Sortable)
theorem items_eq (kvs : List (List Int × Dat)) : itemsD kvs = kvs.map fun kv => (Dat.st kv.1, kv.2) := by
  unfold itemsD keysD valsD
  exact List.zip_map'
theorem flat_vals {kvs : List (List Int × Dat)} (h : ∀ x ∈ kvs, flat x.2 = true) : flatAll (valsD kvs) = true := by
  induction kvs with
  | nil => rfl
  | cons x kvs ih =>
    show (flat x.2 && flatAll (valsD kvs)) = true
    rw [h x List.mem_cons_self, ih fun y hy => h y (List.mem_cons_of_mem _ hy)]
    rfl
theorem items_alike {kvs : List (List Int × Dat)} (h : ∀ x ∈ kvs, ∀ y ∈ kvs, PySem.W.alike (py x.2) (py y.2) = true) : AllAlike ((itemsD kvs).map encP) := by
  rw [items_eq, List.map_map]
  intro d hd d' hd'
  obtain ⟨x, hx, rfl⟩ := List.mem_map.mp hd
  obtain ⟨y, hy, rfl⟩ := List.mem_map.mp hd'
  show PySem.W.alike (.tuple [py (.st x.1), py x.2]) (.tuple [py (.st y.1), py y.2]) = true
  have e : PySem.W.alike (py (.st x.1)) (py (.st y.1)) = true := by rw [py_st, py_st]; exact alikeAll_ints _ _
  simp [PySem.W.alike, PySem.W.alikeAll, e, h x hx y hy]
theorem items_depth {m : Nat} {kvs : List (List Int × Dat)} (h : KvG m kvs) : ∀ p ∈ itemsD kvs, (encP p).depth ≤ 32 := by
  intro p hp
  rw [items_eq] at hp
  obtain ⟨x, hx, rfl⟩ := List.mem_map.mp hp
  have h1 := (h.ks x hx).shw.dp
  have h2 := (h.vs x hx).sw.dp
  show (PyData.tuple [py (.st x.1), py x.2]).depth ≤ 32
  simp only [PyData.depth, PyData.depthAll]
  omega
theorem shw_items {m : Nat} {kvs : List (List Int × Dat)} (h : KvG m kvs) (e : m ≤ 100) : Shw 1700000 4 (sortedItems kvs) := by
  have hl : (sortD (itemsD kvs)).length = kvs.length := by
    unfold sortD
    rw [List.length_mergeSort, items_eq, List.length_map]
  refine (shw_lst (n := 16007) (k := 3) fun d hd => ?_).mono ?_ (Nat.le_refl _)
  · obtain ⟨p, hp, rfl⟩ := List.mem_map.mp hd
    unfold sortD at hp
    have hp' := (List.mergeSort_perm _ _).mem_iff.mp hp
    rw [items_eq] at hp'
    obtain ⟨x, hx, rfl⟩ := List.mem_map.mp hp'
    exact (shw_tup (n := 8000) (k := 2) fun d hd => by
      rcases List.mem_cons.mp hd with rfl | hd
      · exact (h.ks x hx).shw.mono (by decide) (by decide)
      · rcases List.mem_cons.mp hd with rfl | hd
        · exact (h.vs x hx).sw
        · cases hd).mono (by show (8000 + 2) * 2 + 3 ≤ 16007; decide) (by decide)
  · rw [List.length_map, hl]
    have h1 := h.few
    have h2 : (16007 + 2) * kvs.length ≤ 16009 * 100 := Nat.mul_le_mul (Nat.le_refl _) (by omega)
    omega
/-- what else may stand for a dict -/
def opts (kvs : List (List Int × Dat)) (x : Str) : List Dat := [sortedItems kvs, .non, .int 0, .str x, .tup [.dic kvs]]
theorem shw_opts {m : Nat} {kvs : List (List Int × Dat)} {x : Str} (h : KvG m kvs) (e : m ≤ 100) (hx : (reprText x).length ≤ 100) (i : Nat) : Shw 1700000 4 ((opts kvs x)[i]?.getD .non) := by
  match i with
  | 0 => exact shw_items h e
  | 1 => exact shw_non.mono (by decide) (by decide)
  | 2 => exact (shw_int (i := 0) (by decide)).mono (by decide) (by decide)
  | 3 => exact (shw_str hx).mono (by decide) (by decide)
  | 4 => exact (shw_tup (n := 1600000) (k := 3) fun d hd => by
      rcases List.mem_cons.mp hd with rfl | hd
      · exact h.shw e
      · cases hd).mono (by show (1600000 + 2) * 1 + 3 ≤ 1700000; decide) (by decide)
  | n + 5 => exact shw_non.mono (by decide) (by decide)
theorem opts_notDic (kvs : List (List Int × Dat)) (x : Str) (i : Nat) : ∀ k, (opts kvs x)[i]?.getD .non ≠ .dic k := by
  intro k
  match i with
  | 0 => exact nofun
  | 1 => exact nofun
  | 2 => exact nofun
  | 3 => exact nofun
  | 4 => exact nofun
  | n + 5 => exact nofun
theorem getD_at {l : List Dat} {i : Nat} (h : i < l.length) : l[i]? = some (l[i]?.getD .non) := by
  rw [List.getElem?_eq_getElem h]
  rfl
theorem atI_mod {l : List Dat} {m : Int} {n : Nat} (hl : l.length = n) (h : 0 < n) : L2.atI l (m % ((n : Nat) : Int)) = some (l[(m % ((n : Nat) : Int)).toNat]?.getD .non) := by
  have h1 : 0 ≤ m % ((n : Nat) : Int) := Int.emod_nonneg _ (by omega)
  have h2 : m % ((n : Nat) : Int) < ((n : Nat) : Int) := Int.emod_lt_of_pos _ (by omega)
  have e : ((((m % ((n : Nat) : Int)).toNat : Nat)) : Int) = m % ((n : Nat) : Int) := by omega
  have z := atI_at (xs := l) (m % ((n : Nat) : Int)).toNat (getD_at (by omega))
  rw [e] at z
  exact z
/-- what else may stand for a worth -/
def some7 (p : Fr) : List Dat := [.tup [.int (2 * p.1), .int (2 * p.2)], .int p.1, .non, .lst [.int p.1, .int p.2], .tup [.int (0 - p.1), .int (0 - p.2)], .tup [.int p.1, .int p.2, .int 0], .str "1/2"]
theorem vg_some7 {p : Fr} {n : Nat} (h : Fb n p) (e : n ≤ 1190) (i : Nat) : VGd ((some7 p)[i]?.getD .non) := by
  have t : p.1.natAbs < 2 ^ 1190 := Nat.lt_of_lt_of_le h.top (pow_le e)
  have b : p.2.natAbs < 2 ^ 1190 := Nat.lt_of_lt_of_le h.bot (pow_le e)
  have up : ∀ {a : Int}, a.natAbs < 2 ^ 1190 → a.natAbs < 2 ^ 1200 := fun z => Nat.lt_of_lt_of_le z (pow_le (by decide))
  have dbl : ∀ {a : Int}, a.natAbs < 2 ^ 1190 → (2 * a).natAbs < 2 ^ 1200 := fun {a} z => by
    have e2 : (2 : Nat) ^ 1191 = 2 ^ 1190 * 2 := Nat.pow_succ 2 1190
    have e3 := pow_le (n := 1191) (m := 1200) (by decide)
    have e4 : (2 * a).natAbs = 2 * a.natAbs := by omega
    omega
  have neg : ∀ {a : Int}, a.natAbs < 2 ^ 1190 → (0 - a).natAbs < 2 ^ 1200 := fun {a} z => by
    have e4 : (0 - a).natAbs = a.natAbs := by omega
    rw [e4]; exact up z
  match i with
  | 0 => exact vok_pair (dbl t) (dbl b)
  | 1 => exact vok_int (int_bits t (by decide))
  | 2 => exact vok_non
  | 3 =>
    refine vok_lst (ns := [p.1, p.2]) (Nat.le_refl 2) fun i hi => ?_
    rcases List.mem_cons.mp hi with rfl | hi
    · exact up t
    · rcases List.mem_cons.mp hi with rfl | hi
      · exact up b
      · cases hi
  | 4 => exact vok_pair (neg t) (neg b)
  | 5 => exact vok_tup3 (up t) (up b) (show (0 : Int).natAbs < _ from Nat.pow_pos (by decide))
  | 6 => exact vok_str (by decide +kernel)
  | n + 7 => exact vok_non
def chg (m : Int) (x : List Int × Dat) : List Int × Dat := (x.1, frD (fAdd (frOf (some x.2)) (m, 1)))
def pickW (k : Book) (n : Int) : List Int := pick k (n / 11)
def bentW (k : Book) (n : Int) : Dat :=
  if n % 11 < 2 then .dic (putD (wKv k) (pickW k n) (frD (fAdd (wF k (pickW k n)) (nf (1 - 2 * (n % 11)) (1 + n / 400 % 1000000)))))
  else if n % 11 = 2 then .dic ((wKv k).map (chg (n / 400 % 3 - 1)))
  else if n % 11 = 3 then worthsD k (lawPs k (cellV [1000000000000000000 + n / 400] 0))
  else if n % 11 = 4 then .dic (dropD (wKv k) (pickW k n))
  else if n % 11 = 5 then .dic (putD (wKv k) (pickW k n ++ [0]) (.tup [.int 0, .int 1]))
  else if n % 11 = 6 then .dic (putD (dropD (wKv k) (pickW k n)) ((pickW k n).dropLast ++ [9]) (frD (wF k (pickW k n))))
  else if n % 11 = 7 then (opts (wKv k) "worths")[(n / 400 % ((5 : Nat) : Int)).toNat]?.getD .non
  else .dic (putD (wKv k) (pickW k n) ((some7 (wF k (pickW k n)))[(n / 400 % ((7 : Nat) : Int)).toNat]?.getD .non))
/-- the dict while all worths are changed -/
def chgAt (k : Book) (m : Int) (i : Nat) : List (List Int × Dat) := ((wKv k).take i).map (chg m) ++ (wKv k).drop i
theorem chgAt_len (k : Book) (m : Int) (i : Nat) : (chgAt k m i).length = (wKv k).length := by
  unfold chgAt
  rw [List.length_append, List.length_map, List.length_take, List.length_drop]
  omega
theorem valD_app {a b : List (List Int × Dat)} {s : List Int} (h : s ∉ a.map (·.1)) : valD (a ++ b) s = valD b s := by
  induction a with
  | nil => rfl
  | cons x a ih =>
    rw [List.map_cons, List.mem_cons, not_or] at h
    rw [List.cons_append, valD_neg fun e => h.1 e.symm]
    exact ih h.2
theorem chgAt_keys (k : Book) (m : Int) (i : Nat) : (chgAt k m i).map (·.1) = (wKv k).map (·.1) := by
  unfold chgAt
  rw [List.map_append, List.map_map]
  conv => rhs; rw [← List.take_append_drop i (wKv k), List.map_append]
  rfl
theorem chgAt_get {k : Book} {m : Int} {i : Nat} {x : List Int × Dat} (h : (wKv k)[i]? = some x) : valD (chgAt k m i) x.1 = some x.2 ∧ putD (chgAt k m i) x.1 (chg m x).2 = chgAt k m (i + 1) := by
  have hi := (List.getElem?_eq_some_iff.mp h).1
  have nd : ((wKv k).map (·.1)).Nodup := by rw [wKv_keys]; exact nodup_states _
  have e : (chgAt k m i)[i]? = some x := by
    unfold chgAt
    rw [List.getElem?_append_right (by rw [List.length_map, List.length_take]; omega), List.length_map, List.length_take, List.getElem?_drop]
    rw [show i + (i - min i (wKv k).length) = i by omega]
    exact h
  have nd2 : ((chgAt k m i).map (·.1)).Nodup := by rw [chgAt_keys]; exact nd
  refine ⟨valD_nd nd2 e, ?_⟩
  have hmem : x.1 ∈ (chgAt k m i).map (·.1) := List.mem_map_of_mem (List.mem_of_getElem? e)
  unfold putD
  rw [if_pos (List.any_eq_true.mpr ⟨x, List.mem_of_getElem? e, decide_eq_true rfl⟩)]
  have key : ∀ (j : Nat) (y : List Int × Dat), (chgAt k m i)[j]? = some y → (y.1 = x.1 ↔ j = i) := fun j y hy => by
    constructor
    · intro hk
      have h1 : ((chgAt k m i).map (·.1))[j]? = some x.1 := by rw [List.getElem?_map, hy, ← hk]; rfl
      have h2 : ((chgAt k m i).map (·.1))[i]? = some x.1 := by rw [List.getElem?_map, e]; rfl
      exact (List.getElem?_inj (List.getElem?_eq_some_iff.mp h1).1 nd2).mp (h1.trans h2.symm)
    · intro hk
      subst hk
      rw [e] at hy
      cases hy
      rfl
  apply List.ext_getElem?
  intro j
  rw [List.getElem?_map]
  by_cases hj : j = i
  · subst hj
    rw [e]
    have e3 : (chgAt k m (j + 1))[j]? = some (chg m x) := by
      unfold chgAt
      rw [List.getElem?_append_left (by rw [List.length_map, List.length_take]; omega), List.getElem?_map, List.getElem?_take, if_pos (by omega), h]
      rfl
    rw [e3]
    show some (if x.1 = x.1 then (x.1, (chg m x).2) else x) = _
    rw [if_pos rfl]
    rfl
  · have same : (chgAt k m (i + 1))[j]? = (chgAt k m i)[j]? := by
      unfold chgAt
      by_cases hlt : j < i
      · rw [List.getElem?_append_left (by rw [List.length_map, List.length_take]; omega), List.getElem?_append_left (by rw [List.length_map, List.length_take]; omega), List.getElem?_map, List.getElem?_map, List.getElem?_take, List.getElem?_take, if_pos (by omega), if_pos hlt]
      · rw [List.getElem?_append_right (by rw [List.length_map, List.length_take]; omega), List.getElem?_append_right (by rw [List.length_map, List.length_take]; omega), List.getElem?_drop, List.getElem?_drop, List.length_map, List.length_map, List.length_take, List.length_take]
        congr 1
        omega
    rw [same]
    cases hy : (chgAt k m i)[j]? with
    | none => rfl
    | some y =>
      have hn : ¬ y.1 = x.1 := fun z => hj ((key j y hy).mp z)
      show some (if y.1 = x.1 then (y.1, (chg m x).2) else y) = some y
      rw [if_neg hn]
theorem chgAt_zero (k : Book) (m : Int) : chgAt k m 0 = wKv k := rfl
theorem chgAt_all (k : Book) (m : Int) : chgAt k m (wKv k).length = (wKv k).map (chg m) := by
  unfold chgAt
  rw [List.take_length, List.drop_length, List.append_nil]
end Tw
end
section
set_option Elab.async false
set_option linter.all false
set_option maxRecDepth 100000
set_option maxHeartbeats 1000000
namespace Tw
open PySem PySem.Spec PyProof.Rows L2
open Evl (Ex)
section
variable {X : Cx} {c : Cz} {ρ : List Sl} {S S1 : List Ct} {e : Expr} {es : List Expr} {pos p : Pos}
theorem de_listOfT {zs : List Dat} (hm : X.mg "list" = none) (h : DA X c ρ S (e :: es) [.d (.tup zs)] S1) (hg : Gl X "list" := by rfl) (he : starEach (e :: es) X.env = (false, eval e X.env) :: starEach es X.env := by rfl) (hpl : (backTo pos (starEach es X.env)).any (·.1) = false := by rfl) :
    DE X c ρ S (.Call (.Name "list" p) (e :: es) [] pos) (.d (.lst zs)) S1 := de_callTy call_list_of hm (by decide +kernel) h (fun vs H O hs hv Q q => by
  obtain ⟨v, e1, h1⟩ := hv.one
  have h1' : At X.K _ v (.tup zs) := h1
  cases h1' with
  | tup a1 a2 =>
    refine ⟨_, _, e1, .inr (vw_le.t a1), fun l hl => ?_⟩
    exact q.ex hs (Ex.new hl) (.lst (.inl (.inl (vw_fresh hs hl))) (a2.mono (RX.vw_ex (Ex.new hl))))) hg (he := he) (hpl := hpl)
end
theorem bw_0 {k : Book} {n : Int} (h : n % 11 < 2) : bentW k n = .dic (putD (wKv k) (pickW k n) (frD (fAdd (wF k (pickW k n)) (nf (1 - 2 * (n % 11)) (1 + n / 400 % 1000000))))) := by unfold bentW; rw [if_pos h]
theorem bw_2 {k : Book} {n : Int} (h : n % 11 = 2) : bentW k n = .dic ((wKv k).map (chg (n / 400 % 3 - 1))) := by unfold bentW; rw [if_neg (by omega), if_pos h]
theorem bw_3 {k : Book} {n : Int} (h : n % 11 = 3) : bentW k n = worthsD k (lawPs k (cellV [1000000000000000000 + n / 400] 0)) := by unfold bentW; rw [if_neg (by omega), if_neg (by omega), if_pos h]
theorem bw_4 {k : Book} {n : Int} (h : n % 11 = 4) : bentW k n = .dic (dropD (wKv k) (pickW k n)) := by unfold bentW; rw [if_neg (by omega), if_neg (by omega), if_neg (by omega), if_pos h]
theorem bw_5 {k : Book} {n : Int} (h : n % 11 = 5) : bentW k n = .dic (putD (wKv k) (pickW k n ++ [0]) (.tup [.int 0, .int 1])) := by unfold bentW; rw [if_neg (by omega), if_neg (by omega), if_neg (by omega), if_neg (by omega), if_pos h]
theorem bw_6 {k : Book} {n : Int} (h : n % 11 = 6) : bentW k n = .dic (putD (dropD (wKv k) (pickW k n)) ((pickW k n).dropLast ++ [9]) (frD (wF k (pickW k n)))) := by unfold bentW; rw [if_neg (by omega), if_neg (by omega), if_neg (by omega), if_neg (by omega), if_neg (by omega), if_pos h]
theorem bw_7 {k : Book} {n : Int} (h : n % 11 = 7) : bentW k n = (opts (wKv k) "worths")[(n / 400 % ((5 : Nat) : Int)).toNat]?.getD .non := by unfold bentW; rw [if_neg (by omega), if_neg (by omega), if_neg (by omega), if_neg (by omega), if_neg (by omega), if_neg (by omega), if_pos h]
theorem bw_8 {k : Book} {n : Int} (h : ¬ n % 11 < 8) : bentW k n = .dic (putD (wKv k) (pickW k n) ((some7 (wF k (pickW k n)))[(n / 400 % ((7 : Nat) : Int)).toNat]?.getD .non)) := by unfold bentW; rw [if_neg (by omega), if_neg (by omega), if_neg (by omega), if_neg (by omega), if_neg (by omega), if_neg (by omega), if_neg (by omega)]
theorem wkv_alike (k : Book) : ∀ x ∈ wKv k, ∀ y ∈ wKv k, PySem.W.alike (py x.2) (py y.2) = true := fun x hx y hy => by
  obtain ⟨p, _, e1⟩ := List.mem_map.mp (List.of_mem_zip hx).2
  obtain ⟨q, _, e2⟩ := List.mem_map.mp (List.of_mem_zip hy).2
  rw [← e1, ← e2]
  show PySem.W.alike (.tuple [.int p.1, .int p.2]) (.tuple [.int q.1, .int q.2]) = true
  simp [PySem.W.alike, PySem.W.alikeAll]
theorem wkv_flat (k : Book) : ∀ x ∈ wKv k, flat x.2 = true := fun x hx => by
  obtain ⟨p, _, e1⟩ := List.mem_map.mp (List.of_mem_zip hx).2
  rw [← e1]
  rfl
theorem frOf_fr (p : Fr) : frOf (some (frD p)) = p := rfl
theorem wkv_fr {k : Book} {x : List Int × Dat} (h : x ∈ wKv k) : ∃ p ∈ worthsF k (plIdx k), x.2 = frD p := by
  obtain ⟨p, hp, e1⟩ := List.mem_map.mp (List.of_mem_zip h).2
  exact ⟨p, hp, e1.symm⟩
section
variable {P : Program} {w : World} {K : PySem.W.Frag} {mg : Str → Option Value} {base : Heap}
def R_bent_worths (ds : List Dat) (r : Dat) : Prop := ∃ (k : Book) (n : Int), BookOk k ∧ many k ≤ 18 ∧ ((sts k).map stH).Nodup ∧ ds = [bookD k, paperD k, .int n] ∧ r = bentW k n
theorem ok_law_bent_worths (F : FT K mg "_law_bent_worths" s__law_bent_worths P__law_bent_worths) (z : Zb mg) (c__law_states : Cal P w K mg base 1 "_law_states" (spP K R_all_states)) (c__law_frac : Cal P w K mg base 2 "_law_frac" (spP K R_nf)) (c__law_plus : Cal P w K mg base 3 "_law_plus" (spP K (R_fr fAdd)))
    (c__law_plan : Cal P w K mg base 2 "_law_plan" (spP K R_law_plan)) (c_plan_worths : Cal P w K mg base 9 "plan_worths" (spP K R_plan_worths)) : Cal P w K mg base 10 "_law_bent_worths" (spP K R_bent_worths) := by
  obtain ⟨f, fd, F, gm, hb⟩ := F.ex
  refine cal_of F gm hb sc__law_bent_worths (by decide) (fun ds r ⟨_, _, _, _, _, h, _⟩ => by rw [h]; rfl) fun cdv A outer s H E hr c ds r hR => ?_
  obtain ⟨k, n, hk0, hm18, hh, rfl, rfl⟩ := hR
  have hu := hr.units
  have few := sts_few hk0
  have wl := wKv_len k
  have sp := sts_pos hk0
  have wok := wKv_ok hk0 hm18
  obtain ⟨pk1, pk2, pk3⟩ := pick_ok sp (n / 11)
  have pk4 : pickW k n ∈ sts k := pk3
  obtain ⟨w1, w2⟩ := wF_get hk0 hm18 pk4
  have w3 := wKv_len k
  have d11 : CDivW n 11 := wdiv (b := 64) (by decide) (by decide) (by decide)
  have d400 : CDivW n 400 := wdiv (b := 64) (by decide) (by decide) (by decide)
  have p18 : CPow 10 18 := ⟨by decide, by decide, by decide⟩
  have p6 : CPow 10 6 := ⟨by decide, by decide, by decide⟩
  have hix : L2.atI ((sts k).map Dat.st) (n / 11 % (((wKv k).length : Nat) : Int)) = some (Dat.st (pickW k n)) := by
    rw [wl]
    have e : ((((n / 11 % (((sts k).length : Nat) : Int)).toNat : Nat)) : Int) = n / 11 % (((sts k).length : Nat) : Int) := by omega
    have a := atI_at (xs := (sts k).map Dat.st) (n / 11 % (((sts k).length : Nat) : Int)).toNat (by rw [List.getElem?_map, pk2]; rfl)
    rw [e] at a
    exact a
  have n11 : 0 ≤ n % 11 := Int.emod_nonneg _ (by decide)
  have m11 : n % 11 < 11 := Int.emod_lt_of_pos _ (by decide)
  have sl0 := sts_slen pk4
  have kf := hk0.few
  have kp := hk0.pos
  refine dss_cons (ds_set 3 (de_dictCopy (kvs := wKv k) hu z.dict (da_cons (de_ix (de_var 1 rfl) de_int (ix_t (atI_at 1 rfl))) da_nil) (hash_of (wKv_keys k) hh)) ?_ sc__law_bent_worths.nd)
  refine dss_cons (ds_set 4 (de_ix (de_call c__law_states (hr.mono (by decide)) (da_cons (de_var 0 rfl) da_nil) (by walk_at "dats") ⟨k, hk0, rfl, rfl⟩) (de_bin (de_bin (de_var 2 rfl) de_int (od_div d11)) (de_lenMo (k := 0) (kvs := wKv k) z.len (da_cons (de_var 3 rfl) da_nil) rfl) (od_mod (by omega))) (ix_l hix)) ?_ sc__law_bent_worths.nd)
  refine dss_cons (ds_set 5 (de_bin (de_var 2 rfl) de_int (od_mod (by decide))) ?_ sc__law_bent_worths.nd)
  refine dss_cons (ds_set 2 (de_bin (de_var 2 rfl) de_int (od_div d400)) ?_ sc__law_bent_worths.nd)
  show DSs _ _ [.d (bookD k), .d (paperD k), .d (.int (n / 400)), .o 0, .d (.st (pickW k n)), .d (.int (n % 11)), .un, .un] [.m (wKv k)] _ _
  refine dss_cut (fun ρ S => ∃ kvs a b c d e f g, ρ = [a, b, c, .o 0, d, e, f, g] ∧ S[0]? = some (.m kvs) ∧ bentW k n = .dic kvs) (ds_if (dt_cmp (de_var 5 rfl) de_int od_lt) (fun hk => ?_) fun hk => ?_) ?_
  · have hk' := of_decide_eq_true hk
    have hsg : L2.atI [Dat.int 1, Dat.int (-1)] (n % 11) = some (.int (1 - 2 * (n % 11))) := by
      rcases (show n % 11 = 0 ∨ n % 11 = 1 by omega) with h | h <;> rw [h] <;> rfl
    have nn : 0 ≤ n / 400 % 1000000 := Int.emod_nonneg _ (by decide)
    have nm : n / 400 % 1000000 < 1000000 := Int.emod_lt_of_pos _ (by decide)
    have b20 : (2 : Nat) ^ 20 = 1048576 := by decide
    have fbn : Fb 20 (nf (1 - 2 * (n % 11)) (1 + n / 400 % 1000000)) := Fb.nf (by omega) (by omega) (by omega)
    have b9 : (1 + n / 400 % 1000000).natAbs < 2 ^ 9000 := Nat.lt_of_lt_of_le (show _ < 2 ^ 20 by omega) (pow_le (by decide))
    refine dss_cons (ds_putM (k := 0) (kvs := wKv k) (ns := pickW k n) hu (de_call c__law_plus (hr.mono (by decide)) (da_cons (de_getM hu (de_var 3 rfl) (de_var 4 rfl) rfl w1) (da_cons (de_call c__law_frac (hr.mono (by decide)) (da_cons (de_ix (de_lst (da_cons de_int (da_cons (de_neg de_int) da_nil)) (by walk_at "dats") (by walk_at "le")) (de_var 5 rfl) (ix_l hsg)) (da_cons (de_bin de_int (de_bin (de_var 2 rfl) (de_eq (r' := .d (.int 1000000)) (de_bin de_int de_int (od_pow p6)) rfl) (od_mod (by decide))) od_add) da_nil)) (by walk_at "dats") ⟨_, _, by omega, b9, rfl, rfl⟩) da_nil)) (by walk_at "dats") ⟨_, _, 1110, 20, w2, fbn, by decide, by decide, by decide, rfl, rfl⟩) (de_var 3 rfl) (de_var 4 rfl) rfl (by omega) ?_)
    exact dss_nil ⟨_, _, _, _, _, _, _, _, rfl, rfl, bw_0 hk'⟩
  · have hk' := of_decide_eq_false hk
    refine dss_cons (ds_if (dt_cmp (de_var 5 rfl) de_int od_eq) (fun hk2 => ?_) fun hk2 => ?_)
    · have h2 := of_decide_eq_true hk2
      have nn : 0 ≤ n / 400 % 3 := Int.emod_nonneg _ (by decide)
      have nm : n / 400 % 3 < 3 := Int.emod_lt_of_pos _ (by decide)
      have fb2 : Fb 2 ((n / 400 % 3 - 1, 1) : Fr) := ⟨Int.le_refl 1, by show (n / 400 % 3 - 1).natAbs < 4; omega, show (1 : Int).natAbs < 2 ^ 2 by decide⟩
      refine dss_cons (ds_for (T := .one 6) (di_list (de_listM (k := 0) (kvs := wKv k) z.list (da_cons (de_var 3 rfl) da_nil) rfl)) (pg_one 6 sc__law_bent_worths.nd) (fun i ρ S => ρ = [.d (bookD k), .d (paperD k), .d (.int (n / 400)), .o 0, .d (.st (pickW k n)), .d (.int (n % 11)), .un, .un] ∧ S = [.m (chgAt k (n / 400 % 3 - 1) i)]) ?_ ?_ ?_ ?_)
      · rintro i ρ S ⟨rfl, rfl⟩; exact Nat.le_refl _
      · exact ⟨_, _, ⟨by walk_at "lel", [], rfl⟩, rfl, rfl⟩
      · rintro i d ρ S hd ⟨rfl, rfl⟩
        unfold keysD at hd
        rw [List.getElem?_map] at hd
        cases hkv : (wKv k)[i]? with
        | none => rw [hkv] at hd; cases hd
        | some kv =>
          rw [hkv] at hd
          cases hd
          obtain ⟨g1, g2⟩ := chgAt_get (m := n / 400 % 3 - 1) hkv
          obtain ⟨p, hp, ep⟩ := wkv_fr (List.mem_of_getElem? hkv)
          have fbp := (worthsF_ok hk0 hm18 (plIdx_ok hk0) p hp).2
          have ec : (chg (n / 400 % 3 - 1) kv).2 = frD (fAdd p (n / 400 % 3 - 1, 1)) := by
            show frD (fAdd (frOf (some kv.2)) _) = _
            rw [ep, frOf_fr]
          rw [ep] at g1
          rw [ec] at g2
          refine ⟨_, .one, ?_⟩
          refine dss_cons (ds_putM (k := 0) (kvs := chgAt k (n / 400 % 3 - 1) i) (ns := kv.1) hu (de_call c__law_plus (hr.mono (by decide)) (da_cons (de_getM hu (de_var 3 rfl) (de_var 6 rfl) rfl g1) (da_cons (de_tup (da_cons (de_bin (de_bin (de_var 2 rfl) de_int (od_mod (by decide))) de_int od_sub) (da_cons de_int da_nil)) (by walk_at "dats") (by walk_at "le")) da_nil)) (by walk_at "dats") ⟨p, (n / 400 % 3 - 1, 1), 1110, 2, fbp, fb2, by decide, by decide, by decide, rfl, rfl⟩) (de_var 3 rfl) (de_var 6 rfl) rfl (by rw [chgAt_len]; omega) ?_)
          rw [g2]
          exact dss_nil ⟨_, _, ⟨by walk_at "lel", [], rfl⟩, rfl, rfl⟩
      · rintro ρ S ⟨rfl, rfl⟩
        refine dss_nil (dss_nil ⟨_, _, _, _, _, _, _, _, rfl, rfl, ?_⟩)
        rw [keysD_len, chgAt_all]
        exact bw_2 h2
    · have h2 := of_decide_eq_false hk2
      refine dss_cons (ds_if (dt_cmp (de_var 5 rfl) de_int od_eq) (fun hk3 => ?_) fun hk3 => ?_)
      · have h3 := of_decide_eq_true hk3
        refine dss_cons (ds_ret (de_call c_plan_worths (hr.mono (by decide)) (da_cons (de_var 0 rfl) (da_cons (de_call c__law_plan (hr.mono (by decide)) (da_cons (de_lst (da_cons (de_bin (de_eq (r' := .d (.int 1000000000000000000)) (de_bin de_int de_int (od_pow p18)) rfl) (de_var 2 rfl) od_add) da_nil) (by walk_at "dats") (by walk_at "le")) (da_cons de_int (da_cons (de_var 0 rfl) da_nil))) (by walk_at "dats") ⟨[1000000000000000000 + n / 400], 0, k, hk0, rfl, rfl⟩) da_nil)) (by walk_at "dats") ⟨k, _, hk0, hm18, lawPs_ok hk0 _, rfl, rfl⟩) ?_)
        exact congrArg Sl.d (bw_3 h3).symm
      · have h3 := of_decide_eq_false hk3
        refine dss_cons (ds_if (dt_cmp (de_var 5 rfl) de_int od_eq) (fun hk4 => ?_) fun hk4 => ?_)
        · have h4 := of_decide_eq_true hk4
          refine dss_cons (ds_expr (de_popM (k := 0) (kvs := wKv k) (ns := pickW k n) hu (de_var 3 rfl) (de_var 4 rfl) ⟨_, rfl⟩ rfl w1) ?_)
          exact dss_nil (dss_nil (dss_nil (dss_nil ⟨_, _, _, _, _, _, _, _, rfl, rfl, bw_4 h4⟩)))
        · have h4 := of_decide_eq_false hk4
          refine dss_cons (ds_if (dt_cmp (de_var 5 rfl) de_int od_eq) (fun hk5 => ?_) fun hk5 => ?_)
          · have h5 := of_decide_eq_true hk5
            refine dss_cons (ds_putM (k := 0) (kvs := wKv k) (ns := pickW k n ++ [0]) hu (de_tup (da_cons de_int (da_cons de_int da_nil)) (by walk_at "dats") (by walk_at "le")) (de_var 3 rfl) (de_bin (de_var 4 rfl) (de_tupSt (ns := [0]) (da_cons de_int da_nil) (by walk_at "le")) (od_catS (by simp; omega))) rfl (by omega) ?_)
            exact dss_nil (dss_nil (dss_nil (dss_nil (dss_nil ⟨_, _, _, _, _, _, _, _, rfl, rfl, bw_5 h5⟩))))
          · have h5 := of_decide_eq_false hk5
            refine dss_cons (ds_if (dt_cmp (de_var 5 rfl) de_int od_eq) (fun hk6 => ?_) fun hk6 => ?_)
            · have h6 := of_decide_eq_true hk6
              have hne : pickW k n ≠ [] := fun e => by rw [e] at sl0; simp at sl0; omega
              have ecut := cut_last hne
              have dl : (pickW k n).dropLast.length ≤ 10 := by rw [List.length_dropLast]; omega
              refine dss_cons (ds_putM (k := 0) (kvs := dropD (wKv k) (pickW k n)) (ns := (pickW k n).dropLast ++ [9]) hu (de_popM (k := 0) (kvs := wKv k) (ns := pickW k n) hu (de_var 3 rfl) (de_var 4 rfl) ⟨_, rfl⟩ rfl w1) (de_var 3 rfl) (de_bin (de_eq (r' := .d (.st (pickW k n).dropLast)) (de_slice (de_var 4 rfl) do_none (do_some (de_neg de_int))) (by rw [ecut])) (de_tupSt (ns := [9]) (da_cons de_int da_nil) (by walk_at "le")) (od_catS (by simp; omega))) rfl (by have := (wok.drop (pickW k n)).few; omega) ?_)
              exact dss_nil (dss_nil (dss_nil (dss_nil (dss_nil (dss_nil ⟨_, _, _, _, _, _, _, _, rfl, rfl, bw_6 h6⟩)))))
            · have h6 := of_decide_eq_false hk6
              refine dss_cons (ds_if (dt_cmp (de_var 5 rfl) de_int od_eq) (fun hk7 => ?_) fun hk7 => ?_)
              · have h7 := of_decide_eq_true hk7
                refine dss_cons (ds_ret (de_ix (de_lst (da_cons (de_sortedItems (k := 0) (kvs := wKv k) hu z.sorted (de_var 3 rfl) rfl (by omega) (flat_vals (wkv_flat k)) (items_alike (wkv_alike k)) (items_depth wok)) (da_cons de_non (da_cons de_int (da_cons de_str (da_cons (de_tup (da_cons (de_dat (i := 0) (de_var 3 rfl) rfl rfl) da_nil) (by walk_at "dats") (by walk_at "le")) da_nil))))) (by walk_at "dats") (by walk_at "le")) (de_bin (de_var 2 rfl) de_int (od_mod (by decide))) (ix_l (atI_mod (l := opts (wKv k) "worths") (n := 5) rfl (by decide)))) ?_)
                exact congrArg Sl.d (bw_7 h7).symm
              · have h7 := of_decide_eq_false hk7
                refine dss_cons (ds_set 6 (de_getM hu (de_var 3 rfl) (de_var 4 rfl) rfl w1) ?_ sc__law_bent_worths.nd)
                refine dss_cons (ds_set 7 (de_lst (ds := some7 (wF k (pickW k n))) (da_cons (de_tup (da_cons (de_bin de_int (de_ix (de_var 6 rfl) de_int (ix_t (atI_at 0 rfl))) (od_mulS (.inl ⟨by decide, by decide⟩))) (da_cons (de_bin de_int (de_ix (de_var 6 rfl) de_int (ix_t (atI_at 1 rfl))) (od_mulS (.inl ⟨by decide, by decide⟩))) da_nil)) (by walk_at "dats") (by walk_at "le")) (da_cons (de_ix (de_var 6 rfl) de_int (ix_t (atI_at 0 rfl))) (da_cons de_non (da_cons (de_listOfT z.list (da_cons (de_var 6 rfl) da_nil)) (da_cons (de_tup (da_cons (de_bin de_int (de_ix (de_var 6 rfl) de_int (ix_t (atI_at 0 rfl))) od_sub) (da_cons (de_bin de_int (de_ix (de_var 6 rfl) de_int (ix_t (atI_at 1 rfl))) od_sub) da_nil)) (by walk_at "dats") (by walk_at "le")) (da_cons (de_tup (da_cons (de_ix (de_var 6 rfl) de_int (ix_t (atI_at 0 rfl))) (da_cons (de_ix (de_var 6 rfl) de_int (ix_t (atI_at 1 rfl))) (da_cons de_int da_nil))) (by walk_at "dats") (by walk_at "le")) (da_cons de_str da_nil))))))) (by exact .cons (.cons (.cons (.cons (.cons (.cons (.cons .nil))))))) (Nat.le_of_ble_eq_true rfl)) ?_ sc__law_bent_worths.nd)
                refine dss_cons (ds_putM (k := 0) (kvs := wKv k) (ns := pickW k n) hu (de_ix (de_var 7 rfl) (de_bin (de_var 2 rfl) de_int (od_mod (by decide))) (ix_l (atI_mod (l := some7 (wF k (pickW k n))) (n := 7) rfl (by decide)))) (de_var 3 rfl) (de_var 4 rfl) rfl (by omega) ?_)
                exact dss_nil (dss_nil (dss_nil (dss_nil (dss_nil (dss_nil (dss_nil ⟨_, _, _, _, _, _, _, _, rfl, rfl, bw_8 (by omega)⟩))))))
  · rintro ρ S ⟨kvs, a, b, c, d, e, f, g, rfl, hS, hB⟩
    refine dss_cons (ds_ret (de_dat (i := 0) (de_var 3 rfl) hS rfl) ?_)
    rw [hB]
    rfl
end
end Tw
end
section
set_option Elab.async false
set_option linter.all false
set_option maxRecDepth 100000
set_option maxHeartbeats 1000000
namespace Tw
open PySem PySem.Spec PyProof.Rows L2
open Evl (Ex)
def planS (k : Book) : List Dat := [.int ((k.2.length : Nat) : Int), .int (-1), .bl true, .non, .str "0", .tup [.int 0], .lst [.int 0]]
theorem vg_planS {k : Book} (hk : BookOk k) (i : Nat) : VGd ((planS k)[i]?.getD .non) := by
  have kf := hk.few
  match i with
  | 0 => exact vok_int (by
      rw [Int.natAbs_natCast]
      exact Nat.lt_of_lt_of_le (show _ < 4 by omega) (pow_le (n := 2) (by decide)))
  | 1 => exact vok_int (i := -1) (by decide)
  | 2 => exact vok_bl _
  | 3 => exact vok_non
  | 4 => exact vok_str (by decide +kernel)
  | 5 => exact vok_tup1 (a := 0) (show (0 : Int).natAbs < _ from Nat.pow_pos (by decide))
  | 6 =>
    refine vok_lst (ns := [0]) (by decide) fun i hi => ?_
    rw [List.mem_singleton] at hi
    subst hi
    exact Nat.pow_pos (by decide)
  | n + 7 => exact vok_non
def pickP (k : Book) (n : Int) : List Int := pick k (n / 7)
def bentP (k : Book) (n : Int) : Dat :=
  if n % 7 < 3 then .dic (putD (pKv k) (pickP k n) (.int (n / 300 % ((k.2.length : Nat) : Int))))
  else if n % 7 = 3 then .dic (putD (pKv k) (pickP k n) ((planS k)[(n / 300 % ((7 : Nat) : Int)).toNat]?.getD .non))
  else if n % 7 = 4 then .dic (dropD (pKv k) (pickP k n))
  else if n % 7 = 5 then .dic (putD (pKv k) (pickP k n ++ [0]) (.int 0))
  else (opts (pKv k) "plan")[(n / 300 % ((5 : Nat) : Int)).toNat]?.getD .non
theorem bp_0 {k : Book} {n : Int} (h : n % 7 < 3) : bentP k n = .dic (putD (pKv k) (pickP k n) (.int (n / 300 % ((k.2.length : Nat) : Int)))) := by unfold bentP; rw [if_pos h]
theorem bp_3 {k : Book} {n : Int} (h : n % 7 = 3) : bentP k n = .dic (putD (pKv k) (pickP k n) ((planS k)[(n / 300 % ((7 : Nat) : Int)).toNat]?.getD .non)) := by unfold bentP; rw [if_neg (by omega), if_pos h]
theorem bp_4 {k : Book} {n : Int} (h : n % 7 = 4) : bentP k n = .dic (dropD (pKv k) (pickP k n)) := by unfold bentP; rw [if_neg (by omega), if_neg (by omega), if_pos h]
theorem bp_5 {k : Book} {n : Int} (h : n % 7 = 5) : bentP k n = .dic (putD (pKv k) (pickP k n ++ [0]) (.int 0)) := by unfold bentP; rw [if_neg (by omega), if_neg (by omega), if_neg (by omega), if_pos h]
theorem bp_6 {k : Book} {n : Int} (h : ¬ n % 7 < 6) : bentP k n = (opts (pKv k) "plan")[(n / 300 % ((5 : Nat) : Int)).toNat]?.getD .non := by unfold bentP; rw [if_neg (by omega), if_neg (by omega), if_neg (by omega), if_neg (by omega)]
theorem pkv_int {k : Book} {x : List Int × Dat} (h : x ∈ pKv k) : ∃ i, x.2 = .int i := by
  obtain ⟨i, _, e1⟩ := List.mem_map.mp (List.of_mem_zip h).2
  exact ⟨i, e1.symm⟩
theorem pkv_alike (k : Book) : ∀ x ∈ pKv k, ∀ y ∈ pKv k, PySem.W.alike (py x.2) (py y.2) = true := fun x hx y hy => by
  obtain ⟨i, e1⟩ := pkv_int hx
  obtain ⟨j, e2⟩ := pkv_int hy
  rw [e1, e2]
  show PySem.W.alike (.int i) (.int j) = true
  simp [PySem.W.alike]
theorem pkv_flat (k : Book) : ∀ x ∈ pKv k, flat x.2 = true := fun x hx => by
  obtain ⟨i, e1⟩ := pkv_int hx
  rw [e1]
  rfl
section
variable {P : Program} {w : World} {K : PySem.W.Frag} {mg : Str → Option Value} {base : Heap}
def R_bent_plan (ds : List Dat) (r : Dat) : Prop := ∃ (k : Book) (n : Int), BookOk k ∧ many k ≤ 18 ∧ ((sts k).map stH).Nodup ∧ ds = [bookD k, paperD k, .int n] ∧ r = bentP k n
theorem ok_law_bent_plan (F : FT K mg "_law_bent_plan" s__law_bent_plan P__law_bent_plan) (z : Zb mg) (c__law_states : Cal P w K mg base 1 "_law_states" (spP K R_all_states)) : Cal P w K mg base 2 "_law_bent_plan" (spP K R_bent_plan) := by
  obtain ⟨f, fd, F, gm, hb⟩ := F.ex
  refine cal_of F gm hb sc__law_bent_plan (by decide) (fun ds r ⟨_, _, _, _, _, h, _⟩ => by rw [h]; rfl) fun cdv A outer s H E hr c ds r hR => ?_
  obtain ⟨k, n, hk0, hm18, hh, rfl, rfl⟩ := hR
  have hu := hr.units
  have few := sts_few hk0
  have wl := pKv_len k
  have sp := sts_pos hk0
  have wok := pKv_ok hk0 hm18
  obtain ⟨pk1, pk2, pk3⟩ := pick_ok sp (n / 7)
  have pk4 : pickP k n ∈ sts k := pk3
  obtain ⟨d0, hd0⟩ := Option.isSome_iff_exists.mp ((valD_key (pKv k) (pickP k n)).mpr (by rw [pKv_keys]; exact pk4))
  have d7 : CDivW n 7 := wdiv (b := 64) (by decide) (by decide) (by decide)
  have d300 : CDivW n 300 := wdiv (b := 64) (by decide) (by decide) (by decide)
  have hix : L2.atI ((sts k).map Dat.st) (n / 7 % (((pKv k).length : Nat) : Int)) = some (Dat.st (pickP k n)) := by
    rw [wl]
    have e : ((((n / 7 % (((sts k).length : Nat) : Int)).toNat : Nat)) : Int) = n / 7 % (((sts k).length : Nat) : Int) := by omega
    have a := atI_at (xs := (sts k).map Dat.st) (n / 7 % (((sts k).length : Nat) : Int)).toNat (by rw [List.getElem?_map, pk2]; rfl)
    rw [e] at a
    exact a
  have n7 : 0 ≤ n % 7 := Int.emod_nonneg _ (by decide)
  have m7 : n % 7 < 7 := Int.emod_lt_of_pos _ (by decide)
  have sl0 := sts_slen pk4
  have kf := hk0.few
  have kp := hk0.pos
  have l1 : lenD (.lst (k.2.map benchD)) = some k.2.length := by simp [lenD]
  refine dss_cons (ds_set 3 (de_dictCopy (kvs := pKv k) hu z.dict (da_cons (de_ix (de_var 1 rfl) de_int (ix_t (atI_at 0 rfl))) da_nil) (hash_of (pKv_keys k) hh)) ?_ sc__law_bent_plan.nd)
  refine dss_cons (ds_set 4 (de_ix (de_call c__law_states (hr.mono (by decide)) (da_cons (de_var 0 rfl) da_nil) (by walk_at "dats") ⟨k, hk0, rfl, rfl⟩) (de_bin (de_bin (de_var 2 rfl) de_int (od_div d7)) (de_lenMo (k := 0) (kvs := pKv k) z.len (da_cons (de_var 3 rfl) da_nil) rfl) (od_mod (by omega))) (ix_l hix)) ?_ sc__law_bent_plan.nd)
  refine dss_cons (ds_set 5 (de_bin (de_var 2 rfl) de_int (od_mod (by decide))) ?_ sc__law_bent_plan.nd)
  refine dss_cons (ds_set 2 (de_bin (de_var 2 rfl) de_int (od_div d300)) ?_ sc__law_bent_plan.nd)
  show DSs _ _ [.d (bookD k), .d (paperD k), .d (.int (n / 300)), .o 0, .d (.st (pickP k n)), .d (.int (n % 7))] [.m (pKv k)] _ _
  refine dss_cut (fun ρ S => ∃ kvs a b c d e, ρ = [a, b, c, .o 0, d, e] ∧ S[0]? = some (.m kvs) ∧ bentP k n = .dic kvs) (ds_if (dt_cmp (de_var 5 rfl) de_int od_lt) (fun hk => ?_) fun hk => ?_) ?_
  · have hk' := of_decide_eq_true hk
    refine dss_cons (ds_putM (k := 0) (kvs := pKv k) (ns := pickP k n) hu (de_bin (de_var 2 rfl) (de_len z.len (da_cons (de_ix (de_var 0 rfl) de_int (ix_t (atI_at 1 rfl))) da_nil) l1) (od_mod (by omega))) (de_var 3 rfl) (de_var 4 rfl) rfl (by omega) ?_)
    exact dss_nil ⟨_, _, _, _, _, _, rfl, rfl, bp_0 hk'⟩
  · have hk' := of_decide_eq_false hk
    refine dss_cons (ds_if (dt_cmp (de_var 5 rfl) de_int od_eq) (fun hk2 => ?_) fun hk2 => ?_)
    · have h2 := of_decide_eq_true hk2
      refine dss_cons (ds_putM (k := 0) (kvs := pKv k) (ns := pickP k n) hu (de_ix (de_lst (ds := planS k) (da_cons (de_len z.len (da_cons (de_ix (de_var 0 rfl) de_int (ix_t (atI_at 1 rfl))) da_nil) l1) (da_cons (de_neg de_int) (da_cons de_bl (da_cons de_non (da_cons de_str (da_cons (de_tup (da_cons de_int da_nil) (by walk_at "dats") (by walk_at "le")) (da_cons (de_lst (da_cons de_int da_nil) (by walk_at "dats") (by walk_at "le")) da_nil))))))) (by exact .cons (.cons (.cons (.cons (.cons (.cons (.cons .nil))))))) (Nat.le_of_ble_eq_true rfl)) (de_bin (de_var 2 rfl) de_int (od_mod (by decide))) (ix_l (atI_mod (l := planS k) (n := 7) rfl (by decide)))) (de_var 3 rfl) (de_var 4 rfl) rfl (by omega) ?_)
      exact dss_nil (dss_nil ⟨_, _, _, _, _, _, rfl, rfl, bp_3 h2⟩)
    · have h2 := of_decide_eq_false hk2
      refine dss_cons (ds_if (dt_cmp (de_var 5 rfl) de_int od_eq) (fun hk4 => ?_) fun hk4 => ?_)
      · have h4 := of_decide_eq_true hk4
        refine dss_cons (ds_expr (de_popM (k := 0) (kvs := pKv k) (ns := pickP k n) hu (de_var 3 rfl) (de_var 4 rfl) ⟨_, rfl⟩ rfl hd0) ?_)
        exact dss_nil (dss_nil (dss_nil ⟨_, _, _, _, _, _, rfl, rfl, bp_4 h4⟩))
      · have h4 := of_decide_eq_false hk4
        refine dss_cons (ds_if (dt_cmp (de_var 5 rfl) de_int od_eq) (fun hk5 => ?_) fun hk5 => ?_)
        · have h5 := of_decide_eq_true hk5
          refine dss_cons (ds_putM (k := 0) (kvs := pKv k) (ns := pickP k n ++ [0]) hu de_int (de_var 3 rfl) (de_bin (de_var 4 rfl) (de_tupSt (ns := [0]) (da_cons de_int da_nil) (by walk_at "le")) (od_catS (by simp; omega))) rfl (by omega) ?_)
          exact dss_nil (dss_nil (dss_nil (dss_nil ⟨_, _, _, _, _, _, rfl, rfl, bp_5 h5⟩)))
        · have h5 := of_decide_eq_false hk5
          refine dss_cons (ds_ret (de_ix (de_lst (da_cons (de_sortedItems (k := 0) (kvs := pKv k) hu z.sorted (de_var 3 rfl) rfl (by omega) (flat_vals (pkv_flat k)) (items_alike (pkv_alike k)) (items_depth wok)) (da_cons de_non (da_cons de_int (da_cons de_str (da_cons (de_tup (da_cons (de_dat (i := 0) (de_var 3 rfl) rfl rfl) da_nil) (by walk_at "dats") (by walk_at "le")) da_nil))))) (by walk_at "dats") (by walk_at "le")) (de_bin (de_var 2 rfl) de_int (od_mod (by decide))) (ix_l (atI_mod (l := opts (pKv k) "plan") (n := 5) rfl (by decide)))) ?_)
          exact congrArg Sl.d (bp_6 (by omega)).symm
  · rintro ρ S ⟨kvs, a, b, c, d, e, rfl, hS, hB⟩
    refine dss_cons (ds_ret (de_dat (i := 0) (de_var 3 rfl) hS rfl) ?_)
    rw [hB]
    rfl
def bents (k : Book) : List Dat := [.non, .lst [.dic (pKv k), .dic (wKv k)], .tup [.dic (pKv k)], .tup [.dic (pKv k), .dic (wKv k), .int 0], .tup [], .str "paper", .int 0]
def bentA (k : Book) (n : Int) : Dat :=
  if n % 7 = 0 then (bents k)[(n / 7 % ((7 : Nat) : Int)).toNat]?.getD .non
  else if n % 7 = 1 then .tup [.dic (wKv k), .dic (pKv k)]
  else if n % 7 < 4 then .tup [bentP k (n / 7), .dic (wKv k)]
  else .tup [.dic (pKv k), bentW k (n / 7)]
def R_bent (ds : List Dat) (r : Dat) : Prop := ∃ (k : Book) (n : Int), BookOk k ∧ many k ≤ 18 ∧ ((sts k).map stH).Nodup ∧ ds = [bookD k, paperD k, .int n] ∧ r = bentA k n
theorem ok_law_bent (F : FT K mg "_law_bent" s__law_bent P__law_bent) (z : Zb mg) (c__law_bent_plan : Cal P w K mg base 2 "_law_bent_plan" (spP K R_bent_plan)) (c__law_bent_worths : Cal P w K mg base 10 "_law_bent_worths" (spP K R_bent_worths)) : Cal P w K mg base 11 "_law_bent" (spP K R_bent) := by
  obtain ⟨f, fd, F, gm, hb⟩ := F.ex
  refine cal_of F gm hb sc__law_bent (by decide) (fun ds r ⟨_, _, _, _, _, h, _⟩ => by rw [h]; rfl) fun cdv A outer s H E hr c ds r hR => ?_
  obtain ⟨k, n, hk0, hm18, hh, rfl, rfl⟩ := hR
  have d7 : CDivW n 7 := wdiv (b := 64) (by decide) (by decide) (by decide)
  refine dss_cons (ds_set 3 (de_bin (de_var 2 rfl) de_int (od_mod (by decide))) ?_ sc__law_bent.nd)
  refine dss_cons (ds_set 2 (de_bin (de_var 2 rfl) de_int (od_div d7)) ?_ sc__law_bent.nd)
  show DSs _ _ [.d (bookD k), .d (paperD k), .d (.int (n / 7)), .d (.int (n % 7))] [] _ _
  refine dss_cons (ds_if (dt_cmp (de_var 3 rfl) de_int od_eq) (fun hk => ?_) fun hk => ?_)
  · have h0 := of_decide_eq_true hk
    refine dss_cons (ds_ret (de_ix (de_lst (ds := bents k) (da_cons de_non (da_cons (de_lst (da_cons (de_ix (de_var 1 rfl) de_int (ix_t (atI_at 0 rfl))) (da_cons (de_ix (de_var 1 rfl) de_int (ix_t (atI_at 1 rfl))) da_nil)) (by walk_at "dats") (by walk_at "le")) (da_cons (de_tup (da_cons (de_ix (de_var 1 rfl) de_int (ix_t (atI_at 0 rfl))) da_nil) (by walk_at "dats") (by walk_at "le")) (da_cons (de_tup (da_cons (de_ix (de_var 1 rfl) de_int (ix_t (atI_at 0 rfl))) (da_cons (de_ix (de_var 1 rfl) de_int (ix_t (atI_at 1 rfl))) (da_cons de_int da_nil))) (by walk_at "dats") (by walk_at "le")) (da_cons (de_tup da_nil .nil (Nat.zero_le _)) (da_cons de_str (da_cons de_int da_nil))))))) (by exact .cons (.cons (.cons (.cons (.cons (.cons (.cons .nil))))))) (Nat.le_of_ble_eq_true rfl)) (de_bin (de_var 2 rfl) de_int (od_mod (by decide))) (ix_l (atI_mod (l := bents k) (n := 7) rfl (by decide)))) ?_)
    show _ = Sl.d (bentA k n)
    unfold bentA
    rw [if_pos h0]
  · have h0 := of_decide_eq_false hk
    refine dss_nil ?_
    refine dss_cons (ds_if (dt_cmp (de_var 3 rfl) de_int od_eq) (fun hk => ?_) fun hk => ?_)
    · have h1 := of_decide_eq_true hk
      refine dss_cons (ds_ret (de_tup (da_cons (de_ix (de_var 1 rfl) de_int (ix_t (atI_at 1 rfl))) (da_cons (de_ix (de_var 1 rfl) de_int (ix_t (atI_at 0 rfl))) da_nil)) (by walk_at "dats") (by walk_at "le")) ?_)
      show _ = Sl.d (bentA k n)
      unfold bentA
      rw [if_neg h0, if_pos h1]
      rfl
    · have h1 := of_decide_eq_false hk
      refine dss_nil ?_
      refine dss_cons (ds_if (dt_cmp (de_var 3 rfl) de_int od_lt) (fun hk => ?_) fun hk => ?_)
      · have h2 := of_decide_eq_true hk
        refine dss_cons (ds_ret (de_tup (da_cons (de_call c__law_bent_plan (hr.mono (by decide)) (da_cons (de_var 0 rfl) (da_cons (de_var 1 rfl) (da_cons (de_var 2 rfl) da_nil))) (by walk_at "dats") ⟨k, n / 7, hk0, hm18, hh, rfl, rfl⟩) (da_cons (de_ix (de_var 1 rfl) de_int (ix_t (atI_at 1 rfl))) da_nil)) (by walk_at "dats") (by walk_at "le")) ?_)
        show _ = Sl.d (bentA k n)
        unfold bentA
        rw [if_neg h0, if_neg h1, if_pos h2]
        rfl
      · have h2 := of_decide_eq_false hk
        refine dss_nil ?_
        refine dss_cons (ds_ret (de_tup (da_cons (de_ix (de_var 1 rfl) de_int (ix_t (atI_at 0 rfl))) (da_cons (de_call c__law_bent_worths (hr.mono (by decide)) (da_cons (de_var 0 rfl) (da_cons (de_var 1 rfl) (da_cons (de_var 2 rfl) da_nil))) (by walk_at "dats") ⟨k, n / 7, hk0, hm18, hh, rfl, rfl⟩) da_nil)) (by walk_at "dats") (by walk_at "le")) ?_)
        show _ = Sl.d (bentA k n)
        unfold bentA
        rw [if_neg h0, if_neg h1, if_neg h2]
        rfl
end
end Tw
end
section
set_option Elab.async false
set_option linter.all false
set_option maxRecDepth 100000
set_option maxHeartbeats 1000000
namespace Tw
open PySem PySem.Spec PyProof.Rows L2
open Evl (Ex)
/-- states of small numbers hash apart -/
theorem hash5 : ∀ n ∈ [1, 2, 3], ((statesOf (List.replicate n 5)).map stH).Nodup := by decide +kernel
theorem inj_of_map {l : List (List Int)} (h : (l.map stH).Nodup) {s t : List Int} (hs : s ∈ l) (ht : t ∈ l) (e : stH s = stH t) : s = t := by
  obtain ⟨i, hi⟩ := List.mem_iff_getElem?.mp hs
  obtain ⟨j, hj⟩ := List.mem_iff_getElem?.mp ht
  have h1 : (l.map stH)[i]? = some (stH s) := by rw [List.getElem?_map, hi]; rfl
  have h2 : (l.map stH)[j]? = some (stH s) := by rw [List.getElem?_map, hj, e]; rfl
  have ij := (List.getElem?_inj (List.getElem?_eq_some_iff.mp h1).1 h).mp (h1.trans h2.symm)
  subst ij
  rw [hi] at hj
  exact Option.some.inj hj
theorem sts_in5 {k : Book} (hk : BookOk k) {s : List Int} (hs : s ∈ sts k) : s ∈ statesOf (List.replicate k.2.length 5) := by
  have so := sts_ok.mp hs
  have sl := sts_slen hs
  refine (mem_statesOf _ rfl).mpr ⟨by rw [List.length_replicate]; exact sl, fun i n hn => ?_⟩
  have hi := (List.getElem?_eq_some_iff.mp hn).1
  rw [List.length_replicate] at hi
  rw [List.getElem?_replicate, if_pos hi] at hn
  cases hn
  have hsl : (sizes k).length = k.2.length := List.length_map _
  obtain ⟨m, hm⟩ : ∃ m, (sizes k)[i]? = some m := ⟨_, List.getElem?_eq_getElem (by omega)⟩
  obtain ⟨j, hj, hlt⟩ := so.2 i m hm
  refine ⟨j, hj, ?_⟩
  unfold sizes at hm
  rw [List.getElem?_map] at hm
  cases hb : k.2[i]? with
  | none => rw [hb] at hm; cases hm
  | some b =>
    rw [hb] at hm
    cases hm
    have := (hk.bn b (List.mem_of_getElem? hb)).few
    have hlt' : j < b.length := hlt
    omega
theorem hash_sts {k : Book} (hk : BookOk k) : ((sts k).map stH).Nodup := by
  have kf := hk.few
  have kp := hk.pos
  have h5 := hash5 k.2.length (by
    rcases (show k.2.length = 1 ∨ k.2.length = 2 ∨ k.2.length = 3 by omega) with e | e | e <;> rw [e] <;> decide)
  rw [List.Nodup, List.pairwise_map]
  exact List.Pairwise.imp_of_mem (fun {s t} hs ht ne e => ne (inj_of_map h5 (sts_in5 hk hs) (sts_in5 hk ht) e)) (nodup_states (sizes k))
section
variable {k : Book}
theorem kok_sts (hk : BookOk k) (hm : many k ≤ 18) {s : List Int} (hs : s ∈ sts k) : KOk s := by
  rw [← pKv_keys] at hs
  obtain ⟨x, hx, rfl⟩ := List.mem_map.mp hs
  exact (pKv_ok hk hm).ks x hx
theorem kok_snoc (hk : BookOk k) (hm : many k ≤ 18) {s : List Int} (hs : s ∈ sts k) {t : List Int} (hl : t.length ≤ s.length) (ht : ∀ i ∈ t, i ∈ s) {j : Int} (hj : j.natAbs < 2 ^ 100) : KOk (t ++ [j]) := by
  have h := kok_sts hk hm hs
  have sl := sts_slen hs
  have kf := hk.few
  refine ⟨by simp, by rw [List.length_append]; simp; omega, fun i hi => ?_⟩
  rcases List.mem_append.mp hi with hi | hi
  · exact h.sm i (ht i hi)
  · rw [List.mem_singleton] at hi
    subst hi
    exact hj
/-- what a bent dict may be -/
structure BtOk (d : Dat) : Prop where
  kv : ∀ kvs, d = .dic kvs → KvG 20 kvs
  sw : Shw 1700000 4 d
theorem bt_dic {kvs : List (List Int × Dat)} {m : Nat} (h : KvG m kvs) (e : m ≤ 20) : BtOk (.dic kvs) := ⟨fun l z => by cases z; exact h.mono e, (h.shw (by omega)).mono (by decide) (by decide)⟩
theorem bt_opts {kvs : List (List Int × Dat)} {m : Nat} {x : Str} (h : KvG m kvs) (e : m ≤ 20) (hx : (reprText x).length ≤ 100) (i : Nat) : BtOk ((opts kvs x)[i]?.getD .non) := ⟨fun l z => absurd z (opts_notDic kvs x i l), shw_opts h (by omega) hx i⟩
theorem bentP_ok (hk : BookOk k) (hm : many k ≤ 18) (n : Int) : BtOk (bentP k n) := by
  have sp := sts_pos hk
  have ps : pickP k n ∈ sts k := (pick_ok sp (n / 7)).2.2
  have wok := pKv_ok hk hm
  have kf := hk.few
  have kp := hk.pos
  have ks := kok_sts hk hm ps
  by_cases h0 : n % 7 < 3
  · rw [bp_0 h0]
    have h1 : 0 ≤ n / 300 % ((k.2.length : Nat) : Int) := Int.emod_nonneg _ (by omega)
    have h2 : n / 300 % ((k.2.length : Nat) : Int) < ((k.2.length : Nat) : Int) := Int.emod_lt_of_pos _ (by omega)
    exact bt_dic (wok.put ks (vok_int (Nat.lt_of_lt_of_le (show _ < 4 by omega) (pow_le (n := 2) (by decide))))) (by decide)
  · by_cases h3 : n % 7 = 3
    · rw [bp_3 h3]
      exact bt_dic (wok.put ks (vg_planS hk _)) (by decide)
    · by_cases h4 : n % 7 = 4
      · rw [bp_4 h4]
        exact bt_dic (wok.drop _) (by decide)
      · by_cases h5 : n % 7 = 5
        · rw [bp_5 h5]
          exact bt_dic (wok.put (kok_snoc hk hm ps (Nat.le_refl _) (fun i hi => hi) (by decide)) (vok_int (by decide))) (by decide)
        · rw [bp_6 (by omega)]
          exact bt_opts wok (by decide) (by decide +kernel) _
theorem chg_ok (hk : BookOk k) (hm : many k ≤ 18) {m : Int} (h : m.natAbs < 4) : KvG 18 ((wKv k).map (chg m)) := by
  have wok := wKv_ok hk hm
  have e : ((wKv k).map (chg m)).map (·.1) = (wKv k).map (·.1) := by rw [List.map_map]; rfl
  refine ⟨by rw [e]; exact wok.nd, fun x hx => ?_, fun x hx => ?_, by rw [List.length_map]; exact wok.few⟩
  · obtain ⟨y, hy, rfl⟩ := List.mem_map.mp hx
    exact wok.ks y hy
  · obtain ⟨y, hy, rfl⟩ := List.mem_map.mp hx
    obtain ⟨p, hp, ep⟩ := wkv_fr hy
    have fbp := (worthsF_ok hk hm (plIdx_ok hk) p hp).2
    have fb2 : Fb 2 ((m, 1) : Fr) := ⟨Int.le_refl 1, h, show (1 : Int).natAbs < 2 ^ 2 by decide⟩
    show VGd (frD (fAdd (frOf (some y.2)) (m, 1)))
    rw [ep, frOf_fr]
    exact vok_fr (Fb.add fbp fb2) (by decide)
theorem bentW_ok (hk : BookOk k) (hm : many k ≤ 18) (n : Int) : BtOk (bentW k n) := by
  have sp := sts_pos hk
  have ps : pickW k n ∈ sts k := (pick_ok sp (n / 11)).2.2
  have wok := wKv_ok hk hm
  have ks := kok_sts hk hm ps
  obtain ⟨w1, w2⟩ := wF_get hk hm ps
  by_cases h0 : n % 11 < 2
  · rw [bw_0 h0]
    have nn : 0 ≤ n / 400 % 1000000 := Int.emod_nonneg _ (by decide)
    have nm : n / 400 % 1000000 < 1000000 := Int.emod_lt_of_pos _ (by decide)
    have n11 : 0 ≤ n % 11 := Int.emod_nonneg _ (by decide)
    have b20 : (2 : Nat) ^ 20 = 1048576 := by decide
    have fbn : Fb 20 (nf (1 - 2 * (n % 11)) (1 + n / 400 % 1000000)) := Fb.nf (by omega) (by omega) (by omega)
    exact bt_dic (wok.put ks (vok_fr (Fb.add w2 fbn) (by decide))) (by decide)
  · by_cases h2 : n % 11 = 2
    · rw [bw_2 h2]
      have nn : 0 ≤ n / 400 % 3 := Int.emod_nonneg _ (by decide)
      have nm : n / 400 % 3 < 3 := Int.emod_lt_of_pos _ (by decide)
      exact bt_dic (chg_ok hk hm (by omega)) (by decide)
    · by_cases h3 : n % 11 = 3
      · rw [bw_3 h3]
        exact bt_dic (kvg_worths hk hm (lawPs_ok hk _)) (by decide)
      · by_cases h4 : n % 11 = 4
        · rw [bw_4 h4]
          exact bt_dic (wok.drop _) (by decide)
        · by_cases h5 : n % 11 = 5
          · rw [bw_5 h5]
            exact bt_dic (wok.put (kok_snoc hk hm ps (Nat.le_refl _) (fun i hi => hi) (by decide)) (vok_pair (a := 0) (b := 1) (Nat.pow_pos (by decide)) (Nat.lt_of_lt_of_le (show (1 : Int).natAbs < 2 ^ 1 by decide) (pow_le (by decide))))) (by decide)
          · by_cases h6 : n % 11 = 6
            · rw [bw_6 h6]
              exact bt_dic ((wok.drop _).put (kok_snoc hk hm ps (by rw [List.length_dropLast]; omega) (fun i hi => List.dropLast_subset _ hi) (by decide)) (vok_fr w2 (by decide))) (by decide)
            · by_cases h7 : n % 11 = 7
              · rw [bw_7 h7]
                exact bt_opts wok (by decide) (by decide +kernel) _
              · rw [bw_8 (by omega)]
                exact bt_dic (wok.put ks (vg_some7 w2 (by decide) _)) (by decide)
/-- two things in a tuple -/
theorem fit_two {p q : Dat} (hp : ∀ kvs, p = .dic kvs → KvG 20 kvs) (hq : ∀ kvs, q = .dic kvs → KvG 20 kvs) : Fit (.tup [p, q]) :=
  ⟨rfl, fun pk w e => by cases e; exact (hp pk rfl).kvp (by decide), fun p' kvs e => by cases e; exact ⟨(hq kvs rfl).kvp (by decide), fun x hx => ((hq kvs rfl).vs x hx).tm⟩⟩
theorem shw_two {p q : Dat} (h1 : Shw 1700000 4 p) (h2 : Shw 1700000 4 q) : Shw 8000000 16 (.tup [p, q]) :=
  (shw_tup (n := 1700000) (k := 4) fun d hd => by
    rcases List.mem_cons.mp hd with rfl | hd
    · exact h1
    · rcases List.mem_cons.mp hd with rfl | hd
      · exact h2
      · cases hd).mono (by show (1700000 + 2) * 2 + 3 ≤ 8000000; decide) (by decide)
structure GoodP (d : Dat) : Prop where
  fit : Fit d
  sw : Shw 8000000 16 d
theorem good_two {p q : Dat} (h1 : BtOk p) (h2 : BtOk q) : GoodP (.tup [p, q]) := ⟨fit_two h1.kv h2.kv, shw_two h1.sw h2.sw⟩
theorem bt_w (hk : BookOk k) (hm : many k ≤ 18) : BtOk (.dic (wKv k)) := bt_dic (wKv_ok hk hm) (by decide)
theorem bt_p (hk : BookOk k) (hm : many k ≤ 18) : BtOk (.dic (pKv k)) := bt_dic (pKv_ok hk hm) (by decide)
theorem paper_good (hk : BookOk k) (hm : many k ≤ 18) : GoodP (paperD k) := good_two (bt_p hk hm) (bt_w hk hm)
theorem fit_not {d : Dat} (h : isSt d = false) (h2 : ∀ p q, d ≠ .tup [p, q]) : Fit d := ⟨h, fun p w e => absurd e (h2 _ _), fun p w e => absurd e (h2 _ _)⟩
theorem bents_good (hk : BookOk k) (hm : many k ≤ 18) (i : Nat) : GoodP ((bents k)[i]?.getD .non) := by
  have hp := bt_p hk hm
  have hw := bt_w hk hm
  match i with
  | 0 => exact ⟨fit_not rfl nofun, shw_non.mono (by decide) (by decide)⟩
  | 1 =>
    refine ⟨fit_not rfl nofun, (shw_lst (n := 1700000) (k := 4) fun d hd => ?_).mono (by show (1700000 + 2) * 2 + 3 ≤ 8000000; decide) (by decide)⟩
    rcases List.mem_cons.mp hd with rfl | hd
    · exact hp.sw
    · rcases List.mem_cons.mp hd with rfl | hd
      · exact hw.sw
      · cases hd
  | 2 =>
    refine ⟨fit_not rfl nofun, (shw_tup (n := 1700000) (k := 4) fun d hd => ?_).mono (by show (1700000 + 2) * 1 + 3 ≤ 8000000; decide) (by decide)⟩
    rcases List.mem_cons.mp hd with rfl | hd
    · exact hp.sw
    · cases hd
  | 3 =>
    refine ⟨fit_not rfl nofun, (shw_tup (n := 1700000) (k := 4) fun d hd => ?_).mono (by show (1700000 + 2) * 3 + 3 ≤ 8000000; decide) (by decide)⟩
    rcases List.mem_cons.mp hd with rfl | hd
    · exact hp.sw
    · rcases List.mem_cons.mp hd with rfl | hd
      · exact hw.sw
      · rcases List.mem_cons.mp hd with rfl | hd
        · exact (shw_int (i := 0) (by decide)).mono (by decide) (by decide)
        · cases hd
  | 4 =>
    exact ⟨fit_not rfl nofun, (shw_tup (n := 1700000) (k := 4) fun d hd => by cases hd).mono (by show (1700000 + 2) * 0 + 3 ≤ 8000000; decide) (by decide)⟩
  | 5 => exact ⟨fit_not rfl nofun, (shw_str (n := 100) (by decide +kernel)).mono (by decide) (by decide)⟩
  | 6 => exact ⟨fit_not rfl nofun, (shw_int (i := 0) (by decide)).mono (by decide) (by decide)⟩
  | n + 7 => exact ⟨fit_not rfl nofun, shw_non.mono (by decide) (by decide)⟩
theorem bent_good (hk : BookOk k) (hm : many k ≤ 18) (n : Int) : GoodP (bentA k n) := by
  unfold bentA
  split
  · exact bents_good hk hm _
  · split
    · exact good_two (bt_w hk hm) (bt_p hk hm)
    · split
      · exact good_two (bentP_ok hk hm _) (bt_w hk hm)
      · exact good_two (bt_p hk hm) (bentW_ok hk hm _)
theorem book_self (k : Book) : PyData.eqv (py (bookD k)) (py (bookD k)) = true := SeqAt.eqv_refl _ (plain_lay _ (shp_book k).pl)
end
end Tw
end
section
set_option Elab.async false
set_option linter.all false
set_option maxRecDepth 100000
set_option maxHeartbeats 1000000
/-! the law's own def: it is called where no repr is under way. -/
namespace Tw
open PySem PySem.Spec PyProof.Rows L2
open Evl (Ex)
structure FnG (P : Program) (w : World) (K : PySem.W.Frag) (mg : Str → Option Value) (base : Heap) (k : Nat) (f : Addr) (fd : FuncData) (ps : List Str) (sp : Sp) : Prop where
  run : ∀ (A : Around) (outer : List Env) (s : Shared) (H : Hp) (args : Args) (us : List Value) (vs : List V) (Q : VK) (E : XK), A.guards = some [] → Room k A → Env0 P w K mg base A outer s H → BindsTo s fd args (ps.zip us) → Vals vs us → sp vs H Q E →
    codeAny (model P w) A (.call (.ref f) args) (CR CX0 outer P w H s Q E) s
section
variable {P : Program} {w : World} {K : PySem.W.Frag} {mg : Str → Option Value} {base : Heap}
theorem fun_okG {x qual : Str} {st : Stmt} {f : Addr} {fd : FuncData} {N ps : List Str} {k : Nat} {sp : Sp} (F : Fun K x qual st f fd) (Sc : FnScope N ps (defScope st)) (len : ∀ vs H Q E, sp vs H Q E → vs.length = ps.length)
    (body : ∀ (cdv : Value) (A : Around) (outer : List Env) (s : Shared) (H : Hp) (vs : List V) (Q : VK) (E : XK), A.guards = some [] → Room k (A.deeper (envOfC qual (defScope st) s.heap.objs.size f cdv)) → sp vs H Q E →
      ∃ t, PSs (cxOf CX0 P w K mg base N qual (defScope st) f cdv A outer s H E).nox (defBody st) t ∧ t { nx := fun _ H' => Q .non H', rt := Q } (start N vs) H) : FnG P w K mg base (k + 1) f fd ps sp := by
  obtain ⟨oc, od, kV, doc, pm, an, cdv, ct, osl, rfl, lk, hcd⟩ := F.ex
  refine ⟨fun A outer s H args us vs Q E hgu hr e0 hb r hsp => ?_⟩
  have hl := len _ _ _ _ hsp
  have up : ∀ b o, base.get? b = some o → s.heap.get? b = some o := fun b o e => (e0.bs b o e).1
  have KS : K.In s.heap := e0.mod.kin.keeps up
  have lim : s.heap.NoLimit := e0.mod.nolimit.keeps up
  refine codeAny_call_function hr.depth (KS _ _ lk) rfl Sc.co Sc.gen rfl (PySem.W.codeRec_of KS hcd) (hb _ _ _ _ ?_)
  refine wpAny_newFunctionEnv_cells Sc.kind (fun ⟨n, v⟩ hy => ?_) fun env he s1 z => ?_
  · rcases Sc.par n (List.of_mem_zip hy).1 with q | q
    · exact .inl q
    · exact .inr ⟨q, PySem.W.cellsFrom_some _ _ _ (.inl q)⟩
  · subst he
    refine ⟨lim.keeps z.toInCall.keep, codeAny_func ?_⟩
    obtain ⟨t, ht, hq⟩ := body cdv A outer s H vs Q E hgu (hr.deeper _) hsp
    have I := inv_start (CX := CX0) (E := E) Sc hr.hd e0 hl r z
    refine wpAny_mono (ht.nox.run [] s1 (start N vs) H _ I hq) (fun fl s' h => ?_) fun e s' h => h
    cases fl with
    | ret u =>
      obtain ⟨v, σ', H', J, rv, q⟩ := h
      exact ⟨v, H', J.os, J.bare, J.base, J.hok, rv, q⟩
    | next =>
      obtain ⟨σ', H', J, q⟩ := h
      exact ⟨V.non, H', J.os, J.bare, J.base, J.hok, rfl, q⟩
    | brk =>
      obtain ⟨_, _, _, q⟩ := h
      exact q.elim
    | cont =>
      obtain ⟨_, _, _, q⟩ := h
      exact q.elim
/-- the law's promise: a list of numbers, True -/
def spLaw (K : PySem.W.Frag) : Sp := fun vs H Q _ => ∃ (sc : List Int) (a : Addr), vs = [.ref a] ∧ SqL K H a (sc.map V.int) ∧ ∀ H', Q (.bl true) H'
theorem law_okG {st : Stmt} {f : Addr} {fd : FuncData} {N : List Str} {x y : Str} {k : Nat} (F : Fun K y y st f fd) (Sc : FnScope N [x] (defScope st)) (hn : 1 ≤ N.length)
    (body : ∀ (cdv : Value) (A : Around) (outer : List Env) (s : Shared) (H : Hp) (E : XK), (BX P w K mg base N y st f cdv A outer s H E).A.guards = some [] → Room k (BX P w K mg base N y st f cdv A outer s H E).A → ∀ (c : Cz) (sc : List Int), DSs (BX P w K mg base N y st f cdv A outer s H E) c (slots0 N.length [scD sc]) [] (defBody st) { nx := fun _ _ => False, rt := fun z _ => z = .d (.bl true) }) :
    FnG P w K mg base (k + 1) f fd [x] (spLaw K) := by
  refine fun_okG F Sc (fun vs H Q E h => ?_) fun cdv A outer s H vs Q E hgu hr h => ?_
  · obtain ⟨sc, a, h2, _⟩ := h
    rw [h2]
    rfl
  · obtain ⟨sc, a, h2, h3, q⟩ := h
    subst h2
    refine ⟨_, pss_tW, ?_⟩
    have B := body cdv A outer s H E hgu hr (cB H fun _ => false) sc
    have ok : (cB H fun _ => false).Ok := cB_ok fun a h => by cases h
    have hs : Hs K (cB H fun _ => false) [] [] H := ⟨ok, Ex.refl H, rfl, fun i j p t u a => by simp at a, fun i p t a => by simp at a, fun i p t a => by simp at a⟩
    refine B (L2.start N [.ref a]) H [] hs ?_ _ ⟨fun ρ' S' σ' H' O' e1 a1 a2 a3 => e1.elim, fun z S' v H' O' e1 a1 a2 a3 => ?_, fun _ _ _ _ _ z => z.elim, fun _ _ _ _ _ z => z.elim⟩
    · have e0 : vw (cB H fun _ => false) [] [] H = H := by
        funext b
        rw [vw_nil]
        rfl
      rw [e0]
      refine start_ok (.cons (.lst h3 ?_) .nil) hn
      clear h3 B
      induction sc with
      | nil => exact .nil
      | cons n sc ih => exact .cons (.int n) ih
    · have e1' : z = .d (.bl true) := e1
      subst e1'
      have a3' : At K _ v (.bl true) := a3
      cases a3'
      exact q H'
/-- the call behind the top -/
theorem law_callG {mb : Str → Option Value} {k : Nat} {fa a : Addr} {fd : FuncData} {x : Str} {s₁ : Shared} {vs : List Value} {ns : List Int}
    (KX : K.In s₁.heap) (hns : s₁.heap.Ns mainGlobals mg) (hb : s₁.heap.Ns builtinsNs mb) (hbb : ∀ x : Str, x ≠ "__name__" → mb x = bootBuiltins x) (hlim : s₁.heap.NoLimit) (hg : s₁.gens = #[])
    (ha : s₁.heap.get? a = some { cls := .type "list", data := .seq vs.toArray }) (hi : IntsAre vs ns) (hl : ns.length ≤ sizeLine) (hr : Room k callerA)
    (F : ∀ base : Heap, K.In base → base.Ns mainGlobals mg → FnG P w K mg base k fa fd [x] (spLaw K)) (hbind : ∀ (s : Shared) (u : Value), BindsTo s fd ⟨[u], []⟩ [(x, u)]) :
    codeAny (model P w) callerA (.call (.ref fa) ⟨[.ref a], []⟩) (fun r s' => r = .ok (.ret (.bool true)) ∧ OldK s₁.heap s'.heap ∧ s'.os = s₁.os ∧ AllBare s'.gens) s₁ := by
  have rv := vals_ints hi
  have lenV := hi.length
  have main : ∀ H : Hp, Only H → SqL K H a (ns.map V.int) → HOk P w H s₁.heap → (∀ b, H b ≠ none → b = a) → (H a ≠ none → K.lookup a = none) →
      codeAny (model P w) callerA (.call (.ref fa) ⟨[.ref a], []⟩) (fun r s' => r = .ok (.ret (.bool true)) ∧ OldK s₁.heap s'.heap ∧ s'.os = s₁.os ∧ AllBare s'.gens) s₁ := by
    intro H hO hS hok hA hK
    have onlyA : ∀ {b : Addr}, H b ≠ none → b = a := fun {b} h => hA b h
    have dictN : ∀ {b : Addr} {o : Obj} {es : Array DictEntry} {ep : Nat}, s₁.heap.get? b = some o → o.data = .dict es ep → H b = none := fun {b o es ep} e d => by
      by_cases q : H b = none
      · exact q
      · have e' := onlyA q
        subst e'
        rw [ha] at e; cases e
        exact (nomatch (show Data.seq vs.toArray _ = Data.dict es ep from d))
    have nsB : ∀ {b : Addr} {m : Str → Option Value}, s₁.heap.Ns b m → (hidT s₁.heap H).Ns b m := fun {b m} ⟨o, es, ep, e, d, r⟩ => ⟨o, es, ep, hidT_get e (dictN e d), d, r⟩
    have KB : K.In (hidT s₁.heap H) := fun b o e => hidT_get (KX b o e) (by
      by_cases q : H b = none
      · exact q
      · have e' := onlyA q
        subst e'
        rw [hK q] at e; cases e)
    have hM : Mod K mg (hidT s₁.heap H) := ⟨KB, nsB hns, ⟨mb, nsB hb, hbb⟩, let ⟨mc, h1, h2⟩ := hlim; ⟨mc, nsB h1, h2⟩⟩
    have e0 : Env0 P w K mg (hidT s₁.heap H) callerA [] s₁ H := ⟨rfl, hM, fun b o e => of_hidT e, Nat.le_of_eq (hidT_size _ _), trivial, fun b hb => absurd (show b ∈ ([] : List Addr) from hb) (by simp), hok, .of_eq hg⟩
    have go := (F _ KB (nsB hns)).run callerA [] s₁ H ⟨[.ref a], []⟩ [.ref a] [.ref a] (fun v _ => v = .bl true) (fun _ _ _ => False) rfl hr e0 (hbind s₁ (.ref a)) (.cons rfl .nil) ⟨ns, a, rfl, hS, fun _ => rfl⟩
    refine codeAny_mono go fun r s' h => ?_
    cases r with
    | error e => exact h.elim
    | ok fl =>
      cases fl with
      | next => exact False.elim h
      | brk => exact False.elim h
      | cont => exact False.elim h
      | ret u =>
        obtain ⟨v, H', os, bare, un, hok', r', q⟩ := h
        have q' : v = .bl true := q
        subst q'
        obtain rfl : u = Value.bool true := r'
        refine ⟨rfl, OldK.of_keep fun b o e => ?_, os, bare⟩
        rcases hO b with z | ⟨ob, xs, z⟩
        · exact un.keep b o e z (by simp [frs]) (by simp)
        · have z2 := un.frzs b ob _ z
          obtain ⟨e1, _⟩ := hok b _ z
          obtain ⟨e2, _⟩ := hok' b _ z2
          rw [e] at e1; cases e1
          exact e2
  cases hk : K.lookup a with
  | some o =>
    have e := KX a o hk
    rw [ha] at e
    cases e
    exact main (fun _ => none) (fun _ => .inl rfl) (.inr ⟨_, vs.toArray, _, hk, rfl, rfl, rfl, by rw [List.size_toArray, lenV]; exact hl, by simpa using rv⟩) (fun b u z => (nomatch (show (none : Option HO) = some u from z))) (fun b z => absurd rfl z) fun z => absurd rfl z
  | none =>
    have self : (fun b => if b = a then some (HO.frz { cls := .type "list", data := .seq vs.toArray } (.lst (ns.map V.int))) else none : Hp) a = some (HO.frz { cls := .type "list", data := .seq vs.toArray } (.lst (ns.map V.int))) := if_pos rfl
    refine main (fun b => if b = a then some (.frz { cls := .type "list", data := .seq vs.toArray } (.lst (ns.map V.int))) else none) (fun b => ?_) (.inl (.inr ⟨_, self⟩)) (fun b u z => ?_) (fun b z => ?_) fun _ => hk
    · by_cases hb : b = a
      · exact .inr ⟨_, _, if_pos hb⟩
      · exact .inl (if_neg hb)
    · by_cases hb : b = a
      · subst hb
        have z' := self.symm.trans z
        cases z'
        exact ⟨ha, by rw [List.length_map]; exact hl, vs, _, rv, ha⟩
      · exact (nomatch (if_neg hb).symm.trans z)
    · by_cases hb : b = a
      · exact hb
      · exact absurd (if_neg hb) z
end
/-- the goal that the head leaves, from the law's promise -/
theorem walk_ofG {l : PySem.W.OpenLaw} {n k : Nat} {q : Program} {loose : List Str} {XP : (Str → Option Value) → Heap → Prop} {YP : World → Heap → Prop} {d : DefRec} {K : Params → PySem.W.Frag} {x : Str}
    (hn : l.most = some n) (hn2 : n ≤ sizeLine) (hdf : d.params.defaults = []) (hr : Room k callerA) (hY : ∀ (w : World) (h : Heap), YP w h → (K w.params).In h)
    (F : ∀ (w : World) (mg : Str → Option Value) (fa : Addr) (h : Heap), (K w.params).In h → h.Ns mainGlobals mg → mg d.name = some (.ref fa) →
      ∃ fd : FuncData, (∀ (s : Shared) (u : Value), BindsTo s fd ⟨[u], []⟩ [(x, u)]) ∧ ∀ base : Heap, (K w.params).In base → base.Ns mainGlobals mg → FnG l.prog w (K w.params) mg base k fa fd [x] (spLaw (K w.params))) :
    PySem.W.WalkO q loose XP YP l.row.toRowW d [] (fun f vs => PySem.call f vs) := by
  refine Att.attach_call hn hdf fun w s₀ s₁ mg mb fa o pm cd doc a vs ns G Y ho hd hcd hmg hobj hints hlen hg => ?_
  obtain ⟨fd, hb, hF⟩ := F w mg fa _ (hY w _ Y) G.T.g hmg
  exact law_callG (hY w _ Y) G.T.g G.T.b G.T.builtins G.T.nolimit hg hobj hints (Nat.le_trans hlen hn2) hr hF hb
end Tw
end
section
set_option Elab.async false
set_option linter.all false
set_option maxRecDepth 100000
set_option maxHeartbeats 1000000
namespace Tw
open PySem PySem.Spec PyProof.Rows L2
open Evl (Ex)
section
variable {P : Program} {w : World} {K : PySem.W.Frag} {mg : Str → Option Value} {base : Heap}
theorem law_body {f : Addr} {cdv : Value} {A : Around} {outer : List Env} {s : Shared} {H : Hp} {E : XK} (z : Zb mg) (c__law_cell : Cal P w K mg base 1 "_law_cell" (spP K R_cell)) (c__law_sizes : Cal P w K mg base 1 "_law_sizes" (spP K R_sizes)) (c__law_book : Cal P w K mg base 6 "_law_book" (spP K R_law_book)) (c__law_book_copied : Cal P w K mg base 2 "_law_book_copied" (spP K R_book_copied))
    (c_best_paper : Cal P w K mg base 10 "best_paper" (spP K R_best_paper)) (c__law_bent : Cal P w K mg base 11 "_law_bent" (spP K R_bent)) (c_judge_worths : Cal P w K mg base 9 "judge_worths" (spP K R_judge)) (c__law_shows : Cal P w K mg base 5 "_law_shows" (spP K R_shows))
    (hgu : (BX P w K mg base N_law "law" s_law f cdv A outer s H E).A.guards = some []) (hr : Room 11 (BX P w K mg base N_law "law" s_law f cdv A outer s H E).A) (c : Cz) (sc : List Int) :
    DSs (BX P w K mg base N_law "law" s_law f cdv A outer s H E) c (slots0 N_law.length [scD sc]) [] (defBody s_law) { nx := fun _ _ => False, rt := fun z _ => z = .d (.bl true) } := by
  have hu := hr.units
  have c0 := cellV_nonneg sc 0
  have hsz : menu.getD (cellV sc 0 % 13).toNat [] ∈ menu := by
    have h1 : 0 ≤ cellV sc 0 % 13 := Int.emod_nonneg _ (by decide)
    have h2 : cellV sc 0 % 13 < 13 := Int.emod_lt_of_pos _ (by decide)
    have h3 : (cellV sc 0 % 13).toNat < menu.length := by show _ < 13; omega
    rw [List.getD_eq_getElem?_getD, List.getElem?_eq_getElem h3]
    exact List.getElem_mem h3
  obtain ⟨hk0, hm18⟩ := lawBook_ok (sc := sc) (st := 1) hsz
  refine dss_cons (ds_set 1 (de_call c__law_book (hr.mono (by decide)) (da_cons (de_var 0 rfl) (da_cons de_int (da_cons (de_call c__law_sizes (hr.mono (by decide)) (da_cons (de_call c__law_cell (hr.mono (by decide)) (da_cons (de_var 0 rfl) (da_cons de_int da_nil)) (by walk_at "dats") ⟨sc, 0, rfl, rfl⟩) da_nil) (by walk_at "dats") ⟨cellV sc 0, c0, rfl, rfl⟩) da_nil))) (by walk_at "dats") ⟨sc, 1, _, hsz, rfl, rfl⟩) ?_ sc_law.nd)
  generalize lawBook sc 1 (menu.getD (cellV sc 0 % 13).toNat []) = k at hk0 hm18
  have hh := hash_sts hk0
  have pg := paper_good hk0 hm18
  refine dss_cons (ds_set 2 (de_call c__law_book_copied (hr.mono (by decide)) (da_cons (de_var 1 rfl) da_nil) (by walk_at "dats") ⟨k, hk0, rfl, rfl⟩) ?_ sc_law.nd)
  refine dss_cons (ds_set 3 (de_call c_best_paper (hr.mono (by decide)) (da_cons (de_var 2 rfl) da_nil) (by walk_at "dats") ⟨k, hk0, hm18, rfl, rfl⟩) ?_ sc_law.nd)
  refine dss_cut (fun ρ S => True) (ds_for (T := .one 4) (di_range1 z.range de_int (by decide) (by decide)) (pg_one 4 sc_law.nd) (fun i ρ S => ρ = [.d (scD sc), .d (bookD k), .d (bookD k), .d (paperD k), .un, .un, .un, .un] ∧ S = []) ?_ ?_ ?_ ?_) ?_
  · rintro i ρ S ⟨rfl, rfl⟩; exact Nat.le_refl _
  · exact ⟨_, _, ⟨by walk_at "lel", [], rfl⟩, rfl, rfl⟩
  · rintro i d ρ S hd ⟨rfl, rfl⟩
    obtain ⟨hi, ed⟩ := of_nums hd
    have e0 : (0 : Int) + ((i : Nat) : Int) = ((i : Nat) : Int) := by omega
    rw [e0] at ed
    subst ed
    refine ⟨_, .one, ?_⟩
    refine dss_cons (ds_set 5 (de_var 3 rfl) ?_ sc_law.nd)
    refine dss_cut (fun ρ S => ∃ d, ρ = [.d (scD sc), .d (bookD k), .d (bookD k), .d (paperD k), .d (.int ((i : Nat) : Int)), .d d, .un, .un] ∧ S = [] ∧ GoodP d) (ds_if (dt_cmp (de_var 4 rfl) de_int od_gt) (fun hk => ?_) fun hk => ?_) ?_
    · refine dss_cons (ds_set 5 (de_call c__law_bent (hr.mono (by decide)) (da_cons (de_var 1 rfl) (da_cons (de_var 3 rfl) (da_cons (de_call c__law_cell (hr.mono (by decide)) (da_cons (de_var 0 rfl) (da_cons (de_bin de_int (de_var 4 rfl) od_add) da_nil)) (by walk_at "dats") ⟨sc, 20 + i, by rw [show (20 : Int) + ((i : Nat) : Int) = ((20 + i : Nat) : Int) by omega], rfl⟩) da_nil))) (by walk_at "dats") ⟨k, cellV sc (20 + i), hk0, hm18, hh, rfl, rfl⟩) ?_ sc_law.nd)
      exact dss_nil ⟨_, rfl, rfl, bent_good hk0 hm18 _⟩
    · exact dss_nil ⟨_, rfl, rfl, pg⟩
    · rintro ρ S ⟨d, rfl, rfl, gd⟩
      refine dss_cons (ds_set 6 (de_strD hu hgu z.str (da_cons (de_var 5 rfl) da_nil) gd.sw) ?_ sc_law.nd)
      refine dss_cons (ds_set 7 (de_call c_judge_worths (hr.mono (by decide)) (da_cons (de_var 2 rfl) (da_cons (de_var 5 rfl) da_nil)) (by walk_at "dats") ⟨k, d, hk0, gd.fit.tame, rfl, rfl⟩) ?_ sc_law.nd)
      refine dss_cons (ds_if (dw_dt (dw_or (dt_not (dt_val (de_isi z.isinstance z.bool (de_var 7 rfl) (kit_bool _) boot_bool'))) fun hk => (dw_or (dt_cmp (de_var 7 rfl) (de_call c__law_shows (hr.mono (by decide)) (da_cons (de_var 1 rfl) (da_cons (de_var 5 rfl) da_nil)) (by walk_at "dats") ⟨k, d, hk0, gd.fit, rfl, rfl⟩) od_neB) fun hk => (dw_or (dt_cmp (de_var 2 rfl) (de_var 1 rfl) (od_neBook hu k k)) fun hk => (dw_or1 (dt_cmp (de_strD hu hgu z.str (da_cons (de_var 5 rfl) da_nil) gd.sw) (de_var 6 rfl) od_neS)))))) (fun hk => ?_) fun hk => ?_)
      · exfalso
        rw [book_self] at hk
        simp [isBlT] at hk
      · exact dss_nil (dss_nil ⟨_, _, ⟨by walk_at "lel", [], rfl⟩, rfl, rfl⟩)
  · rintro ρ S ⟨rfl, rfl⟩
    trivial
  · rintro ρ S _
    exact dss_cons (ds_ret de_bl rfl)
theorem ok_law {f : Addr} {fd : FuncData} (F : Fun K "law" "law" s_law f fd) (z : Zb mg) (c__law_cell : Cal P w K mg base 1 "_law_cell" (spP K R_cell)) (c__law_sizes : Cal P w K mg base 1 "_law_sizes" (spP K R_sizes)) (c__law_book : Cal P w K mg base 6 "_law_book" (spP K R_law_book)) (c__law_book_copied : Cal P w K mg base 2 "_law_book_copied" (spP K R_book_copied))
    (c_best_paper : Cal P w K mg base 10 "best_paper" (spP K R_best_paper)) (c__law_bent : Cal P w K mg base 11 "_law_bent" (spP K R_bent)) (c_judge_worths : Cal P w K mg base 9 "judge_worths" (spP K R_judge)) (c__law_shows : Cal P w K mg base 5 "_law_shows" (spP K R_shows)) :
    FnG P w K mg base 12 f fd ["_law_script"] (spLaw K) :=
  law_okG F sc_law (by decide) fun cdv A outer s H E hgu hr c sc => law_body z c__law_cell c__law_sizes c__law_book c__law_book_copied c_best_paper c__law_bent c_judge_worths c__law_shows hgu hr c sc
end
end Tw
end
section
set_option Elab.async false
set_option linter.all false
set_option maxRecDepth 100000
set_option maxHeartbeats 1000000
/-! what the top leaves, and the law from it. -/
namespace Tw
open PySem PySem.Spec PyProof.Rows L2
open Evl (Ex)
/-- a def of the top, where it stands -/
def FH (K : PySem.W.Frag) (x : Str) (st : Stmt) : Prop := ∃ (f : Addr) (oc : Value) (od : Option Addr) (osl : Array (Option Value)) (kV doc pm : Value) (an : Option Addr) (cdv ct : Value),
  PySem.W.nsIn K mainGlobals x = some (some (.ref f)) ∧ K.lookup f = some ⟨oc, od, .func (PySem.W.fnOf x x (defArgs st) (defBody st) (defScope st) .none kV doc pm an cdv ct), osl⟩ ∧ PySem.W.codeIn K cdv x = true ∧ PySem.W.keepIn K (.ref f) = true
section
variable {K : PySem.W.Frag} {mg : Str → Option Value} {h : Heap} {x : Str}
theorem fh_mk {st : Stmt} {f : Addr} {oc : Value} {od : Option Addr} {osl : Array (Option Value)} {kV doc pm : Value} {an : Option Addr} {cdv ct : Value} (_ : K.In h)
    (a : PySem.W.nsIn K mainGlobals x = some (some (.ref f))) (l : K.lookup f = some ⟨oc, od, .func (PySem.W.fnOf x x (defArgs st) (defBody st) (defScope st) .none kV doc pm an cdv ct), osl⟩) (c : PySem.W.codeIn K cdv x = true) (k : PySem.W.keepIn K (.ref f) = true) : FH K x st :=
  ⟨f, oc, od, osl, kV, doc, pm, an, cdv, ct, a, l, c, k⟩
theorem ft_of {st : Stmt} {ps : List Str} (X : K.In h) (G : h.Ns mainGlobals mg) (H : FH K x st)
    (hb : ∀ (kV doc pm : Value) (an : Option Addr) (cdv ct : Value) (us : List Value), us.length = ps.length → bindArgs (PySem.W.fnOf x x (defArgs st) (defBody st) (defScope st) .none kV doc pm an cdv ct) ⟨us, []⟩ = pure (ps.zip us)) : FT K mg x st ps := by
  obtain ⟨f, oc, od, osl, kV, doc, pm, an, cdv, ct, a, l, c, k⟩ := H
  have F := fun_mk (st := st) l c k
  exact ⟨f, _, F, PySem.W.mg_of X G a, F.binds hb⟩
theorem gc_int {i : Int} {t : Tok} (X : K.In h) (G : h.Ns mainGlobals mg) (a : PySem.W.nsIn K mainGlobals x = some (some (.int i t))) : GC K mg x (.int i) := ⟨⟨.int i, _, PySem.W.mg_of X G a, ⟨t, rfl⟩, fun H => .int i⟩⟩
theorem gc_pair {i j : Int} {t u : Tok} {p : Addr} {od : Option Addr} {n : Nat} {sl : Array (Option Value)} (X : K.In h) (G : h.Ns mainGlobals mg) (a : PySem.W.nsIn K mainGlobals x = some (some (.ref p))) (l : K.lookup p = some ⟨.type "tuple", od, .seq #[.int i t, .int j u] n, sl⟩) : GC K mg x (frD (i, j)) :=
  ⟨⟨.ref p, _, PySem.W.mg_of X G a, rfl, fun H => .tup (xs := [V.int i, V.int j]) (.inr ⟨_, #[.int i t, .int j u], n, l, rfl, rfl, by show 2 ≤ sizeLine; decide, .cons ⟨t, rfl⟩ (.cons ⟨u, rfl⟩ .nil)⟩) (.cons (.int i) (.cons (.int j) .nil))⟩⟩
end
structure Tops (K : PySem.W.Frag) (mg : Str → Option Value) : Prop where
  z : Zb mg
  g_WHOLE : GC K mg "WHOLE" (frD (1, 1))
  g_MOST_STANDS : GC K mg "MOST_STANDS" (.int 5)
  g_MOST_BENCHES : GC K mg "MOST_BENCHES" (.int 3)
  g_MOST_STATES : GC K mg "MOST_STATES" (.int 64)
  g_NOTHING_going : GC K mg "NOTHING_going" (frD (0, 1))
  g_ONE : GC K mg "ONE" (frD (1, 1))
  g_NOTHING_plans : GC K mg "NOTHING_plans" (frD (0, 1))
  F_common_of : FT K mg "common_of" s_common_of P_common_of
  F_shared_by : FT K mg "shared_by" s_shared_by P_shared_by
  F__law_shared : FT K mg "_law_shared" s__law_shared P__law_shared
  F_fraction_of : FT K mg "fraction_of" s_fraction_of P_fraction_of
  F__law_frac : FT K mg "_law_frac" s__law_frac P__law_frac
  F_frac_sum : FT K mg "frac_sum" s_frac_sum P_frac_sum
  F_frac_less : FT K mg "frac_less" s_frac_less P_frac_less
  F_frac_times : FT K mg "frac_times" s_frac_times P_frac_times
  F__law_plus : FT K mg "_law_plus" s__law_plus P__law_plus
  F__law_by : FT K mg "_law_by" s__law_by P__law_by
  F_frac_by : FT K mg "frac_by" s_frac_by P_frac_by
  F_frac_below : FT K mg "frac_below" s_frac_below P_frac_below
  F__law_below : FT K mg "_law_below" s__law_below P__law_below
  F_is_whole : FT K mg "is_whole" s_is_whole P_is_whole
  F_is_fraction : FT K mg "is_fraction" s_is_fraction P_is_fraction
  F_is_move : FT K mg "is_move" s_is_move P_is_move
  F_are_moves : FT K mg "are_moves" s_are_moves P_are_moves
  F_is_stand : FT K mg "is_stand" s_is_stand P_is_stand
  F_is_bench : FT K mg "is_bench" s_is_bench P_is_bench
  F_is_part : FT K mg "is_part" s_is_part P_is_part
  F_is_book : FT K mg "is_book" s_is_book P_is_book
  F_all_states : FT K mg "all_states" s_all_states P_all_states
  F_made_whole : FT K mg "made_whole" s_made_whole P_made_whole
  F_pivot_at : FT K mg "pivot_at" s_pivot_at P_pivot_at
  F_cleared : FT K mg "cleared" s_cleared P_cleared
  F_solved_rows : FT K mg "solved_rows" s_solved_rows P_solved_rows
  F_look_at_book : FT K mg "look_at_book" s_look_at_book P_look_at_book
  F_went_on : FT K mg "went_on" s_went_on P_went_on
  F_quotients : FT K mg "quotients" s_quotients P_quotients
  F_greatest_of : FT K mg "greatest_of" s_greatest_of P_greatest_of
  F_indices_found : FT K mg "indices_found" s_indices_found P_indices_found
  F_is_bench_number : FT K mg "is_bench_number" s_is_bench_number P_is_bench_number
  F_has_states : FT K mg "has_states" s_has_states P_has_states
  F_is_plan : FT K mg "is_plan" s_is_plan P_is_plan
  F_look_at_plan : FT K mg "look_at_plan" s_look_at_plan P_look_at_plan
  F_moved_to : FT K mg "moved_to" s_moved_to P_moved_to
  F_tried_worth : FT K mg "tried_worth" s_tried_worth P_tried_worth
  F_worths_by : FT K mg "worths_by" s_worths_by P_worths_by
  F_plan_worths : FT K mg "plan_worths" s_plan_worths P_plan_worths
  F_book_indices : FT K mg "book_indices" s_book_indices P_book_indices
  F_greatest_bench : FT K mg "greatest_bench" s_greatest_bench P_greatest_bench
  F_plan_by_indices : FT K mg "plan_by_indices" s_plan_by_indices P_plan_by_indices
  F_greatest_plan : FT K mg "greatest_plan" s_greatest_plan P_greatest_plan
  F_best_worths : FT K mg "best_worths" s_best_worths P_best_worths
  F_best_paper : FT K mg "best_paper" s_best_paper P_best_paper
  F_are_worths : FT K mg "are_worths" s_are_worths P_are_worths
  F_holds_at : FT K mg "holds_at" s_holds_at P_holds_at
  F_judge_worths : FT K mg "judge_worths" s_judge_worths P_judge_worths
  F__law_cell : FT K mg "_law_cell" s__law_cell P__law_cell
  F__law_take : FT K mg "_law_take" s__law_take P__law_take
  F__law_gain : FT K mg "_law_gain" s__law_gain P__law_gain
  F__law_part : FT K mg "_law_part" s__law_part P__law_part
  F__law_copied : FT K mg "_law_copied" s__law_copied P__law_copied
  F__law_book_copied : FT K mg "_law_book_copied" s__law_book_copied P__law_book_copied
  F__law_is_fraction : FT K mg "_law_is_fraction" s__law_is_fraction P__law_is_fraction
  F__law_states : FT K mg "_law_states" s__law_states P__law_states
  F__law_tried : FT K mg "_law_tried" s__law_tried P__law_tried
  F__law_plan : FT K mg "_law_plan" s__law_plan P__law_plan
  F__law_sizes : FT K mg "_law_sizes" s__law_sizes P__law_sizes
  F__law_stand : FT K mg "_law_stand" s__law_stand P__law_stand
  F__law_bench : FT K mg "_law_bench" s__law_bench P__law_bench
  F__law_book : FT K mg "_law_book" s__law_book P__law_book
  F__law_are_worths : FT K mg "_law_are_worths" s__law_are_worths P__law_are_worths
  F__law_shows : FT K mg "_law_shows" s__law_shows P__law_shows
  F__law_bent_worths : FT K mg "_law_bent_worths" s__law_bent_worths P__law_bent_worths
  F__law_bent_plan : FT K mg "_law_bent_plan" s__law_bent_plan P__law_bent_plan
  F__law_bent : FT K mg "_law_bent" s__law_bent P__law_bent
section
variable {P : Program} {w : World} {K : PySem.W.Frag} {mg : Str → Option Value} {base : Heap}
theorem law_of {f : Addr} {fd : FuncData} (T : Tops K mg) (F : Fun K "law" "law" s_law f fd) : FnG P w K mg base 12 f fd ["_law_script"] (spLaw K) := by
  have c_common_of := ok_common_of (P := P) (w := w) (base := base) T.F_common_of T.z
  have c_shared_by := ok_shared_by (P := P) (w := w) (base := base) T.F_shared_by T.z
  have c__law_shared := ok_law_shared (P := P) (w := w) (base := base) T.F__law_shared T.z
  have c_fraction_of := ok_fraction_of (P := P) (w := w) (base := base) T.F_fraction_of c_common_of
  have c__law_frac := ok_law_frac (P := P) (w := w) (base := base) T.F__law_frac c__law_shared
  have c_frac_sum := ok_frac_sum (P := P) (w := w) (base := base) T.F_frac_sum c_fraction_of
  have c_frac_less := ok_frac_less (P := P) (w := w) (base := base) T.F_frac_less c_fraction_of
  have c_frac_times := ok_frac_times (P := P) (w := w) (base := base) T.F_frac_times c_fraction_of
  have c__law_plus := ok_law_plus (P := P) (w := w) (base := base) T.F__law_plus c__law_frac
  have c__law_by := ok_law_by (P := P) (w := w) (base := base) T.F__law_by c__law_frac
  have c_frac_by := ok_frac_by (P := P) (w := w) (base := base) T.F_frac_by c_fraction_of
  have c_frac_below := ok_frac_below (P := P) (w := w) (base := base) T.F_frac_below
  have c__law_below := ok_law_below (P := P) (w := w) (base := base) T.F__law_below
  have c_is_whole := ok_is_whole (P := P) (w := w) (base := base) T.F_is_whole T.z
  have c_is_fraction := ok_is_fraction (P := P) (w := w) (base := base) T.F_is_fraction T.z c_common_of c_is_whole
  have c_is_move := ok_is_move (P := P) (w := w) (base := base) T.F_is_move T.z c_is_fraction c_is_whole
  have c_are_moves := ok_are_moves (P := P) (w := w) (base := base) T.F_are_moves T.z c_is_move c_frac_sum T.g_WHOLE
  have c_is_stand := ok_is_stand (P := P) (w := w) (base := base) T.F_is_stand T.z c_is_fraction c_are_moves
  have c_is_bench := ok_is_bench (P := P) (w := w) (base := base) T.F_is_bench T.z T.g_MOST_STANDS c_is_stand
  have c_is_part := ok_is_part (P := P) (w := w) (base := base) T.F_is_part c_is_fraction
  have c_is_book := ok_is_book (P := P) (w := w) (base := base) T.F_is_book T.z T.g_MOST_BENCHES c_is_part c_is_bench
  have c_all_states := ok_all_states (P := P) (w := w) (base := base) T.F_all_states T.z
  have c_made_whole := ok_made_whole (P := P) (w := w) (base := base) T.F_made_whole c_shared_by
  have c_pivot_at := ok_pivot_at (P := P) (w := w) (base := base) T.F_pivot_at T.z
  have c_cleared := ok_cleared (P := P) (w := w) (base := base) T.F_cleared T.z
  have c_solved_rows := ok_solved_rows (P := P) (w := w) (base := base) T.F_solved_rows T.z c_made_whole c_pivot_at c_cleared c_fraction_of
  have c_look_at_book := ok_look_at_book (P := P) (w := w) (base := base) T.F_look_at_book T.z T.g_MOST_STATES c_is_book
  have c_went_on := ok_went_on (P := P) (w := w) (base := base) T.F_went_on T.z T.g_NOTHING_going T.g_ONE c_frac_less c_frac_times c_solved_rows
  have c_quotients := ok_quotients (P := P) (w := w) (base := base) T.F_quotients T.z c_went_on c_frac_by
  have c_greatest_of := ok_greatest_of (P := P) (w := w) (base := base) T.F_greatest_of c_frac_below
  have c_indices_found := ok_indices_found (P := P) (w := w) (base := base) T.F_indices_found T.z c_quotients c_greatest_of
  have c_is_bench_number := ok_is_bench_number (P := P) (w := w) (base := base) T.F_is_bench_number T.z
  have c_has_states := ok_has_states (P := P) (w := w) (base := base) T.F_has_states T.z c_all_states
  have c_is_plan := ok_is_plan (P := P) (w := w) (base := base) T.F_is_plan T.z c_has_states c_is_bench_number
  have c_look_at_plan := ok_look_at_plan (P := P) (w := w) (base := base) T.F_look_at_plan c_is_plan
  have c_moved_to := ok_moved_to (P := P) (w := w) (base := base) T.F_moved_to
  have c_tried_worth := ok_tried_worth (P := P) (w := w) (base := base) T.F_tried_worth T.g_NOTHING_plans c_frac_sum c_frac_times c_moved_to
  have c_worths_by := ok_worths_by (P := P) (w := w) (base := base) T.F_worths_by T.z T.g_NOTHING_plans c_all_states c_frac_less c_frac_times c_moved_to c_solved_rows
  have c_plan_worths := ok_plan_worths (P := P) (w := w) (base := base) T.F_plan_worths c_look_at_book c_look_at_plan c_worths_by
  have c_book_indices := ok_book_indices (P := P) (w := w) (base := base) T.F_book_indices c_indices_found
  have c_greatest_bench := ok_greatest_bench (P := P) (w := w) (base := base) T.F_greatest_bench T.z c_frac_below
  have c_plan_by_indices := ok_plan_by_indices (P := P) (w := w) (base := base) T.F_plan_by_indices c_book_indices c_all_states c_greatest_bench
  have c_greatest_plan := ok_greatest_plan (P := P) (w := w) (base := base) T.F_greatest_plan c_look_at_book c_plan_by_indices
  have c_best_worths := ok_best_worths (P := P) (w := w) (base := base) T.F_best_worths c_look_at_book c_plan_by_indices c_worths_by
  have c_best_paper := ok_best_paper (P := P) (w := w) (base := base) T.F_best_paper c_greatest_plan c_best_worths
  have c_are_worths := ok_are_worths (P := P) (w := w) (base := base) T.F_are_worths T.z c_has_states c_is_fraction
  have c_holds_at := ok_holds_at (P := P) (w := w) (base := base) T.F_holds_at T.z c_tried_worth c_frac_below
  have c_judge_worths := ok_judge_worths (P := P) (w := w) (base := base) T.F_judge_worths T.z c_look_at_book c_is_plan c_are_worths c_all_states c_holds_at
  have c__law_cell := ok_law_cell (P := P) (w := w) (base := base) T.F__law_cell T.z
  have c__law_take := ok_law_take (P := P) (w := w) (base := base) T.F__law_take
  have c__law_gain := ok_law_gain (P := P) (w := w) (base := base) T.F__law_gain c__law_take c__law_frac
  have c__law_part := ok_law_part (P := P) (w := w) (base := base) T.F__law_part c__law_take c__law_frac
  have c__law_copied := ok_law_copied (P := P) (w := w) (base := base) T.F__law_copied T.z
  have c__law_book_copied := ok_law_book_copied (P := P) (w := w) (base := base) T.F__law_book_copied c__law_copied
  have c__law_is_fraction := ok_law_is_fraction (P := P) (w := w) (base := base) T.F__law_is_fraction T.z c__law_shared
  have c__law_states := ok_law_states (P := P) (w := w) (base := base) T.F__law_states T.z
  have c__law_tried := ok_law_tried (P := P) (w := w) (base := base) T.F__law_tried c__law_plus c__law_by
  have c__law_plan := ok_law_plan (P := P) (w := w) (base := base) T.F__law_plan T.z c__law_cell c__law_states c__law_take
  have c__law_sizes := ok_law_sizes (P := P) (w := w) (base := base) T.F__law_sizes
  have c__law_stand := ok_law_stand (P := P) (w := w) (base := base) T.F__law_stand T.z c__law_take c__law_gain c__law_frac
  have c__law_bench := ok_law_bench (P := P) (w := w) (base := base) T.F__law_bench T.z c__law_cell c__law_stand
  have c__law_book := ok_law_book (P := P) (w := w) (base := base) T.F__law_book c__law_cell c__law_part c__law_bench
  have c__law_are_worths := ok_law_are_worths (P := P) (w := w) (base := base) T.F__law_are_worths T.z c__law_states c__law_is_fraction
  have c__law_shows := ok_law_shows (P := P) (w := w) (base := base) T.F__law_shows T.z c__law_states c__law_are_worths c__law_tried c__law_below
  have c__law_bent_worths := ok_law_bent_worths (P := P) (w := w) (base := base) T.F__law_bent_worths T.z c__law_states c__law_frac c__law_plus c__law_plan c_plan_worths
  have c__law_bent_plan := ok_law_bent_plan (P := P) (w := w) (base := base) T.F__law_bent_plan T.z c__law_states
  have c__law_bent := ok_law_bent (P := P) (w := w) (base := base) T.F__law_bent T.z c__law_bent_plan c__law_bent_worths
  exact ok_law F T.z c__law_cell c__law_sizes c__law_book c__law_book_copied c_best_paper c__law_bent c_judge_worths c__law_shows
end
section
variable {K : PySem.W.Frag} {mg : Str → Option Value} {h : Heap}
theorem tops_of (X : K.In h) (G : h.Ns mainGlobals mg)
    (z_len : PySem.W.nsIn K mainGlobals "len" = some none)
    (z_isinstance : PySem.W.nsIn K mainGlobals "isinstance" = some none)
    (z_int : PySem.W.nsIn K mainGlobals "int" = some none)
    (z_bool : PySem.W.nsIn K mainGlobals "bool" = some none)
    (z_tuple : PySem.W.nsIn K mainGlobals "tuple" = some none)
    (z_list : PySem.W.nsIn K mainGlobals "list" = some none)
    (z_dict : PySem.W.nsIn K mainGlobals "dict" = some none)
    (z_str : PySem.W.nsIn K mainGlobals "str" = some none)
    (z_abs : PySem.W.nsIn K mainGlobals "abs" = some none)
    (z_all : PySem.W.nsIn K mainGlobals "all" = some none)
    (z_any : PySem.W.nsIn K mainGlobals "any" = some none)
    (z_sum : PySem.W.nsIn K mainGlobals "sum" = some none)
    (z_range : PySem.W.nsIn K mainGlobals "range" = some none)
    (z_enumerate : PySem.W.nsIn K mainGlobals "enumerate" = some none)
    (z_zip : PySem.W.nsIn K mainGlobals "zip" = some none)
    (z_sorted : PySem.W.nsIn K mainGlobals "sorted" = some none)
    (g_WHOLE : GC K mg "WHOLE" (frD (1, 1)))
    (g_MOST_STANDS : GC K mg "MOST_STANDS" (.int 5))
    (g_MOST_BENCHES : GC K mg "MOST_BENCHES" (.int 3))
    (g_MOST_STATES : GC K mg "MOST_STATES" (.int 64))
    (g_NOTHING_going : GC K mg "NOTHING_going" (frD (0, 1)))
    (g_ONE : GC K mg "ONE" (frD (1, 1)))
    (g_NOTHING_plans : GC K mg "NOTHING_plans" (frD (0, 1)))
    (h_common_of : FH K "common_of" s_common_of)
    (h_shared_by : FH K "shared_by" s_shared_by)
    (h__law_shared : FH K "_law_shared" s__law_shared)
    (h_fraction_of : FH K "fraction_of" s_fraction_of)
    (h__law_frac : FH K "_law_frac" s__law_frac)
    (h_frac_sum : FH K "frac_sum" s_frac_sum)
    (h_frac_less : FH K "frac_less" s_frac_less)
    (h_frac_times : FH K "frac_times" s_frac_times)
    (h__law_plus : FH K "_law_plus" s__law_plus)
    (h__law_by : FH K "_law_by" s__law_by)
    (h_frac_by : FH K "frac_by" s_frac_by)
    (h_frac_below : FH K "frac_below" s_frac_below)
    (h__law_below : FH K "_law_below" s__law_below)
    (h_is_whole : FH K "is_whole" s_is_whole)
    (h_is_fraction : FH K "is_fraction" s_is_fraction)
    (h_is_move : FH K "is_move" s_is_move)
    (h_are_moves : FH K "are_moves" s_are_moves)
    (h_is_stand : FH K "is_stand" s_is_stand)
    (h_is_bench : FH K "is_bench" s_is_bench)
    (h_is_part : FH K "is_part" s_is_part)
    (h_is_book : FH K "is_book" s_is_book)
    (h_all_states : FH K "all_states" s_all_states)
    (h_made_whole : FH K "made_whole" s_made_whole)
    (h_pivot_at : FH K "pivot_at" s_pivot_at)
    (h_cleared : FH K "cleared" s_cleared)
    (h_solved_rows : FH K "solved_rows" s_solved_rows)
    (h_look_at_book : FH K "look_at_book" s_look_at_book)
    (h_went_on : FH K "went_on" s_went_on)
    (h_quotients : FH K "quotients" s_quotients)
    (h_greatest_of : FH K "greatest_of" s_greatest_of)
    (h_indices_found : FH K "indices_found" s_indices_found)
    (h_is_bench_number : FH K "is_bench_number" s_is_bench_number)
    (h_has_states : FH K "has_states" s_has_states)
    (h_is_plan : FH K "is_plan" s_is_plan)
    (h_look_at_plan : FH K "look_at_plan" s_look_at_plan)
    (h_moved_to : FH K "moved_to" s_moved_to)
    (h_tried_worth : FH K "tried_worth" s_tried_worth)
    (h_worths_by : FH K "worths_by" s_worths_by)
    (h_plan_worths : FH K "plan_worths" s_plan_worths)
    (h_book_indices : FH K "book_indices" s_book_indices)
    (h_greatest_bench : FH K "greatest_bench" s_greatest_bench)
    (h_plan_by_indices : FH K "plan_by_indices" s_plan_by_indices)
    (h_greatest_plan : FH K "greatest_plan" s_greatest_plan)
    (h_best_worths : FH K "best_worths" s_best_worths)
    (h_best_paper : FH K "best_paper" s_best_paper)
    (h_are_worths : FH K "are_worths" s_are_worths)
    (h_holds_at : FH K "holds_at" s_holds_at)
    (h_judge_worths : FH K "judge_worths" s_judge_worths)
    (h__law_cell : FH K "_law_cell" s__law_cell)
    (h__law_take : FH K "_law_take" s__law_take)
    (h__law_gain : FH K "_law_gain" s__law_gain)
    (h__law_part : FH K "_law_part" s__law_part)
    (h__law_copied : FH K "_law_copied" s__law_copied)
    (h__law_book_copied : FH K "_law_book_copied" s__law_book_copied)
    (h__law_is_fraction : FH K "_law_is_fraction" s__law_is_fraction)
    (h__law_states : FH K "_law_states" s__law_states)
    (h__law_tried : FH K "_law_tried" s__law_tried)
    (h__law_plan : FH K "_law_plan" s__law_plan)
    (h__law_sizes : FH K "_law_sizes" s__law_sizes)
    (h__law_stand : FH K "_law_stand" s__law_stand)
    (h__law_bench : FH K "_law_bench" s__law_bench)
    (h__law_book : FH K "_law_book" s__law_book)
    (h__law_are_worths : FH K "_law_are_worths" s__law_are_worths)
    (h__law_shows : FH K "_law_shows" s__law_shows)
    (h__law_bent_worths : FH K "_law_bent_worths" s__law_bent_worths)
    (h__law_bent_plan : FH K "_law_bent_plan" s__law_bent_plan)
    (h__law_bent : FH K "_law_bent" s__law_bent)
    : Tops K mg :=
  ⟨⟨PySem.W.mg_none_of X G z_len, PySem.W.mg_none_of X G z_isinstance, PySem.W.mg_none_of X G z_int, PySem.W.mg_none_of X G z_bool, PySem.W.mg_none_of X G z_tuple, PySem.W.mg_none_of X G z_list, PySem.W.mg_none_of X G z_dict, PySem.W.mg_none_of X G z_str, PySem.W.mg_none_of X G z_abs, PySem.W.mg_none_of X G z_all, PySem.W.mg_none_of X G z_any, PySem.W.mg_none_of X G z_sum, PySem.W.mg_none_of X G z_range, PySem.W.mg_none_of X G z_enumerate, PySem.W.mg_none_of X G z_zip, PySem.W.mg_none_of X G z_sorted⟩,
    g_WHOLE, g_MOST_STANDS, g_MOST_BENCHES, g_MOST_STATES, g_NOTHING_going, g_ONE, g_NOTHING_plans,
    ft_of X G h_common_of (fun _ _ _ _ _ _ us hl => match us, hl with | [_, _], _ => rfl),
    ft_of X G h_shared_by (fun _ _ _ _ _ _ us hl => match us, hl with | [_, _], _ => rfl),
    ft_of X G h__law_shared (fun _ _ _ _ _ _ us hl => match us, hl with | [_, _], _ => rfl),
    ft_of X G h_fraction_of (fun _ _ _ _ _ _ us hl => match us, hl with | [_, _], _ => rfl),
    ft_of X G h__law_frac (fun _ _ _ _ _ _ us hl => match us, hl with | [_, _], _ => rfl),
    ft_of X G h_frac_sum (fun _ _ _ _ _ _ us hl => match us, hl with | [_, _], _ => rfl),
    ft_of X G h_frac_less (fun _ _ _ _ _ _ us hl => match us, hl with | [_, _], _ => rfl),
    ft_of X G h_frac_times (fun _ _ _ _ _ _ us hl => match us, hl with | [_, _], _ => rfl),
    ft_of X G h__law_plus (fun _ _ _ _ _ _ us hl => match us, hl with | [_, _], _ => rfl),
    ft_of X G h__law_by (fun _ _ _ _ _ _ us hl => match us, hl with | [_, _], _ => rfl),
    ft_of X G h_frac_by (fun _ _ _ _ _ _ us hl => match us, hl with | [_, _], _ => rfl),
    ft_of X G h_frac_below (fun _ _ _ _ _ _ us hl => match us, hl with | [_, _], _ => rfl),
    ft_of X G h__law_below (fun _ _ _ _ _ _ us hl => match us, hl with | [_, _], _ => rfl),
    ft_of X G h_is_whole (fun _ _ _ _ _ _ us hl => match us, hl with | [_], _ => rfl),
    ft_of X G h_is_fraction (fun _ _ _ _ _ _ us hl => match us, hl with | [_], _ => rfl),
    ft_of X G h_is_move (fun _ _ _ _ _ _ us hl => match us, hl with | [_, _, _], _ => rfl),
    ft_of X G h_are_moves (fun _ _ _ _ _ _ us hl => match us, hl with | [_, _], _ => rfl),
    ft_of X G h_is_stand (fun _ _ _ _ _ _ us hl => match us, hl with | [_, _], _ => rfl),
    ft_of X G h_is_bench (fun _ _ _ _ _ _ us hl => match us, hl with | [_], _ => rfl),
    ft_of X G h_is_part (fun _ _ _ _ _ _ us hl => match us, hl with | [_], _ => rfl),
    ft_of X G h_is_book (fun _ _ _ _ _ _ us hl => match us, hl with | [_], _ => rfl),
    ft_of X G h_all_states (fun _ _ _ _ _ _ us hl => match us, hl with | [_], _ => rfl),
    ft_of X G h_made_whole (fun _ _ _ _ _ _ us hl => match us, hl with | [_], _ => rfl),
    ft_of X G h_pivot_at (fun _ _ _ _ _ _ us hl => match us, hl with | [_, _], _ => rfl),
    ft_of X G h_cleared (fun _ _ _ _ _ _ us hl => match us, hl with | [_, _, _], _ => rfl),
    ft_of X G h_solved_rows (fun _ _ _ _ _ _ us hl => match us, hl with | [_, _], _ => rfl),
    ft_of X G h_look_at_book (fun _ _ _ _ _ _ us hl => match us, hl with | [_], _ => rfl),
    ft_of X G h_went_on (fun _ _ _ _ _ _ us hl => match us, hl with | [_, _, _], _ => rfl),
    ft_of X G h_quotients (fun _ _ _ _ _ _ us hl => match us, hl with | [_, _, _], _ => rfl),
    ft_of X G h_greatest_of (fun _ _ _ _ _ _ us hl => match us, hl with | [_, _], _ => rfl),
    ft_of X G h_indices_found (fun _ _ _ _ _ _ us hl => match us, hl with | [_, _], _ => rfl),
    ft_of X G h_is_bench_number (fun _ _ _ _ _ _ us hl => match us, hl with | [_, _], _ => rfl),
    ft_of X G h_has_states (fun _ _ _ _ _ _ us hl => match us, hl with | [_, _], _ => rfl),
    ft_of X G h_is_plan (fun _ _ _ _ _ _ us hl => match us, hl with | [_, _], _ => rfl),
    ft_of X G h_look_at_plan (fun _ _ _ _ _ _ us hl => match us, hl with | [_, _], _ => rfl),
    ft_of X G h_moved_to (fun _ _ _ _ _ _ us hl => match us, hl with | [_, _, _], _ => rfl),
    ft_of X G h_tried_worth (fun _ _ _ _ _ _ us hl => match us, hl with | [_, _, _, _], _ => rfl),
    ft_of X G h_worths_by (fun _ _ _ _ _ _ us hl => match us, hl with | [_, _], _ => rfl),
    ft_of X G h_plan_worths (fun _ _ _ _ _ _ us hl => match us, hl with | [_, _], _ => rfl),
    ft_of X G h_book_indices (fun _ _ _ _ _ _ us hl => match us, hl with | [_], _ => rfl),
    ft_of X G h_greatest_bench (fun _ _ _ _ _ _ us hl => match us, hl with | [_, _], _ => rfl),
    ft_of X G h_plan_by_indices (fun _ _ _ _ _ _ us hl => match us, hl with | [_], _ => rfl),
    ft_of X G h_greatest_plan (fun _ _ _ _ _ _ us hl => match us, hl with | [_], _ => rfl),
    ft_of X G h_best_worths (fun _ _ _ _ _ _ us hl => match us, hl with | [_], _ => rfl),
    ft_of X G h_best_paper (fun _ _ _ _ _ _ us hl => match us, hl with | [_], _ => rfl),
    ft_of X G h_are_worths (fun _ _ _ _ _ _ us hl => match us, hl with | [_, _], _ => rfl),
    ft_of X G h_holds_at (fun _ _ _ _ _ _ us hl => match us, hl with | [_, _, _, _], _ => rfl),
    ft_of X G h_judge_worths (fun _ _ _ _ _ _ us hl => match us, hl with | [_, _], _ => rfl),
    ft_of X G h__law_cell (fun _ _ _ _ _ _ us hl => match us, hl with | [_, _], _ => rfl),
    ft_of X G h__law_take (fun _ _ _ _ _ _ us hl => match us, hl with | [_, _], _ => rfl),
    ft_of X G h__law_gain (fun _ _ _ _ _ _ us hl => match us, hl with | [_], _ => rfl),
    ft_of X G h__law_part (fun _ _ _ _ _ _ us hl => match us, hl with | [_], _ => rfl),
    ft_of X G h__law_copied (fun _ _ _ _ _ _ us hl => match us, hl with | [_], _ => rfl),
    ft_of X G h__law_book_copied (fun _ _ _ _ _ _ us hl => match us, hl with | [_], _ => rfl),
    ft_of X G h__law_is_fraction (fun _ _ _ _ _ _ us hl => match us, hl with | [_], _ => rfl),
    ft_of X G h__law_states (fun _ _ _ _ _ _ us hl => match us, hl with | [_], _ => rfl),
    ft_of X G h__law_tried (fun _ _ _ _ _ _ us hl => match us, hl with | [_, _, _, _], _ => rfl),
    ft_of X G h__law_plan (fun _ _ _ _ _ _ us hl => match us, hl with | [_, _, _], _ => rfl),
    ft_of X G h__law_sizes (fun _ _ _ _ _ _ us hl => match us, hl with | [_], _ => rfl),
    ft_of X G h__law_stand (fun _ _ _ _ _ _ us hl => match us, hl with | [_, _], _ => rfl),
    ft_of X G h__law_bench (fun _ _ _ _ _ _ us hl => match us, hl with | [_, _, _], _ => rfl),
    ft_of X G h__law_book (fun _ _ _ _ _ _ us hl => match us, hl with | [_, _, _], _ => rfl),
    ft_of X G h__law_are_worths (fun _ _ _ _ _ _ us hl => match us, hl with | [_, _], _ => rfl),
    ft_of X G h__law_shows (fun _ _ _ _ _ _ us hl => match us, hl with | [_, _], _ => rfl),
    ft_of X G h__law_bent_worths (fun _ _ _ _ _ _ us hl => match us, hl with | [_, _, _], _ => rfl),
    ft_of X G h__law_bent_plan (fun _ _ _ _ _ _ us hl => match us, hl with | [_, _, _], _ => rfl),
    ft_of X G h__law_bent (fun _ _ _ _ _ _ us hl => match us, hl with | [_, _, _], _ => rfl)⟩
theorem fin_of {P : Program} {w : World} {fa : Addr} (X : K.In h) (G : h.Ns mainGlobals mg) (hfa : mg "law" = some (.ref fa)) (T : Tops K mg) (H : FH K "law" s_law) :
    ∃ fd : FuncData, (∀ (s : Shared) (u : Value), BindsTo s fd ⟨[u], []⟩ [("_law_script", u)]) ∧ ∀ base : Heap, K.In base → base.Ns mainGlobals mg → FnG P w K mg base 12 fa fd ["_law_script"] (spLaw K) := by
  obtain ⟨f, oc, od, osl, kV, doc, pm, an, cdv, ct, a, l, c, k⟩ := H
  have e := hfa.symm.trans (PySem.W.mg_of X G a)
  cases e
  exact ⟨_, fun s v => .of_eq rfl, fun base _ _ => law_of T (fun_mk (st := s_law) l c k)⟩
end
end Tw
end
section
set_option Elab.async false
set_option linter.all false
set_option maxRecDepth 100000
set_option maxHeartbeats 1000000
open PySem PySem.W PyProof.Rows
set_option maxRecDepth 100000 in
set_option maxHeartbeats 0 in
theorem PySem.Challenge.cw_turnworth_k96_whole_a_judge_of_worths_holds : PySem.Challenge.rw_turnworth_k96_whole_a_judge_of_worths.Holds := by
  w_on; o_law; k_head; (case hw => w_witness2)
  k_fill
  refine Tw.walk_ofG (l := PySem.Challenge.rw_turnworth_k96_whole_a_judge_of_worths) (n := 63) (k := 12) (x := "_law_script") rfl (by decide) rfl ⟨rfl, by decide, by decide⟩ (fun w h Y => PySem.W.kIn_of Y) ?F
  case F =>
    intro w mg fa h KX G hmg
    have g_WHOLE := by
      refine' Tw.gc_pair (x := "WHOLE") (i := 1) (j := 1) KX G ?a ?l
      (case a => k_is); (case l => k_is)
    have g_MOST_STANDS := by
      refine' Tw.gc_int (x := "MOST_STANDS") (i := 5) KX G ?a
      (case a => k_is)
    have g_MOST_BENCHES := by
      refine' Tw.gc_int (x := "MOST_BENCHES") (i := 3) KX G ?a
      (case a => k_is)
    have g_MOST_STATES := by
      refine' Tw.gc_int (x := "MOST_STATES") (i := 64) KX G ?a
      (case a => k_is)
    have g_NOTHING_going := by
      refine' Tw.gc_pair (x := "NOTHING_going") (i := 0) (j := 1) KX G ?a ?l
      (case a => k_is); (case l => k_is)
    have g_ONE := by
      refine' Tw.gc_pair (x := "ONE") (i := 1) (j := 1) KX G ?a ?l
      (case a => k_is); (case l => k_is)
    have g_NOTHING_plans := by
      refine' Tw.gc_pair (x := "NOTHING_plans") (i := 0) (j := 1) KX G ?a ?l
      (case a => k_is); (case l => k_is)
    have h_common_of := by
      refine' Tw.fh_mk (x := "common_of") (st := Tw.s_common_of) KX ?a ?l ?c ?k
      (case a => k_is); (case l => k_is); (case c => k_is); (case k => k_is)
    have h_shared_by := by
      refine' Tw.fh_mk (x := "shared_by") (st := Tw.s_shared_by) KX ?a ?l ?c ?k
      (case a => k_is); (case l => k_is); (case c => k_is); (case k => k_is)
    have h__law_shared := by
      refine' Tw.fh_mk (x := "_law_shared") (st := Tw.s__law_shared) KX ?a ?l ?c ?k
      (case a => k_is); (case l => k_is); (case c => k_is); (case k => k_is)
    have h_fraction_of := by
      refine' Tw.fh_mk (x := "fraction_of") (st := Tw.s_fraction_of) KX ?a ?l ?c ?k
      (case a => k_is); (case l => k_is); (case c => k_is); (case k => k_is)
    have h__law_frac := by
      refine' Tw.fh_mk (x := "_law_frac") (st := Tw.s__law_frac) KX ?a ?l ?c ?k
      (case a => k_is); (case l => k_is); (case c => k_is); (case k => k_is)
    have h_frac_sum := by
      refine' Tw.fh_mk (x := "frac_sum") (st := Tw.s_frac_sum) KX ?a ?l ?c ?k
      (case a => k_is); (case l => k_is); (case c => k_is); (case k => k_is)
    have h_frac_less := by
      refine' Tw.fh_mk (x := "frac_less") (st := Tw.s_frac_less) KX ?a ?l ?c ?k
      (case a => k_is); (case l => k_is); (case c => k_is); (case k => k_is)
    have h_frac_times := by
      refine' Tw.fh_mk (x := "frac_times") (st := Tw.s_frac_times) KX ?a ?l ?c ?k
      (case a => k_is); (case l => k_is); (case c => k_is); (case k => k_is)
    have h__law_plus := by
      refine' Tw.fh_mk (x := "_law_plus") (st := Tw.s__law_plus) KX ?a ?l ?c ?k
      (case a => k_is); (case l => k_is); (case c => k_is); (case k => k_is)
    have h__law_by := by
      refine' Tw.fh_mk (x := "_law_by") (st := Tw.s__law_by) KX ?a ?l ?c ?k
      (case a => k_is); (case l => k_is); (case c => k_is); (case k => k_is)
    have h_frac_by := by
      refine' Tw.fh_mk (x := "frac_by") (st := Tw.s_frac_by) KX ?a ?l ?c ?k
      (case a => k_is); (case l => k_is); (case c => k_is); (case k => k_is)
    have h_frac_below := by
      refine' Tw.fh_mk (x := "frac_below") (st := Tw.s_frac_below) KX ?a ?l ?c ?k
      (case a => k_is); (case l => k_is); (case c => k_is); (case k => k_is)
    have h__law_below := by
      refine' Tw.fh_mk (x := "_law_below") (st := Tw.s__law_below) KX ?a ?l ?c ?k
      (case a => k_is); (case l => k_is); (case c => k_is); (case k => k_is)
    have h_is_whole := by
      refine' Tw.fh_mk (x := "is_whole") (st := Tw.s_is_whole) KX ?a ?l ?c ?k
      (case a => k_is); (case l => k_is); (case c => k_is); (case k => k_is)
    have h_is_fraction := by
      refine' Tw.fh_mk (x := "is_fraction") (st := Tw.s_is_fraction) KX ?a ?l ?c ?k
      (case a => k_is); (case l => k_is); (case c => k_is); (case k => k_is)
    have h_is_move := by
      refine' Tw.fh_mk (x := "is_move") (st := Tw.s_is_move) KX ?a ?l ?c ?k
      (case a => k_is); (case l => k_is); (case c => k_is); (case k => k_is)
    have h_are_moves := by
      refine' Tw.fh_mk (x := "are_moves") (st := Tw.s_are_moves) KX ?a ?l ?c ?k
      (case a => k_is); (case l => k_is); (case c => k_is); (case k => k_is)
    have h_is_stand := by
      refine' Tw.fh_mk (x := "is_stand") (st := Tw.s_is_stand) KX ?a ?l ?c ?k
      (case a => k_is); (case l => k_is); (case c => k_is); (case k => k_is)
    have h_is_bench := by
      refine' Tw.fh_mk (x := "is_bench") (st := Tw.s_is_bench) KX ?a ?l ?c ?k
      (case a => k_is); (case l => k_is); (case c => k_is); (case k => k_is)
    have h_is_part := by
      refine' Tw.fh_mk (x := "is_part") (st := Tw.s_is_part) KX ?a ?l ?c ?k
      (case a => k_is); (case l => k_is); (case c => k_is); (case k => k_is)
    have h_is_book := by
      refine' Tw.fh_mk (x := "is_book") (st := Tw.s_is_book) KX ?a ?l ?c ?k
      (case a => k_is); (case l => k_is); (case c => k_is); (case k => k_is)
    have h_all_states := by
      refine' Tw.fh_mk (x := "all_states") (st := Tw.s_all_states) KX ?a ?l ?c ?k
      (case a => k_is); (case l => k_is); (case c => k_is); (case k => k_is)
    have h_made_whole := by
      refine' Tw.fh_mk (x := "made_whole") (st := Tw.s_made_whole) KX ?a ?l ?c ?k
      (case a => k_is); (case l => k_is); (case c => k_is); (case k => k_is)
    have h_pivot_at := by
      refine' Tw.fh_mk (x := "pivot_at") (st := Tw.s_pivot_at) KX ?a ?l ?c ?k
      (case a => k_is); (case l => k_is); (case c => k_is); (case k => k_is)
    have h_cleared := by
      refine' Tw.fh_mk (x := "cleared") (st := Tw.s_cleared) KX ?a ?l ?c ?k
      (case a => k_is); (case l => k_is); (case c => k_is); (case k => k_is)
    have h_solved_rows := by
      refine' Tw.fh_mk (x := "solved_rows") (st := Tw.s_solved_rows) KX ?a ?l ?c ?k
      (case a => k_is); (case l => k_is); (case c => k_is); (case k => k_is)
    have h_look_at_book := by
      refine' Tw.fh_mk (x := "look_at_book") (st := Tw.s_look_at_book) KX ?a ?l ?c ?k
      (case a => k_is); (case l => k_is); (case c => k_is); (case k => k_is)
    have h_went_on := by
      refine' Tw.fh_mk (x := "went_on") (st := Tw.s_went_on) KX ?a ?l ?c ?k
      (case a => k_is); (case l => k_is); (case c => k_is); (case k => k_is)
    have h_quotients := by
      refine' Tw.fh_mk (x := "quotients") (st := Tw.s_quotients) KX ?a ?l ?c ?k
      (case a => k_is); (case l => k_is); (case c => k_is); (case k => k_is)
    have h_greatest_of := by
      refine' Tw.fh_mk (x := "greatest_of") (st := Tw.s_greatest_of) KX ?a ?l ?c ?k
      (case a => k_is); (case l => k_is); (case c => k_is); (case k => k_is)
    have h_indices_found := by
      refine' Tw.fh_mk (x := "indices_found") (st := Tw.s_indices_found) KX ?a ?l ?c ?k
      (case a => k_is); (case l => k_is); (case c => k_is); (case k => k_is)
    have h_is_bench_number := by
      refine' Tw.fh_mk (x := "is_bench_number") (st := Tw.s_is_bench_number) KX ?a ?l ?c ?k
      (case a => k_is); (case l => k_is); (case c => k_is); (case k => k_is)
    have h_has_states := by
      refine' Tw.fh_mk (x := "has_states") (st := Tw.s_has_states) KX ?a ?l ?c ?k
      (case a => k_is); (case l => k_is); (case c => k_is); (case k => k_is)
    have h_is_plan := by
      refine' Tw.fh_mk (x := "is_plan") (st := Tw.s_is_plan) KX ?a ?l ?c ?k
      (case a => k_is); (case l => k_is); (case c => k_is); (case k => k_is)
    have h_look_at_plan := by
      refine' Tw.fh_mk (x := "look_at_plan") (st := Tw.s_look_at_plan) KX ?a ?l ?c ?k
      (case a => k_is); (case l => k_is); (case c => k_is); (case k => k_is)
    have h_moved_to := by
      refine' Tw.fh_mk (x := "moved_to") (st := Tw.s_moved_to) KX ?a ?l ?c ?k
      (case a => k_is); (case l => k_is); (case c => k_is); (case k => k_is)
    have h_tried_worth := by
      refine' Tw.fh_mk (x := "tried_worth") (st := Tw.s_tried_worth) KX ?a ?l ?c ?k
      (case a => k_is); (case l => k_is); (case c => k_is); (case k => k_is)
    have h_worths_by := by
      refine' Tw.fh_mk (x := "worths_by") (st := Tw.s_worths_by) KX ?a ?l ?c ?k
      (case a => k_is); (case l => k_is); (case c => k_is); (case k => k_is)
    have h_plan_worths := by
      refine' Tw.fh_mk (x := "plan_worths") (st := Tw.s_plan_worths) KX ?a ?l ?c ?k
      (case a => k_is); (case l => k_is); (case c => k_is); (case k => k_is)
    have h_book_indices := by
      refine' Tw.fh_mk (x := "book_indices") (st := Tw.s_book_indices) KX ?a ?l ?c ?k
      (case a => k_is); (case l => k_is); (case c => k_is); (case k => k_is)
    have h_greatest_bench := by
      refine' Tw.fh_mk (x := "greatest_bench") (st := Tw.s_greatest_bench) KX ?a ?l ?c ?k
      (case a => k_is); (case l => k_is); (case c => k_is); (case k => k_is)
    have h_plan_by_indices := by
      refine' Tw.fh_mk (x := "plan_by_indices") (st := Tw.s_plan_by_indices) KX ?a ?l ?c ?k
      (case a => k_is); (case l => k_is); (case c => k_is); (case k => k_is)
    have h_greatest_plan := by
      refine' Tw.fh_mk (x := "greatest_plan") (st := Tw.s_greatest_plan) KX ?a ?l ?c ?k
      (case a => k_is); (case l => k_is); (case c => k_is); (case k => k_is)
    have h_best_worths := by
      refine' Tw.fh_mk (x := "best_worths") (st := Tw.s_best_worths) KX ?a ?l ?c ?k
      (case a => k_is); (case l => k_is); (case c => k_is); (case k => k_is)
    have h_best_paper := by
      refine' Tw.fh_mk (x := "best_paper") (st := Tw.s_best_paper) KX ?a ?l ?c ?k
      (case a => k_is); (case l => k_is); (case c => k_is); (case k => k_is)
    have h_are_worths := by
      refine' Tw.fh_mk (x := "are_worths") (st := Tw.s_are_worths) KX ?a ?l ?c ?k
      (case a => k_is); (case l => k_is); (case c => k_is); (case k => k_is)
    have h_holds_at := by
      refine' Tw.fh_mk (x := "holds_at") (st := Tw.s_holds_at) KX ?a ?l ?c ?k
      (case a => k_is); (case l => k_is); (case c => k_is); (case k => k_is)
    have h_judge_worths := by
      refine' Tw.fh_mk (x := "judge_worths") (st := Tw.s_judge_worths) KX ?a ?l ?c ?k
      (case a => k_is); (case l => k_is); (case c => k_is); (case k => k_is)
    have h__law_cell := by
      refine' Tw.fh_mk (x := "_law_cell") (st := Tw.s__law_cell) KX ?a ?l ?c ?k
      (case a => k_is); (case l => k_is); (case c => k_is); (case k => k_is)
    have h__law_take := by
      refine' Tw.fh_mk (x := "_law_take") (st := Tw.s__law_take) KX ?a ?l ?c ?k
      (case a => k_is); (case l => k_is); (case c => k_is); (case k => k_is)
    have h__law_gain := by
      refine' Tw.fh_mk (x := "_law_gain") (st := Tw.s__law_gain) KX ?a ?l ?c ?k
      (case a => k_is); (case l => k_is); (case c => k_is); (case k => k_is)
    have h__law_part := by
      refine' Tw.fh_mk (x := "_law_part") (st := Tw.s__law_part) KX ?a ?l ?c ?k
      (case a => k_is); (case l => k_is); (case c => k_is); (case k => k_is)
    have h__law_copied := by
      refine' Tw.fh_mk (x := "_law_copied") (st := Tw.s__law_copied) KX ?a ?l ?c ?k
      (case a => k_is); (case l => k_is); (case c => k_is); (case k => k_is)
    have h__law_book_copied := by
      refine' Tw.fh_mk (x := "_law_book_copied") (st := Tw.s__law_book_copied) KX ?a ?l ?c ?k
      (case a => k_is); (case l => k_is); (case c => k_is); (case k => k_is)
    have h__law_is_fraction := by
      refine' Tw.fh_mk (x := "_law_is_fraction") (st := Tw.s__law_is_fraction) KX ?a ?l ?c ?k
      (case a => k_is); (case l => k_is); (case c => k_is); (case k => k_is)
    have h__law_states := by
      refine' Tw.fh_mk (x := "_law_states") (st := Tw.s__law_states) KX ?a ?l ?c ?k
      (case a => k_is); (case l => k_is); (case c => k_is); (case k => k_is)
    have h__law_tried := by
      refine' Tw.fh_mk (x := "_law_tried") (st := Tw.s__law_tried) KX ?a ?l ?c ?k
      (case a => k_is); (case l => k_is); (case c => k_is); (case k => k_is)
    have h__law_plan := by
      refine' Tw.fh_mk (x := "_law_plan") (st := Tw.s__law_plan) KX ?a ?l ?c ?k
      (case a => k_is); (case l => k_is); (case c => k_is); (case k => k_is)
    have h__law_sizes := by
      refine' Tw.fh_mk (x := "_law_sizes") (st := Tw.s__law_sizes) KX ?a ?l ?c ?k
      (case a => k_is); (case l => k_is); (case c => k_is); (case k => k_is)
    have h__law_stand := by
      refine' Tw.fh_mk (x := "_law_stand") (st := Tw.s__law_stand) KX ?a ?l ?c ?k
      (case a => k_is); (case l => k_is); (case c => k_is); (case k => k_is)
    have h__law_bench := by
      refine' Tw.fh_mk (x := "_law_bench") (st := Tw.s__law_bench) KX ?a ?l ?c ?k
      (case a => k_is); (case l => k_is); (case c => k_is); (case k => k_is)
    have h__law_book := by
      refine' Tw.fh_mk (x := "_law_book") (st := Tw.s__law_book) KX ?a ?l ?c ?k
      (case a => k_is); (case l => k_is); (case c => k_is); (case k => k_is)
    have h__law_are_worths := by
      refine' Tw.fh_mk (x := "_law_are_worths") (st := Tw.s__law_are_worths) KX ?a ?l ?c ?k
      (case a => k_is); (case l => k_is); (case c => k_is); (case k => k_is)
    have h__law_shows := by
      refine' Tw.fh_mk (x := "_law_shows") (st := Tw.s__law_shows) KX ?a ?l ?c ?k
      (case a => k_is); (case l => k_is); (case c => k_is); (case k => k_is)
    have h__law_bent_worths := by
      refine' Tw.fh_mk (x := "_law_bent_worths") (st := Tw.s__law_bent_worths) KX ?a ?l ?c ?k
      (case a => k_is); (case l => k_is); (case c => k_is); (case k => k_is)
    have h__law_bent_plan := by
      refine' Tw.fh_mk (x := "_law_bent_plan") (st := Tw.s__law_bent_plan) KX ?a ?l ?c ?k
      (case a => k_is); (case l => k_is); (case c => k_is); (case k => k_is)
    have h__law_bent := by
      refine' Tw.fh_mk (x := "_law_bent") (st := Tw.s__law_bent) KX ?a ?l ?c ?k
      (case a => k_is); (case l => k_is); (case c => k_is); (case k => k_is)
    have h_law := by
      refine' Tw.fh_mk (x := "law") (st := Tw.s_law) KX ?a ?l ?c ?k
      (case a => k_is); (case l => k_is); (case c => k_is); (case k => k_is)
    refine Tw.fin_of KX G hmg (Tw.tops_of KX G ?z_len ?z_isinstance ?z_int ?z_bool ?z_tuple ?z_list ?z_dict ?z_str ?z_abs ?z_all ?z_any ?z_sum ?z_range ?z_enumerate ?z_zip ?z_sorted g_WHOLE g_MOST_STANDS g_MOST_BENCHES g_MOST_STATES g_NOTHING_going g_ONE g_NOTHING_plans h_common_of h_shared_by h__law_shared h_fraction_of h__law_frac h_frac_sum h_frac_less h_frac_times h__law_plus h__law_by h_frac_by h_frac_below h__law_below h_is_whole h_is_fraction h_is_move h_are_moves h_is_stand h_is_bench h_is_part h_is_book h_all_states h_made_whole h_pivot_at h_cleared h_solved_rows h_look_at_book h_went_on h_quotients h_greatest_of h_indices_found h_is_bench_number h_has_states h_is_plan h_look_at_plan h_moved_to h_tried_worth h_worths_by h_plan_worths h_book_indices h_greatest_bench h_plan_by_indices h_greatest_plan h_best_worths h_best_paper h_are_worths h_holds_at h_judge_worths h__law_cell h__law_take h__law_gain h__law_part h__law_copied h__law_book_copied h__law_is_fraction h__law_states h__law_tried h__law_plan h__law_sizes h__law_stand h__law_bench h__law_book h__law_are_worths h__law_shows h__law_bent_worths h__law_bent_plan h__law_bent) h_law
    case z_len => k_is
    case z_isinstance => k_is
    case z_int => k_is
    case z_bool => k_is
    case z_tuple => k_is
    case z_list => k_is
    case z_dict => k_is
    case z_str => k_is
    case z_abs => k_is
    case z_all => k_is
    case z_any => k_is
    case z_sum => k_is
    case z_range => k_is
    case z_enumerate => k_is
    case z_zip => k_is
    case z_sorted => k_is
end
