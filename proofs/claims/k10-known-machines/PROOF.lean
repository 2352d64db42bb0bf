import PyProof.Rows.All
import Wide.All
import OpenK.AllK
import Wide.FinOn
import HandS.ForMost
import HandS.Exc
import HandS.ExcOwn
import HandS.TryOnly
import HandS.IsInst
import HandS.Zip
import HandS.TryMany
import HandS.WordsExc
import HandS.ExcInit
import HandS.ExcField
import HandS.NoneIn
import HandS.DictComp
import HandS.TupAny
import HandS.Iter
import HandS.Walk
import HandS.TupMul
import KE.KDictZip
import HandS.Style
import HandS.FStr
import KE.GoesMore
import KE.GoesEnum
import PyProof.P3Eq
import HandS.More
import HandS.SortInts
import HandS.Conv
import PySem.Challenge.RW_repairscost_k10_whole_known_machines
set_option Elab.async false
set_option maxRecDepth 100000
set_option maxHeartbeats 0
set_option linter.all false
/-! TL: data in the frozen part of the heap, and a ledger of own objects -/
namespace TL
open PySem L2

/-- a datum: an exact flat value, or what stands (for good) at an address -/
inductive D where
  | v (x : V)
  | tup (ds : List D)
  | ctup (ds : List D)
  | lst (ds : List D)
  | sq (ds : List D)
  | dK (kvs : List (Key × D))
  | dT (kvs : List (List Key × D))
  | ob (C : Addr) (fs : List (Str × D))
@[reducible] def D.int (i : Int) : D := .v (.int i)
@[reducible] def D.str (z : Str) : D := .v (.str z)
@[reducible] def D.bl (b : Bool) : D := .v (.bl b)
@[reducible] def D.non : D := .v .non
@[reducible] def D.ref (a : Addr) : D := .v (.ref a)

mutual
inductive Rep (K : PySem.W.Frag) (F : Hp) : D → V → Prop
  | v (x : V) : Rep K F (.v x) x
  | tup {ds : List D} {p : Addr} {vs : List V} : F p = some (.tup vs) → RepA K F ds vs → Rep K F (.tup ds) (.ref p)
  | ctup {ds : List D} {p : Addr} {vs : List V} : SqT K F p vs → RepA K F ds vs → Rep K F (.ctup ds) (.ref p)
  | lst {ds : List D} {p : Addr} {vs : List V} : F p = some (.lst vs) → RepA K F ds vs → Rep K F (.lst ds) (.ref p)
  | sq {ds : List D} {p : Addr} {vs : List V} : SqL K F p vs → RepA K F ds vs → Rep K F (.sq ds) (.ref p)
  | dK {kvs : List (Key × D)} {p : Addr} {ws : List (Key × V)} : Rd F p (.dK ws) → RepK K F kvs ws → Rep K F (.dK kvs) (.ref p)
  | dT {kvs : List (List Key × D)} {p : Addr} {ws : List (List Key × V)} : Rd F p (.dT ws) → RepT K F kvs ws → Rep K F (.dT kvs) (.ref p)
  | ob {C : Addr} {fs : List (Str × D)} {p dx : Addr} {ws : List (Str × V)} : F p = some (.ins C dx ws) → RepF K F fs ws → Rep K F (.ob C fs) (.ref p)
inductive RepA (K : PySem.W.Frag) (F : Hp) : List D → List V → Prop
  | nil : RepA K F [] []
  | cons {d : D} {v : V} {ds : List D} {vs : List V} : Rep K F d v → RepA K F ds vs → RepA K F (d :: ds) (v :: vs)
inductive RepK (K : PySem.W.Frag) (F : Hp) : List (Key × D) → List (Key × V) → Prop
  | nil : RepK K F [] []
  | cons {k : Key} {d : D} {v : V} {ds : List (Key × D)} {vs : List (Key × V)} : Rep K F d v → RepK K F ds vs → RepK K F ((k, d) :: ds) ((k, v) :: vs)
inductive RepT (K : PySem.W.Frag) (F : Hp) : List (List Key × D) → List (List Key × V) → Prop
  | nil : RepT K F [] []
  | cons {k : List Key} {d : D} {v : V} {ds : List (List Key × D)} {vs : List (List Key × V)} : Rep K F d v → RepT K F ds vs → RepT K F ((k, d) :: ds) ((k, v) :: vs)
inductive RepF (K : PySem.W.Frag) (F : Hp) : List (Str × D) → List (Str × V) → Prop
  | nil : RepF K F [] []
  | cons {k : Str} {d : D} {v : V} {ds : List (Str × D)} {vs : List (Str × V)} : Rep K F d v → RepF K F ds vs → RepF K F ((k, d) :: ds) ((k, v) :: vs)
end

section
variable {K : PySem.W.Frag} {F F' : Hp}
/-- all that data leans on is kept -/
structure Kp (F F' : Hp) : Prop where
  rd : ∀ a u, (∀ o v, u ≠ .frz o v) → Rd F a u → Rd F' a u
  lst : ∀ a xs, F a = some (.lst xs) → F' a = some (.lst xs)
  tup : ∀ a xs, F a = some (.tup xs) → F' a = some (.tup xs)
  ins : ∀ a C dx fs, F a = some (.ins C dx fs) → F' a = some (.ins C dx fs)
theorem Kp.same {F F' : Hp} (e : Same F F') : Kp F F' :=
  ⟨fun a u _ h => h.elim (fun h => .inl (e _ _ h)) fun ⟨o, h⟩ => .inr ⟨o, e _ _ h⟩, fun a xs h => e _ _ h, fun a xs h => e _ _ h, fun a C dx fs h => e _ _ h⟩
theorem sqT_keep {p : Addr} {vs : List V} (e : Kp F F') (h : SqT K F p vs) : SqT K F' p vs := h.elim (fun h => .inl (e.rd _ _ (fun _ _ z => nomatch z) h)) .inr
theorem sqT_mono {p : Addr} {vs : List V} (e : Same F F') (h : SqT K F p vs) : SqT K F' p vs := sqT_keep (.same e) h
theorem sqL_keep {p : Addr} {vs : List V} (e : Kp F F') (h : SqL K F p vs) : SqL K F' p vs := h.elim (fun h => .inl (e.rd _ _ (fun _ _ z => nomatch z) h)) .inr
theorem Kp.dK (e : Kp F F') {p : Addr} {ws : List (Key × V)} (h : Rd F p (.dK ws)) : Rd F' p (.dK ws) := e.rd _ _ (fun _ _ z => nomatch z) h
theorem Kp.dT (e : Kp F F') {p : Addr} {ws : List (List Key × V)} (h : Rd F p (.dT ws)) : Rd F' p (.dT ws) := e.rd _ _ (fun _ _ z => nomatch z) h
mutual
theorem Rep.keep (e : Kp F F') : ∀ {d : D} {v : V}, Rep K F d v → Rep K F' d v
  | _, _, .v x => .v x
  | _, _, .tup h r => .tup (e.tup _ _ h) (RepA.keep e r)
  | _, _, .ctup h r => .ctup (sqT_keep e h) (RepA.keep e r)
  | _, _, .lst h r => .lst (e.lst _ _ h) (RepA.keep e r)
  | _, _, .sq h r => .sq (sqL_keep e h) (RepA.keep e r)
  | _, _, .dK h r => .dK (e.dK h) (RepK.keep e r)
  | _, _, .dT h r => .dT (e.dT h) (RepT.keep e r)
  | _, _, .ob h r => .ob (e.ins _ _ _ _ h) (RepF.keep e r)
theorem RepA.keep (e : Kp F F') : ∀ {d : List D} {v : List V}, RepA K F d v → RepA K F' d v
  | _, _, .nil => .nil
  | _, _, .cons h t => .cons (Rep.keep e h) (RepA.keep e t)
theorem RepK.keep (e : Kp F F') : ∀ {d : List (Key × D)} {v : List (Key × V)}, RepK K F d v → RepK K F' d v
  | _, _, .nil => .nil
  | _, _, .cons h t => .cons (Rep.keep e h) (RepK.keep e t)
theorem RepT.keep (e : Kp F F') : ∀ {d : List (List Key × D)} {v : List (List Key × V)}, RepT K F d v → RepT K F' d v
  | _, _, .nil => .nil
  | _, _, .cons h t => .cons (Rep.keep e h) (RepT.keep e t)
theorem RepF.keep (e : Kp F F') : ∀ {d : List (Str × D)} {v : List (Str × V)}, RepF K F d v → RepF K F' d v
  | _, _, .nil => .nil
  | _, _, .cons h t => .cons (Rep.keep e h) (RepF.keep e t)
end
theorem Rep.mono (e : Same F F') {d : D} {v : V} (h : Rep K F d v) : Rep K F' d v := Rep.keep (.same e) h
theorem RepA.mono (e : Same F F') {d : List D} {v : List V} (h : RepA K F d v) : RepA K F' d v := RepA.keep (.same e) h
theorem RepK.mono (e : Same F F') {d : List (Key × D)} {v : List (Key × V)} (h : RepK K F d v) : RepK K F' d v := RepK.keep (.same e) h
theorem RepT.mono (e : Same F F') {d : List (List Key × D)} {v : List (List Key × V)} (h : RepT K F d v) : RepT K F' d v := RepT.keep (.same e) h
theorem RepF.mono (e : Same F F') {d : List (Str × D)} {v : List (Str × V)} (h : RepF K F d v) : RepF K F' d v := RepF.keep (.same e) h
theorem Rep.flat {x v : V} (h : Rep K F (.v x) v) : v = x := by cases h; rfl
theorem RepA.length : ∀ {ds : List D} {vs : List V}, RepA K F ds vs → ds.length = vs.length
  | _, _, .nil => rfl
  | _, _, .cons _ t => by simp [RepA.length t]
theorem RepA.get : ∀ {ds : List D} {vs : List V} {i : Nat} {d : D}, RepA K F ds vs → ds[i]? = some d → ∃ v, vs[i]? = some v ∧ Rep K F d v
  | _, _, _, _, .nil, e => by simp at e
  | _, _, 0, _, .cons r _, e => by simp at e; subst e; exact ⟨_, rfl, r⟩
  | _, _, i + 1, _, .cons _ t, e => by
    obtain ⟨v, h1, h2⟩ := RepA.get (i := i) t (by simpa using e)
    exact ⟨v, by simpa using h1, h2⟩
theorem RepA.get' : ∀ {ds : List D} {vs : List V} {i : Nat} {v : V}, RepA K F ds vs → vs[i]? = some v → ∃ d, ds[i]? = some d ∧ Rep K F d v
  | _, _, _, _, .nil, e => by simp at e
  | _, _, 0, _, .cons r _, e => by simp at e; subst e; exact ⟨_, rfl, r⟩
  | _, _, i + 1, _, .cons _ t, e => by
    obtain ⟨v, h1, h2⟩ := RepA.get' (i := i) t (by simpa using e)
    exact ⟨v, by simpa using h1, h2⟩
theorem RepA.append : ∀ {ds es : List D} {vs ws : List V}, RepA K F ds vs → RepA K F es ws → RepA K F (ds ++ es) (vs ++ ws)
  | _, _, _, _, .nil, s => s
  | _, _, _, _, .cons r t, s => .cons r (RepA.append t s)
theorem RepA.snoc {ds : List D} {vs : List V} {d : D} {v : V} (h : RepA K F ds vs) (r : Rep K F d v) : RepA K F (ds ++ [d]) (vs ++ [v]) := h.append (.cons r .nil)
theorem RepA.take : ∀ {ds : List D} {vs : List V} (n : Nat), RepA K F ds vs → RepA K F (ds.take n) (vs.take n)
  | _, _, 0, _ => .nil
  | _, _, _ + 1, .nil => .nil
  | _, _, n + 1, .cons r t => .cons r (RepA.take n t)
theorem RepA.drop : ∀ {ds : List D} {vs : List V} (n : Nat), RepA K F ds vs → RepA K F (ds.drop n) (vs.drop n)
  | _, _, 0, h => h
  | _, _, _ + 1, .nil => .nil
  | _, _, n + 1, .cons _ t => RepA.drop n t
theorem RepA.set : ∀ {ds : List D} {vs : List V} {d : D} {v : V} (i : Nat), RepA K F ds vs → Rep K F d v → RepA K F (ds.set i d) (vs.set i v)
  | _, _, _, _, _, .nil, _ => .nil
  | _, _, _, _, 0, .cons _ t, r => .cons r t
  | _, _, _, _, i + 1, .cons q t, r => .cons q (RepA.set i t r)
theorem RepA.erase : ∀ {ds : List D} {vs : List V} (i : Nat), RepA K F ds vs → RepA K F (ds.eraseIdx i) (vs.eraseIdx i)
  | _, _, _, .nil => .nil
  | _, _, 0, .cons _ t => t
  | _, _, i + 1, .cons q t => .cons q (RepA.erase i t)
theorem RepA.flats : ∀ {xs : List V} {vs : List V}, RepA K F (xs.map D.v) vs → vs = xs
  | [], _, .nil => rfl
  | _ :: _, _, .cons r t => by rw [r.flat, RepA.flats t]
theorem RepA.of_flats : ∀ (xs : List V), RepA K F (xs.map D.v) xs
  | [] => .nil
  | x :: xs => .cons (.v x) (RepA.of_flats xs)
theorem RepF.lookup : ∀ {fs : List (Str × D)} {ws : List (Str × V)} {f : Str} {d : D}, RepF K F fs ws → fs.lookup f = some d → ∃ v, ws.lookup f = some v ∧ Rep K F d v
  | _, _, _, _, .nil, e => by simp at e
  | (k, d) :: fs, (_, v) :: ws, f, d', .cons r t, e => by
    rw [List.lookup_cons] at e ⊢
    cases q : f == k with
    | true => rw [q] at e; simp at e; subst e; exact ⟨v, rfl, r⟩
    | false => rw [q] at e; simp at e; exact RepF.lookup t e
theorem RepF.lookup_none : ∀ {fs : List (Str × D)} {ws : List (Str × V)} {f : Str}, RepF K F fs ws → fs.lookup f = none → ws.lookup f = none
  | _, _, _, .nil, _ => rfl
  | (k, d) :: fs, (_, v) :: ws, f, .cons r t, e => by
    rw [List.lookup_cons] at e ⊢
    cases q : f == k with
    | true => rw [q] at e; cases e
    | false => rw [q] at e; exact RepF.lookup_none t e
theorem RepF.length : ∀ {ds : List (Str × D)} {vs : List (Str × V)}, RepF K F ds vs → ds.length = vs.length
  | _, _, .nil => rfl
  | _, _, .cons _ t => by simp [RepF.length t]
/-- a field stored, on data -/
def putD (f : Str) (d : D) : List (Str × D) → List (Str × D)
  | [] => [(f, d)]
  | (g, x) :: r => if g = f then (g, d) :: r else (g, x) :: putD f d r
theorem RepF.put {f : Str} {d : D} {v : V} (r : Rep K F d v) : ∀ {fs : List (Str × D)} {ws : List (Str × V)}, RepF K F fs ws → RepF K F (putD f d fs) (putF f v ws)
  | _, _, .nil => .cons r .nil
  | (g, x) :: fs, (_, y) :: ws, .cons q t => by
    show RepF K F (if g = f then (g, d) :: fs else (g, x) :: putD f d fs) (if g = f then (g, v) :: ws else (g, y) :: putF f v ws)
    by_cases h : g = f
    · rw [if_pos h, if_pos h]; exact .cons r t
    · rw [if_neg h, if_neg h]; exact .cons q (RepF.put r t)
theorem putD_length {f : Str} {d : D} : ∀ fs : List (Str × D), (putD f d fs).length ≤ fs.length + 1
  | [] => Nat.le_refl _
  | (g, x) :: fs => by
    show (if g = f then (g, d) :: fs else (g, x) :: putD f d fs).length ≤ _
    by_cases h : g = f
    · rw [if_pos h]; simp
    · rw [if_neg h]; simpa using putD_length fs
end

/-! ### own objects -/
inductive OW where
  | lst (ds : List D)
  | dK (kvs : List (Key × D))
  | dT (kvs : List (List Key × D))
  | ins (C : Addr) (fs : List (Str × D))
abbrev Led := List (Addr × OW)
inductive OwnAt (K : PySem.W.Frag) (F H : Hp) : Addr → OW → Prop
  | lst {l : Addr} {ds : List D} {vs : List V} : H l = some (.lst vs) → RepA K F ds vs → OwnAt K F H l (.lst ds)
  | dK {l : Addr} {kvs : List (Key × D)} {ws : List (Key × V)} : H l = some (.dK ws) → RepK K F kvs ws → OwnAt K F H l (.dK kvs)
  | dT {l : Addr} {kvs : List (List Key × D)} {ws : List (List Key × V)} : H l = some (.dT ws) → RepT K F kvs ws → OwnAt K F H l (.dT kvs)
  | ins {l C dx : Addr} {fs : List (Str × D)} {ws : List (Str × V)} : H l = some (.ins C dx ws) → RepF K F fs ws → OwnAt K F H l (.ins C fs)
theorem OwnAt.mono {K : PySem.W.Frag} {F F' H H' : Hp} {l : Addr} {o : OW} (e : Same F F') (h : ∀ u, H l = some u → H' l = some u) (x : OwnAt K F H l o) : OwnAt K F' H' l o := by
  cases x with
  | lst a r => exact .lst (h _ a) (r.mono e)
  | dK a r => exact .dK (h _ a) (r.mono e)
  | dT a r => exact .dT (h _ a) (r.mono e)
  | ins a r => exact .ins (h _ a) (r.mono e)
theorem OwnAt.there {K : PySem.W.Frag} {F H : Hp} {l : Addr} {o : OW} (x : OwnAt K F H l o) : ∃ u, H l = some u := by
  cases x with
  | lst a r => exact ⟨_, a⟩
  | dK a r => exact ⟨_, a⟩
  | dT a r => exact ⟨_, a⟩
  | ins a r => exact ⟨_, a⟩

theorem OwnAt.notTup {K : PySem.W.Frag} {F H : Hp} {l : Addr} {o : OW} {u : HO} (x : OwnAt K F H l o) (hu : H l = some u) : ∀ vs, u ≠ .tup vs := by
  intro vs e
  subst e
  cases x with
  | lst a r => rw [hu] at a; cases a
  | dK a r => rw [hu] at a; cases a
  | dT a r => rw [hu] at a; cases a
  | ins a r => rw [hu] at a; cases a
/-- what a frozen own object is as data -/
def OW.frz : OW → D
  | .lst ds => .lst ds
  | .dK kvs => .dK kvs
  | .dT kvs => .dT kvs
  | .ins C fs => .ob C fs

/-- slots -/
inductive RepS (K : PySem.W.Frag) (F : Hp) : List (Option D) → St → Prop
  | nil : RepS K F [] []
  | any {v : Option V} {g : List (Option D)} {σ : St} : RepS K F g σ → RepS K F (none :: g) (v :: σ)
  | val {d : D} {v : V} {g : List (Option D)} {σ : St} : Rep K F d v → RepS K F g σ → RepS K F (some d :: g) (some v :: σ)
section
variable {K : PySem.W.Frag} {F F' : Hp}
theorem RepS.keep (e : Kp F F') : ∀ {g : List (Option D)} {σ : St}, RepS K F g σ → RepS K F' g σ
  | _, _, .nil => .nil
  | _, _, .any t => .any (RepS.keep e t)
  | _, _, .val r t => .val (r.keep e) (RepS.keep e t)
theorem RepS.mono (e : Same F F') {g : List (Option D)} {σ : St} (h : RepS K F g σ) : RepS K F' g σ := RepS.keep (.same e) h
theorem RepS.length : ∀ {g : List (Option D)} {σ : St}, RepS K F g σ → g.length = σ.length
  | _, _, .nil => rfl
  | _, _, .any t => by simp [RepS.length t]
  | _, _, .val r t => by simp [RepS.length t]
theorem RepS.get : ∀ {g : List (Option D)} {σ : St} {i : Nat} {d : D}, RepS K F g σ → g[i]? = some (some d) → ∃ v, σ[i]? = some (some v) ∧ Rep K F d v
  | _, _, _, _, .nil, e => by simp at e
  | _, _, 0, _, .any _, e => by simp at e
  | _, _, 0, _, .val r _, e => by simp at e; subst e; exact ⟨_, rfl, r⟩
  | _, _, i + 1, _, .any t, e => by
    obtain ⟨v, h1, h2⟩ := RepS.get (i := i) t (by simpa using e)
    exact ⟨v, by simpa using h1, h2⟩
  | _, _, i + 1, _, .val _ t, e => by
    obtain ⟨v, h1, h2⟩ := RepS.get (i := i) t (by simpa using e)
    exact ⟨v, by simpa using h1, h2⟩
theorem RepS.set {d : D} {v : V} (r : Rep K F d v) : ∀ {g : List (Option D)} {σ : St} (i : Nat), RepS K F g σ → RepS K F (g.set i (some d)) (σ.set i (some v))
  | _, _, _, .nil => .nil
  | _, _, 0, .any t => .val r t
  | _, _, 0, .val _ t => .val r t
  | _, _, i + 1, .any t => .any (RepS.set r i t)
  | _, _, i + 1, .val q t => .val q (RepS.set r i t)
theorem RepS.clear {v : Option V} : ∀ {g : List (Option D)} {σ : St} (i : Nat), RepS K F g σ → RepS K F (g.set i none) (σ.set i v)
  | _, _, _, .nil => .nil
  | _, _, 0, .any t => .any t
  | _, _, 0, .val _ t => .any t
  | _, _, i + 1, .any t => .any (RepS.clear i t)
  | _, _, i + 1, .val q t => .val q (RepS.clear i t)
end

/-- THE STATE: H0 what is protected, F0 the frozen part at the entry; F the frozen part now, L the own objects -/
structure At (K : PySem.W.Frag) (H0 F0 : Hp) (G : List (Option D)) (L : Led) (F : Hp) (σ : St) (H : Hp) : Prop where
  ef : Same F0 F
  eh : Same H0 H
  fh : Same F H
  nf : ∀ a o, H0 a = some o → (∀ vs, o ≠ .tup vs) → F0 a = none → F a = none
  own : ∀ p ∈ L, OwnAt K F H p.1 p.2 ∧ F p.1 = none ∧ H0 p.1 = none
  nd : (L.map (·.1)).Nodup
  env : RepS K F G σ
section
variable {K : PySem.W.Frag} {H0 F0 F F' H H' : Hp} {G G' : List (Option D)} {L L' : Led} {σ σ' : St}
theorem At.envOf (a : At K H0 F0 G L F σ H) (e : RepS K F G' σ') : At K H0 F0 G' L F σ' H := ⟨a.ef, a.eh, a.fh, a.nf, a.own, a.nd, e⟩
theorem At.set {i : Nat} {d : D} {v : V} (a : At K H0 F0 G L F σ H) (r : Rep K F d v) : At K H0 F0 (G.set i (some d)) L F (σ.set i (some v)) H := a.envOf (a.env.set r i)
/-- the heap grows by an object that is not tracked by us -/
theorem At.junk {p : Addr} {o : HO} (a : At K H0 F0 G L F σ H) (hp : H p = none) : At K H0 F0 G L F σ (upd H p o) :=
  ⟨a.ef, fun b u e => by rw [upd_ne (ne_of_none (a.eh b u e) hp)]; exact a.eh b u e, fun b u e => by rw [upd_ne (ne_of_none (a.fh b u e) hp)]; exact a.fh b u e, a.nf,
    fun q hq => let ⟨x, y, z⟩ := a.own q hq; ⟨x.mono (Same.refl _) fun u e => by rw [upd_ne (ne_of_none e hp)]; exact e, y, z⟩, a.nd, a.env⟩
theorem At.free {p : Addr} (a : At K H0 F0 G L F σ H) (hp : H p = none) : F p = none ∧ H0 p = none ∧ p ∉ L.map (·.1) := by
  refine ⟨a.fh.free hp, a.eh.free hp, fun h => ?_⟩
  obtain ⟨q, hq, e⟩ := List.mem_map.mp h
  obtain ⟨u, hu⟩ := (a.own q hq).1.there
  rw [e, hp] at hu
  cases hu
/-- a new own object -/
theorem At.new {p : Addr} {o : HO} {w : OW} (a : At K H0 F0 G L F σ H) (hp : H p = none) (x : OwnAt K F (upd H p o) p w) : At K H0 F0 G ((p, w) :: L) F σ (upd H p o) := by
  have b := a.junk (o := o) hp
  obtain ⟨f1, f2, f3⟩ := a.free hp
  exact ⟨b.ef, b.eh, b.fh, b.nf, fun q hq => by
    rcases List.mem_cons.mp hq with rfl | hq
    · exact ⟨x, f1, f2⟩
    · exact b.own q hq, List.nodup_cons.mpr ⟨f3, b.nd⟩, b.env⟩
/-- a new frozen object -/
theorem At.ice {p : Addr} {o : HO} (a : At K H0 F0 G L F σ H) (hp : H p = none) : At K H0 F0 G L (upd F p o) σ (upd H p o) ∧ Same F (upd F p o) := by
  have b := a.junk (o := o) hp
  obtain ⟨f1, f2, f3⟩ := a.free hp
  have s : Same F (upd F p o) := fun c u e => by rw [upd_ne (ne_of_none e f1)]; exact e
  refine ⟨⟨a.ef.trans s, b.eh, fun c u e => ?_, fun c u e1 et e2 => ?_, fun q hq => ?_, b.nd, b.env.mono s⟩, s⟩
  · by_cases h : c = p
    · subst h; rw [upd_same] at e ⊢; exact e
    · rw [upd_ne h] at e ⊢; exact a.fh c u e
  · rw [upd_ne (ne_of_none e1 f2)]; exact a.nf c u e1 et e2
  · obtain ⟨x, y, z⟩ := b.own q hq
    refine ⟨x.mono s fun u e => e, ?_, z⟩
    have ne : q.1 ≠ p := fun e => f3 (List.mem_map.mpr ⟨q, hq, e⟩)
    rw [upd_ne ne]; exact y

/-- an entry of the ledger changed -/
inductive Chg : Led → Addr → OW → OW → Led → Prop
  | here {l : Addr} {o o' : OW} {L : Led} : Chg ((l, o) :: L) l o o' ((l, o') :: L)
  | there {p : Addr × OW} {l : Addr} {o o' : OW} {L L' : Led} : Chg L l o o' L' → Chg (p :: L) l o o' (p :: L')
theorem Chg.mem {l : Addr} {o o' : OW} : ∀ {L L' : Led}, Chg L l o o' L' → (l, o) ∈ L
  | _, _, .here => List.mem_cons_self
  | _, _, .there h => List.mem_cons_of_mem _ (Chg.mem h)
theorem Chg.keys {l : Addr} {o o' : OW} : ∀ {L L' : Led}, Chg L l o o' L' → L'.map (·.1) = L.map (·.1)
  | _, _, .here => rfl
  | _, _, .there h => by simp [Chg.keys h]
theorem Chg.of_mem {l : Addr} {o o' : OW} : ∀ {L L' : Led}, Chg L l o o' L' → (L.map (·.1)).Nodup → ∀ q ∈ L', (q = (l, o')) ∨ (q ∈ L ∧ q.1 ≠ l)
  | _, _, .here, nd, q, hq => by
    rcases List.mem_cons.mp hq with rfl | hq
    · exact .inl rfl
    · refine .inr ⟨List.mem_cons_of_mem _ hq, fun e => ?_⟩
      exact (List.nodup_cons.mp nd).1 (List.mem_map.mpr ⟨q, hq, e⟩)
  | p :: L, _, .there h, nd, q, hq => by
    rcases List.mem_cons.mp hq with rfl | hq
    · refine .inr ⟨List.mem_cons_self, fun e => ?_⟩
      exact (List.nodup_cons.mp nd).1 (List.mem_map.mpr ⟨_, h.mem, e.symm⟩)
    · rcases Chg.of_mem h (List.nodup_cons.mp nd).2 q hq with e | ⟨h1, h2⟩
      · exact .inl e
      · exact .inr ⟨List.mem_cons_of_mem _ h1, h2⟩
theorem At.chg {l : Addr} {o o' : OW} {u : HO} (a : At K H0 F0 G L F σ H) (c : Chg L l o o' L') (x : OwnAt K F (upd H l u) l o') : At K H0 F0 G L' F σ (upd H l u) := by
  obtain ⟨_, f1, f2⟩ := a.own _ c.mem
  refine ⟨a.ef, fun b v e => ?_, fun b v e => ?_, a.nf, fun q hq => ?_, by rw [c.keys]; exact a.nd, a.env⟩
  · rw [upd_ne (ne_of_none e f2)]; exact a.eh b v e
  · rw [upd_ne (ne_of_none e f1)]; exact a.fh b v e
  · rcases c.of_mem a.nd q hq with rfl | ⟨hq, ne⟩
    · exact ⟨x, f1, f2⟩
    · obtain ⟨y, z1, z2⟩ := a.own q hq
      exact ⟨y.mono (Same.refl _) fun v e => by rw [upd_ne ne]; exact e, z1, z2⟩
/-- an entry taken out -/
inductive Out : Led → Addr → OW → Led → Prop
  | here {l : Addr} {o : OW} {L : Led} : Out ((l, o) :: L) l o L
  | there {p : Addr × OW} {l : Addr} {o : OW} {L L' : Led} : Out L l o L' → Out (p :: L) l o (p :: L')
theorem Out.mem {l : Addr} {o : OW} : ∀ {L L' : Led}, Out L l o L' → (l, o) ∈ L
  | _, _, .here => List.mem_cons_self
  | _, _, .there h => List.mem_cons_of_mem _ (Out.mem h)
theorem Out.sub {l : Addr} {o : OW} : ∀ {L L' : Led}, Out L l o L' → L'.Sublist L
  | _, _, .here => List.sublist_cons_self _ _
  | _, _, .there h => (Out.sub h).cons_cons _
theorem Out.ne {l : Addr} {o : OW} : ∀ {L L' : Led}, Out L l o L' → (L.map (·.1)).Nodup → ∀ q ∈ L', q.1 ≠ l
  | _, _, .here, nd, q, hq => fun e => (List.nodup_cons.mp nd).1 (List.mem_map.mpr ⟨q, hq, e⟩)
  | p :: L, _, .there h, nd, q, hq => by
    rcases List.mem_cons.mp hq with rfl | hq
    · exact fun e => (List.nodup_cons.mp nd).1 (List.mem_map.mpr ⟨_, h.mem, e.symm⟩)
    · exact Out.ne h (List.nodup_cons.mp nd).2 q hq
theorem At.perm (a : At K H0 F0 G L F σ H) (s : L.Perm L') : At K H0 F0 G L' F σ H :=
  ⟨a.ef, a.eh, a.fh, a.nf, fun q hq => a.own q (s.symm.subset hq), (s.map _).nodup_iff.mp a.nd, a.env⟩
/-- a tuple that stands in the heap, frozen -/
theorem At.iceT {q : Addr} {vs : List V} {ds : List D} (a : At K H0 F0 G L F σ H) (hq : H q = some (.tup vs)) (r : RepA K F ds vs) : ∃ F', At K H0 F0 G L F' σ H ∧ Same F F' ∧ Rep K F' (.tup ds) (.ref q) := by
  cases e : F q with
  | some o =>
    have h := a.fh _ _ e
    rw [hq] at h
    cases h
    exact ⟨F, a, Same.refl _, .tup e r⟩
  | none =>
    have s : Same F (upd F q (.tup vs)) := fun c u h => by rw [upd_ne (ne_of_none h e)]; exact h
    refine ⟨upd F q (.tup vs), ⟨a.ef.trans s, a.eh, fun c u h => ?_, fun c u e1 et e2 => ?_, fun p hp => ?_, a.nd, a.env.mono s⟩, s, .tup upd_same (r.mono s)⟩
    · by_cases z : c = q
      · subst z; rw [upd_same] at h; cases h; exact hq
      · rw [upd_ne z] at h; exact a.fh c u h
    · by_cases z : c = q
      · subst z
        have h := a.eh _ _ e1
        rw [hq] at h
        cases h
        exact absurd rfl (et _)
      · rw [upd_ne z]; exact a.nf c u e1 et e2
    · obtain ⟨x, y, w⟩ := a.own p hp
      refine ⟨x.mono s fun _ h => h, ?_, w⟩
      have ne : p.1 ≠ q := fun z => by
        have := x.notTup (z ▸ hq)
        exact this _ rfl
      rw [upd_ne ne]
      exact y
/-- entries forgotten -/
theorem At.drop (a : At K H0 F0 G L F σ H) (s : L'.Sublist L) : At K H0 F0 G L' F σ H :=
  ⟨a.ef, a.eh, a.fh, a.nf, fun q hq => a.own q (s.subset hq), a.nd.sublist (s.map _), a.env⟩
/-- an own object frozen -/
theorem At.freeze {l : Addr} {o : OW} (a : At K H0 F0 G L F σ H) (c : Out L l o L') : ∃ F', At K H0 F0 G L' F' σ H ∧ Same F F' ∧ Rep K F' o.frz (.ref l) := by
  obtain ⟨x, f1, f2⟩ := a.own _ c.mem
  obtain ⟨u, hu⟩ := x.there
  have s : Same F (upd F l u) := fun c u e => by rw [upd_ne (ne_of_none e f1)]; exact e
  refine ⟨upd F l u, ⟨a.ef.trans s, a.eh, fun b v e => ?_, fun b v e1 et e2 => ?_, fun q hq => ?_, a.nd.sublist (c.sub.map _), a.env.mono s⟩, s, ?_⟩
  · by_cases h : b = l
    · subst h; rw [upd_same] at e; cases e; exact hu
    · rw [upd_ne h] at e; exact a.fh b v e
  · rw [upd_ne (ne_of_none e1 f2)]; exact a.nf b v e1 et e2
  · obtain ⟨y, z1, z2⟩ := a.own q (c.sub.subset hq)
    refine ⟨y.mono s fun _ e => e, ?_, z2⟩
    rw [upd_ne (c.ne a.nd q hq)]; exact z1
  · cases x with
    | lst e r =>
      rw [e] at hu; cases hu
      exact .lst upd_same (r.mono s)
    | dK e r =>
      rw [e] at hu; cases hu
      exact .dK (.inl upd_same) (r.mono s)
    | dT e r =>
      rw [e] at hu; cases hu
      exact .dT (.inl upd_same) (r.mono s)
    | ins e r =>
      rw [e] at hu; cases hu
      exact .ob upd_same (r.mono s)
/-- the heap without some addresses -/
def less (H : Hp) (as : List Addr) : Hp := fun a => if a ∈ as then none else H a
theorem less_in {H : Hp} {as : List Addr} {a : Addr} (h : a ∈ as) : less H as a = none := by unfold less; rw [if_pos h]
theorem less_out {H : Hp} {as : List Addr} {a : Addr} (h : a ∉ as) : less H as a = H a := by unfold less; rw [if_neg h]
theorem less_some {H : Hp} {as : List Addr} {a : Addr} {o : HO} (h : less H as a = some o) : a ∉ as ∧ H a = some o := by
  unfold less at h
  by_cases q : a ∈ as
  · rw [if_pos q] at h; cases h
  · rw [if_neg q] at h; exact ⟨q, h⟩
/-- the state that a callee is handed: it owns Lc -/
theorem At.hand {Lc R : Led} (a : At K H0 F0 G L F σ H) (e : (Lc ++ R).Perm L) : At K (less H (Lc.map (·.1))) F [] Lc F [] H := by
  have mem : ∀ q ∈ Lc, q ∈ L := fun q hq => e.subset (List.mem_append_left _ hq)
  refine ⟨Same.refl _, fun b o h => (less_some h).2, a.fh, fun _ _ _ _ h => h, fun q hq => ?_, ?_, .nil⟩
  · obtain ⟨x, y, _⟩ := a.own q (mem q hq)
    exact ⟨x, y, less_in (List.mem_map.mpr ⟨q, hq, rfl⟩)⟩
  · have := (e.map (·.1)).nodup_iff.mpr a.nd
    rw [List.map_append] at this
    exact (List.nodup_append.mp this).1
/-- behind a call -/
theorem At.back {Lc R : Led} (a : At K H0 F0 G L F σ H) (e : (Lc ++ R).Perm L) (b : At K (less H (Lc.map (·.1))) F [] L' F' [] H') : At K H0 F0 G (L' ++ R) F' σ H' := by
  have memC : ∀ q ∈ Lc, q ∈ L := fun q hq => e.subset (List.mem_append_left _ hq)
  have memR : ∀ q ∈ R, q ∈ L := fun q hq => e.subset (List.mem_append_right _ hq)
  have nd := (e.map (·.1)).nodup_iff.mpr a.nd
  rw [List.map_append] at nd
  have outR : ∀ q ∈ R, q.1 ∉ Lc.map (·.1) := fun q hq hc => (List.nodup_append.mp nd).2.2 _ hc _ (List.mem_map.mpr ⟨q, hq, rfl⟩) rfl
  have out0 : ∀ b o, H0 b = some o → b ∉ Lc.map (·.1) := fun b o h hc => by
    obtain ⟨q, hq, e⟩ := List.mem_map.mp hc
    have := (a.own q (memC q hq)).2.2
    rw [e, h] at this
    cases this
  have h0 : ∀ b o, H0 b = some o → less H (Lc.map (·.1)) b = some o := fun b o h => by rw [less_out (out0 b o h)]; exact a.eh b o h
  have hR : ∀ q ∈ R, ∀ u, H q.1 = some u → less H (Lc.map (·.1)) q.1 = some u := fun q hq u h => by rw [less_out (outR q hq)]; exact h
  refine ⟨a.ef.trans b.ef, fun c o h => b.eh c o (h0 c o h), b.fh, fun c o h1 ht h2 => b.nf c o (h0 c o h1) ht (a.nf c o h1 ht h2), fun q hq => ?_, ?_, a.env.mono b.ef⟩
  · rcases List.mem_append.mp hq with hq | hq
    · obtain ⟨x, y, z⟩ := b.own q hq
      refine ⟨x, y, ?_⟩
      cases w : H0 q.1 with
      | none => rfl
      | some o => rw [h0 _ _ w] at z; cases z
    · obtain ⟨x, y, z⟩ := a.own q (memR q hq)
      obtain ⟨u, hu⟩ := x.there
      exact ⟨x.mono b.ef fun v e => b.eh _ _ (hR q hq v e), b.nf _ _ (hR q hq u hu) (x.notTup hu) y, z⟩
  · rw [List.map_append]
    refine List.nodup_append.mpr ⟨b.nd, (List.nodup_append.mp nd).2.1, fun x hx y hy e => ?_⟩
    subst e
    obtain ⟨q, hq, rfl⟩ := List.mem_map.mp hx
    obtain ⟨r, hr, er⟩ := List.mem_map.mp hy
    obtain ⟨u, hu⟩ := (a.own r (memR r hr)).1.there
    have z := (b.own q hq).2.2
    have e2 : r.1 = q.1 := er
    have z2 := hR r hr u hu
    rw [e2, z] at z2
    cases z2
end
end TL

namespace TL
open PySem L2

/-! ### what stands still in a def -/
structure Ctx where
  P : Program
  w : World
  K : PySem.W.Frag
  mg : Str → Option Value
  base : Heap
  N : List Str
  sc : Scope
  k : Nat
  df : Str → Bool
  lp : Bool
  cm : Bool
def GlC (C : Ctx) (x : Str) : Prop := C.sc.names.lookup x = some .globalImplicit
structure XOk (C : Ctx) (X : Cx) : Prop where
  eP : C.P = X.prog
  ew : C.w = X.w
  eK : C.K = X.K
  em : C.mg = X.mg
  eb : C.base = X.base
  eN : C.N = X.N
  es : C.sc = X.env.scope
  calm : C.cm = true → X.calm = true
  room : C.cm = true → Room C.k X.A
  nd : C.N.Nodup
  fn : ∀ x, C.df x = true → X.fn x = true
  po : C.lp = true → PassesOwn (model X.prog X.w) X.A X.env X.xe
  st : C.lp = true → X.stack = X.env :: X.outer ∧ X.env.frame = some X.env.locals

/-- an exception: of a class without fields, or of one whose __init__ stores one -/
inductive EX where
  | own (cls : Addr)
  | low (cls : Addr) (f : Str) (d : D)
inductive ExIs (K : PySem.W.Frag) (F H : Hp) : EX → Value → Option Addr → Prop
  | own {C : Addr} : ExIs K F H (.own C) (.ref C) none
  | low {C a : Addr} {f : Str} {d : D} {y : V} : H a = some (.xd [(f, y)]) → Rep K F d y → ExIs K F H (.low C f d) (.ref C) (some a)
structure Mode where
  C : Ctx
  H0 : Hp
  F0 : Hp
  T : EX → List (Option D) → Led → Prop
abbrev Mode.at (M : Mode) (G : List (Option D)) (L : Led) (F : Hp) (σ : St) (H : Hp) : Prop := At M.C.K M.H0 M.F0 G L F σ H
def Mode.Tk (M : Mode) (W : WX) : Prop := ∀ ex G L F σ H v d, M.T ex G L → M.at G L F σ H → ExIs M.C.K F H ex v d → W v d σ H
structure Sit (M : Mode) (X : Cx) : Prop where
  ok : XOk M.C X
  tk : ∃ W, Takes X W ∧ M.Tk W

/-! ### best readings -/
section
variable (X : Cx)
def GE (e : Expr) (σ : St) (H : Hp) (Q : VK) : Prop := ∃ t, PE X e t ∧ t σ H Q
def GT (e : Expr) (σ : St) (H : Hp) (Q : Bool → Hp → Prop) : Prop := ∃ t, PT X e t ∧ t σ H Q
def GW (e : Expr) (σ : St) (H : Hp) (Q : Bool → Hp → Prop) : Prop := ∃ t, PW X e t ∧ t σ H Q
def GA (es : List Expr) (σ : St) (H : Hp) (Q : List V → Hp → Prop) : Prop := ∃ t, PA X es t ∧ t σ H Q
def GS (st : Stmt) (D : Ends) (σ : St) (H : Hp) : Prop := ∃ t, PS X st t ∧ t D σ H
def GSs (st : List Stmt) (D : Ends) (σ : St) (H : Hp) : Prop := ∃ t, PSs X st t ∧ t D σ H
def GI (tg iter : Expr) (σ : St) (H : Hp) (R : It → Hp → Prop) : Prop := ∃ t, PI X tg iter t ∧ t σ H R
def GG (tg : Expr) (v : V) (σ : St) (H : Hp) (Q : St → Hp → Prop) : Prop := ∃ t, PG X tg t ∧ t v σ H Q
def GOp (f : Value → Value → Sem Value) (x y : V) (H : Hp) (Q : VK) : Prop := ∃ r, OpR X f r ∧ r x y H Q
def GUn (f : Value → Sem Value) (x : V) (H : Hp) (Q : VK) : Prop := ∃ r, UnR X f r ∧ r x H Q
def GC (f : Value) (xs : List V) (H : Hp) (Q : VK) : Prop := ∃ r, CallR X f r ∧ r xs H Q
def GM (id : String) (x : V) (xs : List V) (H : Hp) (Q : VK) : Prop := ∃ r, MtR X id r ∧ r x xs H Q
def GIx (x y : V) (H : Hp) (Q : VK) : Prop := ∃ r, IxR X r ∧ r x y H Q
def GSl (x : V) (lo hi : Option Int) (H : Hp) (Q : VK) : Prop := ∃ r, SlR X r ∧ r x lo hi H Q
def GIp (op : Operator) (x y : V) (H : Hp) (Q : VK) : Prop := ∃ r, PIp X op r ∧ r x y H Q
end
section
variable {X : Cx}
theorem be {e : Expr} : PE X e (GE X e) := ⟨fun pins s σ H Q I ⟨_, h, q⟩ => h.run pins s σ H Q I q⟩
theorem bt {e : Expr} : PT X e (GT X e) := ⟨fun pins s σ H Q I ⟨_, h, q⟩ => h.run pins s σ H Q I q⟩
theorem bw {e : Expr} : PW X e (GW X e) := ⟨fun wh pins s σ H Q I ⟨_, h, q⟩ => h.run wh pins s σ H Q I q⟩
theorem ba {e : List Expr} : PA X e (GA X e) := ⟨fun pos pins s σ H Q I ⟨_, h, q⟩ => h.run pos pins s σ H Q I q⟩
theorem bs {e : Stmt} : PS X e (GS X e) := ⟨fun pins s σ H Q I ⟨_, h, q⟩ => h.run pins s σ H Q I q⟩
theorem bss {e : List Stmt} : PSs X e (GSs X e) := ⟨fun pins s σ H Q I ⟨_, h, q⟩ => h.run pins s σ H Q I q⟩
theorem bi {tg e : Expr} : PI X tg e (GI X tg e) := ⟨fun pins s σ H Q I ⟨_, h, q⟩ => h.run pins s σ H Q I q⟩
theorem bg {tg : Expr} : PG X tg (GG X tg) := ⟨fun pins s σ H v u Q I r ⟨_, h, q⟩ => h.run pins s σ H v u Q I r q⟩
theorem bop {f : Value → Value → Sem Value} : OpR X f (GOp X f) := fun pins s σ H x y v u Q I rx ry ⟨_, h, q⟩ => h pins s σ H x y v u Q I rx ry q
theorem bun {f : Value → Sem Value} : UnR X f (GUn X f) := fun pins s σ H x v Q I rx ⟨_, h, q⟩ => h pins s σ H x v Q I rx q
theorem bc {f : Value} : CallR X f (GC X f) := fun pins s σ H xs us Q I rx ⟨_, h, q⟩ => h pins s σ H xs us Q I rx q
theorem bm {id : String} : MtR X id (GM X id) := fun pins s σ H x xs v us Q I rx rs ⟨_, h, q⟩ => h pins s σ H x xs v us Q I rx rs q
theorem bix : IxR X (GIx X) := fun va sl pins s σ H x y v u Q I rx ry ⟨_, h, q⟩ hs => h va sl pins s σ H x y v u Q I rx ry q hs
theorem bsl : SlR X (GSl X) := fun pins s σ H x v vl vu lo hi sl Q I rx hs pl pu ⟨_, h, q⟩ => h pins s σ H x v vl vu lo hi sl Q I rx hs pl pu q
theorem bip {op : Operator} : PIp X op (GIp X op) := fun pins s σ H x y v u Q I rx ry ⟨_, h, q⟩ => h pins s σ H x y v u Q I rx ry q
end

/-! ### the judgements: from every state as told, to a state as told -/
section
variable (M : Mode) (G : List (Option D)) (L : Led)
/-- behind: a datum's value; K is what is to be shown of the datum and the ledger -/
def Post (F : Hp) (σ : St) (K : D → Led → Prop) (Q : VK) : Prop := ∀ d L' v F' H', K d L' → M.at G L' F' σ H' → Rep M.C.K F' d v → Same F F' → Q v H'
def Ev (e : Expr) (K : D → Led → Prop) : Prop := ∀ X, Sit M X → ∀ F σ H, M.at G L F σ H → ∀ Q, Post M G F σ K Q → GE X e σ H Q
def Op2 (f : Value → Value → Sem Value) (x y : D) (K : D → Led → Prop) : Prop := ∀ X, Sit M X → ∀ F σ H v u, M.at G L F σ H → Rep M.C.K F x v → Rep M.C.K F y u → ∀ Q, Post M G F σ K Q → GOp X f v u H Q
def Op1 (f : Value → Sem Value) (x : D) (K : D → Led → Prop) : Prop := ∀ X, Sit M X → ∀ F σ H v, M.at G L F σ H → Rep M.C.K F x v → ∀ Q, Post M G F σ K Q → GUn X f v H Q
def Ip2 (op : Operator) (x y : D) (K : D → Led → Prop) : Prop := ∀ X, Sit M X → ∀ F σ H v u, M.at G L F σ H → Rep M.C.K F x v → Rep M.C.K F y u → ∀ Q, Post M G F σ K Q → GIp X op v u H Q
def CallV (f : Value) (xs : List D) (K : D → Led → Prop) : Prop := ∀ X, Sit M X → ∀ F σ H vs, M.at G L F σ H → RepA M.C.K F xs vs → ∀ Q, Post M G F σ K Q → GC X f vs H Q
def MtV (id : String) (x : D) (xs : List D) (K : D → Led → Prop) : Prop := ∀ X, Sit M X → ∀ F σ H v vs, M.at G L F σ H → Rep M.C.K F x v → RepA M.C.K F xs vs → ∀ Q, Post M G F σ K Q → GM X id v vs H Q
def IxV (x y : D) (K : D → Led → Prop) : Prop := ∀ X, Sit M X → ∀ F σ H v u, M.at G L F σ H → Rep M.C.K F x v → Rep M.C.K F y u → ∀ Q, Post M G F σ K Q → GIx X v u H Q
def SlV (x : D) (lo hi : Option Int) (K : D → Led → Prop) : Prop := ∀ X, Sit M X → ∀ F σ H v, M.at G L F σ H → Rep M.C.K F x v → ∀ Q, Post M G F σ K Q → GSl X v lo hi H Q
def EvA (es : List Expr) (K : List D → Led → Prop) : Prop := ∀ X, Sit M X → ∀ F σ H, M.at G L F σ H → ∀ Q : List V → Hp → Prop, (∀ ds L' vs F' H', K ds L' → M.at G L' F' σ H' → RepA M.C.K F' ds vs → Same F F' → Q vs H') → GA X es σ H Q
def Tst (e : Expr) (K : Bool → Led → Prop) : Prop := ∀ X, Sit M X → ∀ F σ H, M.at G L F σ H → ∀ Q : Bool → Hp → Prop, (∀ b L' F' H', K b L' → M.at G L' F' σ H' → Same F F' → Q b H') → GT X e σ H Q
def TstW (e : Expr) (K : Bool → Led → Prop) : Prop := ∀ X, Sit M X → ∀ F σ H, M.at G L F σ H → ∀ Q : Bool → Hp → Prop, (∀ b L' F' H', K b L' → M.at G L' F' σ H' → Same F F' → Q b H') → GW X e σ H Q
/-- the truth of a datum -/
def TruD (x : D) (b : Bool) : Prop := ∀ F σ H v, M.at G L F σ H → Rep M.C.K F x v → TruV M.C.K v H b
end

/-! ### places of names -/
inductive Look : List Str → List (Option D) → Str → Option D → Prop
  | here {x : Str} {N : List Str} {d : Option D} {G : List (Option D)} : Look (x :: N) (d :: G) x d
  | there {x y : Str} {N : List Str} {d e : Option D} {G : List (Option D)} : Look N G x d → Look (y :: N) (e :: G) x d
theorem Look.ix : ∀ {N : List Str} {G : List (Option D)} {x : Str} {d : Option D}, Look N G x d → ∃ i : Nat, N[i]? = some x ∧ G[i]? = some d
  | _, _, _, _, .here => ⟨0, rfl, rfl⟩
  | _, _, _, _, .there h => let ⟨i, a, b⟩ := Look.ix h; ⟨i + 1, by simpa using a, by simpa using b⟩
inductive Put : List Str → List (Option D) → Str → Option D → List (Option D) → Prop
  | here {x : Str} {N : List Str} {d e : Option D} {G : List (Option D)} : Put (x :: N) (e :: G) x d (d :: G)
  | there {x y : Str} {N : List Str} {d e : Option D} {G G' : List (Option D)} : Put N G x d G' → Put (y :: N) (e :: G) x d (e :: G')
theorem Put.ix : ∀ {N : List Str} {G G' : List (Option D)} {x : Str} {d : Option D}, Put N G x d G' → ∃ i : Nat, N[i]? = some x ∧ G' = G.set i d
  | _, _, _, _, _, .here => ⟨0, rfl, rfl⟩
  | _, _, _, _, _, .there h => let ⟨i, a, b⟩ := Put.ix h; ⟨i + 1, by simpa using a, by simp [b]⟩

section
variable {M : Mode} {G : List (Option D)} {L : Led} {K : D → Led → Prop} {pos : Pos}
theorem Ev.imp {e : Expr} {K' : D → Led → Prop} (h : Ev M G L e K) (k : ∀ d L', K d L' → K' d L') : Ev M G L e K' := fun X S F σ H a Q q => h X S F σ H a Q fun d L' v F' H' kk => q d L' v F' H' (k d L' kk)

/-! ### leaves -/
theorem ev_name {x : Str} {d : D} (hl : Look M.C.N G x (some d)) (hv : Vis M.C.sc x) (h : K d L) (hd : (x == ("__debug__" : Str)) = false := by decide +kernel) (hcd : (x == ("__classdict__" : Str)) = false := by decide +kernel) : Ev M G L (.Name x pos) K := by
  intro X S F σ H a Q q
  obtain ⟨i, h1, h2⟩ := hl.ix
  obtain ⟨v, h3, r⟩ := a.env.get h2
  refine ⟨tVar i, pe_var (by rw [← S.ok.eN]; exact h1) (by rw [← S.ok.es]; exact hv) hd hcd, v, h3, ?_⟩
  exact q d L v F H h a r (Same.refl _)
theorem ev_glob {x : Str} {v : V} {u : Value} {d : D} (hg : GlC M.C x) (hm : M.C.mg x = some u) (r : RelV v u) (rd : ∀ F, Rep M.C.K F d v) (h : K d L) (hd : (x == ("__debug__" : Str)) = false := by decide +kernel) : Ev M G L (.Name x pos) K := by
  intro X S F σ H a Q q
  refine ⟨tC v, pe_glob (by show X.env.scope.names.lookup x = _; rw [← S.ok.es]; exact hg) (by rw [← S.ok.em]; exact hm) r hd, ?_⟩
  exact q d L v F H h a (rd F) (Same.refl _)
theorem ev_int {i : Int} {j : Nat} (h : K (.int i) L) : Ev M G L (.Constant (.int i) j pos) K := fun X S F σ H a Q q => ⟨_, pe_int, q _ L _ F H h a (.v _) (Same.refl _)⟩
theorem ev_bl {i : Bool} {j : Nat} (h : K (.bl i) L) : Ev M G L (.Constant (.bool i) j pos) K := fun X S F σ H a Q q => ⟨_, pe_bl, q _ L _ F H h a (.v _) (Same.refl _)⟩
theorem ev_non {j : Nat} (h : K .non L) : Ev M G L (.Constant .none j pos) K := fun X S F σ H a Q q => ⟨_, pe_non, q _ L _ F H h a (.v _) (Same.refl _)⟩
theorem ev_str {z : Str} {j : Nat} (h : K (.str z) L) : Ev M G L (.Constant (.str z) j pos) K := fun X S F σ H a Q q => ⟨_, pe_str, q _ L _ F H h a (.v _) (Same.refl _)⟩

/-! ### operators -/
variable {a b c : Expr}
theorem ev_bin {op : Operator} (h : Ev M G L a fun x L1 => Ev M G L1 b fun y L2 => Op2 M G L2 (binaryOp op) x y K) : Ev M G L (.BinOp a op b pos) K := by
  intro X S F σ H A Q q
  refine ⟨tOp (GOp X (binaryOp op)) (GE X a) (GE X b), pe_op bop be be, ?_⟩
  refine h X S F σ H A _ fun x L1 v F1 H1 k1 A1 r1 s1 => ?_
  refine k1 X S F1 σ H1 A1 _ fun y L2 u F2 H2 k2 A2 r2 s2 => ?_
  exact k2 X S F2 σ H2 v u A2 (r1.mono s2) r2 Q fun d L3 w F3 H3 k3 A3 r3 s3 => q d L3 w F3 H3 k3 A3 r3 ((s1.trans s2).trans s3)
theorem ev_un {op : UnaryOp} (h : Ev M G L a fun x L1 => Op1 M G L1 (unaryOp op) x K) : Ev M G L (.UnaryOp op a pos) K := by
  intro X S F σ H A Q q
  refine ⟨tUn (GUn X (unaryOp op)) (GE X a), pe_un bun be, ?_⟩
  refine h X S F σ H A _ fun x L1 v F1 H1 k1 A1 r1 s1 => ?_
  exact k1 X S F1 σ H1 v A1 r1 Q fun d L3 w F3 H3 k3 A3 r3 s3 => q d L3 w F3 H3 k3 A3 r3 (s1.trans s3)
theorem ev_cmp {op : CmpOp} (h : Ev M G L a fun x L1 => Ev M G L1 b fun y L2 => Op2 M G L2 (compareOp op) x y K) (hm : behindInMarks op b = false := by first | exact nomark _ | rfl) : Ev M G L (.Compare a [op] [b] pos) K := by
  intro X S F σ H A Q q
  refine ⟨tOp (GOp X (compareOp op)) (GE X a) (GE X b), pe_cmpR bop be be hm, ?_⟩
  refine h X S F σ H A _ fun x L1 v F1 H1 k1 A1 r1 s1 => ?_
  refine k1 X S F1 σ H1 A1 _ fun y L2 u F2 H2 k2 A2 r2 s2 => ?_
  exact k2 X S F2 σ H2 v u A2 (r1.mono s2) r2 Q fun d L3 w F3 H3 k3 A3 r3 s3 => q d L3 w F3 H3 k3 A3 r3 ((s1.trans s2).trans s3)
/-- a op b op' c: the second is asked where the first is true -/
theorem ev_chain {op op' : CmpOp} (h : Ev M G L a fun x L1 => Ev M G L1 b fun y L2 => Op2 M G L2 (compareOp op) x y fun d L3 => ∃ k : Bool, d = .bl k ∧
      (k = true → Ev M G L3 c fun z L4 => Op2 M G L4 (compareOp op') y z K) ∧ (k = false → K (.bl false) L3)) (hm : lastMarks [op, op'] [b, c] = false := by with_unfolding_all rfl) : Ev M G L (.Compare a [op, op'] [b, c] pos) K := by
  intro X S F σ H A Q q
  refine ⟨tChain (GOp X (compareOp op)) (GOp X (compareOp op')) (GE X a) (GE X b) (GE X c), pe_chain bop bop be be be hm, ?_⟩
  refine h X S F σ H A _ fun x L1 v F1 H1 k1 A1 r1 s1 => ?_
  refine k1 X S F1 σ H1 A1 _ fun y L2 u F2 H2 k2 A2 r2 s2 => ?_
  refine k2 X S F2 σ H2 v u A2 (r1.mono s2) r2 _ fun d L3 w F3 H3 k3 A3 r3 s3 => ?_
  obtain ⟨k, rfl, ht, hf⟩ := k3
  cases r3
  refine ⟨k, rfl, ?_⟩
  cases k with
  | true =>
    rw [if_pos rfl]
    refine ht rfl X S F3 σ H3 A3 _ fun z L4 w4 F4 H4 k4 A4 r4 s4 => ?_
    exact k4 X S F4 σ H4 u w4 A4 (r2.mono (s3.trans s4)) r4 Q fun d L5 w5 F5 H5 k5 A5 r5 s5 => q d L5 w5 F5 H5 k5 A5 r5 ((((s1.trans s2).trans s3).trans s4).trans s5)
  | false =>
    rw [if_neg Bool.false_ne_true]
    exact q _ L3 _ F3 H3 (hf rfl) A3 (.v _) ((s1.trans s2).trans s3)
theorem ev_if {t : Expr} (h : Tst M G L t fun k L1 => (k = true → Ev M G L1 a K) ∧ (k = false → Ev M G L1 b K)) : Ev M G L (.IfExp t a b pos) K := by
  intro X S F σ H A Q q
  refine ⟨tIf (GT X t) (GE X a) (GE X b), pe_ifExp bt be be, ?_⟩
  refine h X S F σ H A _ fun k L1 F1 H1 k1 A1 s1 => ?_
  cases k with
  | true =>
    show GE X a σ H1 Q
    exact k1.1 rfl X S F1 σ H1 A1 Q fun d L' v F' H' kk a' r' s' => q d L' v F' H' kk a' r' (s1.trans s')
  | false =>
    show GE X b σ H1 Q
    exact k1.2 rfl X S F1 σ H1 A1 Q fun d L' v F' H' kk a' r' s' => q d L' v F' H' kk a' r' (s1.trans s')
/-- and, or, not as values, all but the last bools -/
theorem ev_one {op : BoolOp} (h : Ev M G L a K) : Ev M G L (.BoolOp op [a] pos) K := fun X S F σ H A Q q => ⟨_, pe_one be, h X S F σ H A Q q⟩
theorem ev_and {rest : List Expr} (h : Ev M G L a fun x L1 => ∃ k : Bool, x = .bl k ∧ (k = true → Ev M G L1 (.BoolOp .And (b :: rest) pos) K) ∧ (k = false → K (.bl false) L1)) : Ev M G L (.BoolOp .And (a :: b :: rest) pos) K := by
  intro X S F σ H A Q q
  refine ⟨_, pe_and be be, ?_⟩
  refine h X S F σ H A _ fun x L1 v F1 H1 k1 A1 r1 s1 => ?_
  obtain ⟨k, rfl, ht, hf⟩ := k1
  cases r1
  refine ⟨k, rfl, ?_⟩
  cases k with
  | true =>
    rw [if_pos rfl]
    exact ht rfl X S F1 σ H1 A1 Q fun d L' v F' H' kk a' r' s' => q d L' v F' H' kk a' r' (s1.trans s')
  | false =>
    rw [if_neg Bool.false_ne_true]
    exact q _ L1 _ F1 H1 (hf rfl) A1 (.v _) s1
theorem ev_or {rest : List Expr} (h : Ev M G L a fun x L1 => ∃ k : Bool, x = .bl k ∧ (k = false → Ev M G L1 (.BoolOp .Or (b :: rest) pos) K) ∧ (k = true → K (.bl true) L1)) : Ev M G L (.BoolOp .Or (a :: b :: rest) pos) K := by
  intro X S F σ H A Q q
  refine ⟨_, pe_or be be, ?_⟩
  refine h X S F σ H A _ fun x L1 v F1 H1 k1 A1 r1 s1 => ?_
  obtain ⟨k, rfl, ht, hf⟩ := k1
  cases r1
  refine ⟨k, rfl, ?_⟩
  cases k with
  | false =>
    rw [if_neg Bool.false_ne_true]
    exact ht rfl X S F1 σ H1 A1 Q fun d L' v F' H' kk a' r' s' => q d L' v F' H' kk a' r' (s1.trans s')
  | true =>
    rw [if_pos rfl]
    exact q _ L1 _ F1 H1 (hf rfl) A1 (.v _) s1
theorem ev_not (h : Ev M G L a fun x L1 => ∃ k : Bool, x = .bl k ∧ K (.bl (!k)) L1) : Ev M G L (.UnaryOp .Not a pos) K := by
  intro X S F σ H A Q q
  refine ⟨_, pe_not be, ?_⟩
  refine h X S F σ H A _ fun x L1 v F1 H1 k1 A1 r1 s1 => ?_
  obtain ⟨k, rfl, hk⟩ := k1
  cases r1
  exact ⟨k, rfl, q _ L1 _ F1 H1 hk A1 (.v _) s1⟩

/-! ### tests -/
variable {KB : Bool → Led → Prop}
theorem tst_cmp {op : CmpOp} (h : Ev M G L a fun x L1 => Ev M G L1 b fun y L2 => Op2 M G L2 (compareOp op) x y fun d L3 => ∃ k : Bool, d = .bl k ∧ KB k L3) (hm : behindInMarks op b = false := by first | exact nomark _ | rfl) : Tst M G L (.Compare a [op] [b] pos) KB := by
  intro X S F σ H A Q q
  refine ⟨tTest (tOp (GOp X (compareOp op)) (GE X a) (GE X b)), pt_cmpR bop be be hm, ?_⟩
  refine h X S F σ H A _ fun x L1 v F1 H1 k1 A1 r1 s1 => ?_
  refine k1 X S F1 σ H1 A1 _ fun y L2 u F2 H2 k2 A2 r2 s2 => ?_
  refine k2 X S F2 σ H2 v u A2 (r1.mono s2) r2 _ fun d L3 w F3 H3 k3 A3 r3 s3 => ?_
  obtain ⟨k, rfl, hk⟩ := k3
  cases r3
  exact ⟨k, rfl, q k L3 F3 H3 hk A3 ((s1.trans s2).trans s3)⟩
theorem tst_chain {op op' : CmpOp} (h : Ev M G L (.Compare a [op, op'] [b, c] pos) fun d L3 => ∃ k : Bool, d = .bl k ∧ KB k L3) (hm : ∀ X : Cx, ∀ whole, isTrue (.Compare a [op, op'] [b, c] pos) X.env whole = (do let v ← whole; standAt pos; holding [v] (truthy v)) := by intro _ _; rfl) : Tst M G L (.Compare a [op, op'] [b, c] pos) KB := by
  intro X S F σ H A Q q
  refine ⟨_, pt_val be (hm X), ?_⟩
  refine h X S F σ H A _ fun d L3 w F3 H3 k3 A3 r3 s3 => ?_
  obtain ⟨k, rfl, hk⟩ := k3
  cases r3
  exact ⟨k, rfl, q k L3 F3 H3 hk A3 s3⟩
/-- a test that is a value's truth -/
theorem tst_val {e : Expr} (h : Ev M G L e fun d L1 => ∃ k : Bool, TruD M G L1 d k ∧ KB k L1) (he : ∀ X : Cx, ∀ whole, isTrue e X.env whole = (do let v ← whole; standAt e.pos; holding [v] (truthy v)) := by intro _ _; rfl) : Tst M G L e KB := by
  intro X S F σ H A Q q
  refine ⟨_, pt_truth be (he X), ?_⟩
  refine h X S F σ H A _ fun d L1 v F1 H1 k1 A1 r1 s1 => ?_
  obtain ⟨k, ht, hk⟩ := k1
  refine ⟨k, ?_, q k L1 F1 H1 hk A1 s1⟩
  rw [← S.ok.eK]
  exact ht F1 σ H1 v A1 r1
theorem tst_not (h : Tst M G L a fun k L1 => KB (!k) L1) : Tst M G L (.UnaryOp .Not a pos) KB := by
  intro X S F σ H A Q q
  refine ⟨_, pt_not bt, ?_⟩
  exact h X S F σ H A _ fun k L1 F1 H1 k1 A1 s1 => q (!k) L1 F1 H1 k1 A1 s1
theorem tst_w {e : Expr} (h : TstW M G L e KB) : Tst M G L e KB := fun X S F σ H A Q q => ⟨_, bw.pt, h X S F σ H A Q q⟩
theorem tw_and1 (h : Tst M G L a KB) : TstW M G L (.BoolOp .And [a] pos) KB := fun X S F σ H A Q q => ⟨_, pw_and1 bt, h X S F σ H A Q q⟩
theorem tw_or1 (h : Tst M G L a KB) : TstW M G L (.BoolOp .Or [a] pos) KB := fun X S F σ H A Q q => ⟨_, pw_or1 bt, h X S F σ H A Q q⟩
theorem tw_and {rest : List Expr} (h : Tst M G L a fun k L1 => (k = true → TstW M G L1 (.BoolOp .And (b :: rest) pos) KB) ∧ (k = false → KB false L1)) : TstW M G L (.BoolOp .And (a :: b :: rest) pos) KB := by
  intro X S F σ H A Q q
  refine ⟨_, pw_and bt bw, ?_⟩
  refine h X S F σ H A _ fun k L1 F1 H1 k1 A1 s1 => ?_
  cases k with
  | true =>
    rw [if_pos rfl]
    exact k1.1 rfl X S F1 σ H1 A1 Q fun d L' F' H' kk a' s' => q d L' F' H' kk a' (s1.trans s')
  | false =>
    rw [if_neg Bool.false_ne_true]
    exact q _ L1 F1 H1 (k1.2 rfl) A1 s1
theorem tw_or {rest : List Expr} (h : Tst M G L a fun k L1 => (k = false → TstW M G L1 (.BoolOp .Or (b :: rest) pos) KB) ∧ (k = true → KB true L1)) : TstW M G L (.BoolOp .Or (a :: b :: rest) pos) KB := by
  intro X S F σ H A Q q
  refine ⟨_, pw_or bt bw, ?_⟩
  refine h X S F σ H A _ fun k L1 F1 H1 k1 A1 s1 => ?_
  cases k with
  | false =>
    rw [if_neg Bool.false_ne_true]
    exact k1.1 rfl X S F1 σ H1 A1 Q fun d L' F' H' kk a' s' => q d L' F' H' kk a' (s1.trans s')
  | true =>
    rw [if_pos rfl]
    exact q _ L1 F1 H1 (k1.2 rfl) A1 s1

/-! ### arguments, displays -/
variable {KA : List D → Led → Prop} {e : Expr} {es : List Expr}
theorem ea_nil (h : KA [] L) : EvA M G L [] KA := fun X S F σ H A Q q => ⟨_, pa_nil, q [] L [] F H h A .nil (Same.refl _)⟩
theorem ea_cons (h : Ev M G L e fun d L1 => EvA M G L1 es fun ds L2 => KA (d :: ds) L2) (hs : ∀ X : Cx, starEach (e :: es) X.env = (false, eval e X.env) :: starEach es X.env := by intro _; rfl) : EvA M G L (e :: es) KA := by
  intro X S F σ H A Q q
  refine ⟨_, pa_cons be ba (hs X), ?_⟩
  refine h X S F σ H A _ fun x L1 v F1 H1 k1 A1 r1 s1 => ?_
  exact k1 X S F1 σ H1 A1 _ fun ds L2 vs F2 H2 k2 A2 r2 s2 => q (x :: ds) L2 (v :: vs) F2 H2 k2 A2 (.cons (r1.mono s2) r2) (s1.trans s2)
theorem ev_tup {x1} (h : EvA M G L es fun ds L1 => ds.length ≤ sizeLine ∧ K (.tup ds) L1) : Ev M G L (.Tuple es x1 pos) K := by
  intro X S F σ H A Q q
  refine ⟨_, pe_tup ba, ?_⟩
  refine h X S F σ H A _ fun ds L1 vs F1 H1 k1 A1 r1 s1 => ⟨by rw [← r1.length]; exact k1.1, fun p hp => ?_⟩
  obtain ⟨A2, s2⟩ := A1.ice (o := .tup vs) hp
  exact q _ L1 _ _ _ k1.2 A2 (.tup upd_same (r1.mono s2)) (s1.trans s2)
theorem ev_lst (h : EvA M G L es fun ds L1 => ds.length ≤ sizeLine ∧ ∀ p, K (.ref p) ((p, .lst ds) :: L1)) : Ev M G L (.List es pos) K := by
  intro X S F σ H A Q q
  refine ⟨_, pe_lst ba, ?_⟩
  refine h X S F σ H A _ fun ds L1 vs F1 H1 k1 A1 r1 s1 => ⟨by rw [← r1.length]; exact k1.1, fun p hp => ?_⟩
  exact q _ _ _ F1 _ (k1.2 p) (A1.new hp (.lst upd_same r1)) (.v _) s1
end
end TL

namespace TL
open PySem L2
theorem sz_of {n : Nat} (h : n ≤ 1000000) : n ≤ sizeLine := Nat.le_trans h (by decide)
theorem sz_lt {n : Nat} (h : n ≤ 1000000) : n < sizeLine := Nat.lt_of_le_of_lt h (by decide)

/-! ### what a datum is, read -/
inductive IsL (L : Led) : D → List D → Prop
  | frz {ds : List D} : IsL L (.lst ds) ds
  | own {l : Addr} {ds : List D} : (l, OW.lst ds) ∈ L → IsL L (.ref l) ds
inductive IsK (L : Led) : D → List (Key × D) → Prop
  | frz {ds : List (Key × D)} : IsK L (.dK ds) ds
  | own {l : Addr} {ds : List (Key × D)} : (l, OW.dK ds) ∈ L → IsK L (.ref l) ds
inductive IsTT (L : Led) : D → List (List Key × D) → Prop
  | frz {ds : List (List Key × D)} : IsTT L (.dT ds) ds
  | own {l : Addr} {ds : List (List Key × D)} : (l, OW.dT ds) ∈ L → IsTT L (.ref l) ds
inductive IsO (L : Led) : D → Addr → List (Str × D) → Prop
  | frz {C : Addr} {fs : List (Str × D)} : IsO L (.ob C fs) C fs
  | own {l C : Addr} {fs : List (Str × D)} : (l, OW.ins C fs) ∈ L → IsO L (.ref l) C fs
section
variable {K : PySem.W.Frag} {H0 F0 F H : Hp} {G : List (Option D)} {L : Led} {σ : St} {x : D} {v : V}
theorem rd_up {F H : Hp} (s : Same F H) {p : Addr} {u : HO} (h : Rd F p u) : Rd H p u := h.elim (fun h => .inl (s _ _ h)) fun ⟨o, h⟩ => .inr ⟨o, s _ _ h⟩
theorem IsL.get {ds : List D} (h : IsL L x ds) (a : At K H0 F0 G L F σ H) (r : Rep K F x v) : ∃ p vs, v = .ref p ∧ H p = some (.lst vs) ∧ RepA K F ds vs := by
  cases h with
  | frz =>
    cases r with
    | lst h1 h2 => exact ⟨_, _, rfl, a.fh _ _ h1, h2⟩
  | own h1 =>
    cases r
    obtain ⟨o, _⟩ := a.own _ h1
    cases o with
    | lst h2 h3 => exact ⟨_, _, rfl, h2, h3⟩
theorem IsK.get {ds : List (Key × D)} (h : IsK L x ds) (a : At K H0 F0 G L F σ H) (r : Rep K F x v) : ∃ p vs, v = .ref p ∧ Rd H p (.dK vs) ∧ RepK K F ds vs := by
  cases h with
  | frz =>
    cases r with
    | dK h1 h2 => exact ⟨_, _, rfl, rd_up a.fh h1, h2⟩
  | own h1 =>
    cases r
    obtain ⟨o, _⟩ := a.own _ h1
    cases o with
    | dK h2 h3 => exact ⟨_, _, rfl, .inl h2, h3⟩
theorem IsTT.get {ds : List (List Key × D)} (h : IsTT L x ds) (a : At K H0 F0 G L F σ H) (r : Rep K F x v) : ∃ p vs, v = .ref p ∧ Rd H p (.dT vs) ∧ RepT K F ds vs := by
  cases h with
  | frz =>
    cases r with
    | dT h1 h2 => exact ⟨_, _, rfl, rd_up a.fh h1, h2⟩
  | own h1 =>
    cases r
    obtain ⟨o, _⟩ := a.own _ h1
    cases o with
    | dT h2 h3 => exact ⟨_, _, rfl, .inl h2, h3⟩
theorem IsO.get {C : Addr} {fs : List (Str × D)} (h : IsO L x C fs) (a : At K H0 F0 G L F σ H) (r : Rep K F x v) : ∃ p dx ws, v = .ref p ∧ H p = some (.ins C dx ws) ∧ RepF K F fs ws := by
  cases h with
  | frz =>
    cases r with
    | ob h1 h2 => exact ⟨_, _, _, rfl, a.fh _ _ h1, h2⟩
  | own h1 =>
    cases r
    obtain ⟨o, _⟩ := a.own _ h1
    cases o with
    | ins h2 h3 => exact ⟨_, _, _, rfl, h2, h3⟩
theorem tup_get {ds : List D} (a : At K H0 F0 G L F σ H) (r : Rep K F (.tup ds) v) : ∃ p vs, v = .ref p ∧ SqT K H p vs ∧ RepA K F ds vs := by
  cases r with
  | tup h1 h2 => exact ⟨_, _, rfl, .inl (.inl (a.fh _ _ h1)), h2⟩
theorem tup_at {ds : List D} (a : At K H0 F0 G L F σ H) (r : Rep K F (.tup ds) v) : ∃ p vs, v = .ref p ∧ H p = some (.tup vs) ∧ RepA K F ds vs := by
  cases r with
  | tup h1 h2 => exact ⟨_, _, rfl, a.fh _ _ h1, h2⟩
def tupOf : D → Option (List D)
  | .tup ds => some ds
  | .ctup ds => some ds
  | _ => none
theorem tup_of {x : D} {ds : List D} (a : At K H0 F0 G L F σ H) (e : tupOf x = some ds) (r : Rep K F x v) : ∃ p vs, v = .ref p ∧ SqT K H p vs ∧ RepA K F ds vs := by
  cases x with
  | tup es => cases e; exact tup_get a r
  | ctup es =>
    cases e
    cases r with
    | ctup h1 h2 => exact ⟨_, _, rfl, sqT_mono a.fh h1, h2⟩
  | _ => cases e
/-- dicts: finding by key -/
def valD {κ : Type} [DecidableEq κ] (kvs : List (κ × D)) (k : κ) : Option D := (kvs.find? fun kv => decide (kv.1 = k)).map (·.2)
def putE {κ : Type} [DecidableEq κ] (kvs : List (κ × D)) (k : κ) (v : D) : List (κ × D) := if (kvs.any fun kv => decide (kv.1 = k)) then kvs.map (fun kv => if kv.1 = k then (kv.1, v) else kv) else kvs ++ [(k, v)]
theorem RepK.val {kvs : List (Key × D)} {ws : List (Key × V)} (h : RepK K F kvs ws) (k : Key) : (∀ d, valD kvs k = some d → ∃ v, valV ws k = some v ∧ Rep K F d v) ∧ (valD kvs k = none → valV ws k = none) := by
  induction kvs generalizing ws with
  | nil => cases h; exact ⟨(fun d e => nomatch e), (fun _ => rfl)⟩
  | cons p kvs ih =>
    cases h with
    | @cons k' d' v' _ vs r t =>
      unfold valD valV
      rw [List.find?_cons, List.find?_cons]
      by_cases e : k' = k
      · simp only [e, decide_true]
        exact ⟨(fun d q => by cases q; exact ⟨_, rfl, r⟩), (fun q => nomatch q)⟩
      · simp only [decide_eq_false e]
        exact ih t
theorem RepK.length {kvs : List (Key × D)} {ws : List (Key × V)} (h : RepK K F kvs ws) : kvs.length = ws.length := by
  induction kvs generalizing ws with
  | nil => cases h; rfl
  | cons p kvs ih =>
    cases h with
    | cons r t => simp [ih t]
theorem RepT.length {kvs : List (List Key × D)} {ws : List (List Key × V)} (h : RepT K F kvs ws) : kvs.length = ws.length := by
  induction kvs generalizing ws with
  | nil => cases h; rfl
  | cons p kvs ih =>
    cases h with
    | cons r t => simp [ih t]
theorem RepT.val {kvs : List (List Key × D)} {ws : List (List Key × V)} (h : RepT K F kvs ws) (k : List Key) : (∀ d, valD kvs k = some d → ∃ v, valV ws k = some v ∧ Rep K F d v) ∧ (valD kvs k = none → valV ws k = none) := by
  induction kvs generalizing ws with
  | nil => cases h; exact ⟨(fun d e => nomatch e), (fun _ => rfl)⟩
  | cons p kvs ih =>
    cases h with
    | @cons k' d' v' _ vs r t =>
      unfold valD valV
      rw [List.find?_cons, List.find?_cons]
      by_cases e : k' = k
      · simp only [e, decide_true]
        exact ⟨(fun d q => by cases q; exact ⟨_, rfl, r⟩), (fun q => nomatch q)⟩
      · simp only [decide_eq_false e]
        exact ih t
theorem RepK.isSome {kvs : List (Key × D)} {ws : List (Key × V)} (h : RepK K F kvs ws) (k : Key) : (valV ws k).isSome = (valD kvs k).isSome := by
  obtain ⟨h1, h2⟩ := h.val k
  cases e : valD kvs k with
  | none => rw [h2 e]; rfl
  | some d => obtain ⟨v, q, _⟩ := h1 d e; rw [q]; rfl
theorem RepT.isSome {kvs : List (List Key × D)} {ws : List (List Key × V)} (h : RepT K F kvs ws) (k : List Key) : (valV ws k).isSome = (valD kvs k).isSome := by
  obtain ⟨h1, h2⟩ := h.val k
  cases e : valD kvs k with
  | none => rw [h2 e]; rfl
  | some d => obtain ⟨v, q, _⟩ := h1 d e; rw [q]; rfl
theorem RepK.any {kvs : List (Key × D)} {ws : List (Key × V)} (h : RepK K F kvs ws) (k : Key) : (kvs.any fun kv => decide (kv.1 = k)) = ws.any fun kv => decide (kv.1 = k) := by
  induction kvs generalizing ws with
  | nil => cases h; rfl
  | cons p kvs ih =>
    cases h with
    | cons r t => simp only [List.any_cons, ih t]
theorem RepT.any {kvs : List (List Key × D)} {ws : List (List Key × V)} (h : RepT K F kvs ws) (k : List Key) : (kvs.any fun kv => decide (kv.1 = k)) = ws.any fun kv => decide (kv.1 = k) := by
  induction kvs generalizing ws with
  | nil => cases h; rfl
  | cons p kvs ih =>
    cases h with
    | cons r t => simp only [List.any_cons, ih t]
theorem RepK.mapput {d : D} {v : V} (r : Rep K F d v) (k : Key) : ∀ {kvs : List (Key × D)} {ws : List (Key × V)}, RepK K F kvs ws →
    RepK K F (kvs.map fun kv => if kv.1 = k then (kv.1, d) else kv) (ws.map fun kv => if kv.1 = k then (kv.1, v) else kv)
  | _, _, .nil => .nil
  | (k', x) :: _, (_, y) :: _, .cons q t => by
    simp only [List.map_cons]
    by_cases e : k' = k
    · simp only [if_pos e]; exact .cons r (RepK.mapput r k t)
    · simp only [if_neg e]; exact .cons q (RepK.mapput r k t)
theorem RepT.mapput {d : D} {v : V} (r : Rep K F d v) (k : List Key) : ∀ {kvs : List (List Key × D)} {ws : List (List Key × V)}, RepT K F kvs ws →
    RepT K F (kvs.map fun kv => if kv.1 = k then (kv.1, d) else kv) (ws.map fun kv => if kv.1 = k then (kv.1, v) else kv)
  | _, _, .nil => .nil
  | (k', x) :: _, (_, y) :: _, .cons q t => by
    simp only [List.map_cons]
    by_cases e : k' = k
    · simp only [if_pos e]; exact .cons r (RepT.mapput r k t)
    · simp only [if_neg e]; exact .cons q (RepT.mapput r k t)
theorem RepK.snoc {d : D} {v : V} {k : Key} (r : Rep K F d v) : ∀ {kvs : List (Key × D)} {ws : List (Key × V)}, RepK K F kvs ws → RepK K F (kvs ++ [(k, d)]) (ws ++ [(k, v)])
  | _, _, .nil => .cons r .nil
  | _, _, .cons q t => .cons q (RepK.snoc r t)
theorem RepT.snoc {d : D} {v : V} {k : List Key} (r : Rep K F d v) : ∀ {kvs : List (List Key × D)} {ws : List (List Key × V)}, RepT K F kvs ws → RepT K F (kvs ++ [(k, d)]) (ws ++ [(k, v)])
  | _, _, .nil => .cons r .nil
  | _, _, .cons q t => .cons q (RepT.snoc r t)
theorem RepK.put {kvs : List (Key × D)} {ws : List (Key × V)} {d : D} {v : V} (h : RepK K F kvs ws) (k : Key) (r : Rep K F d v) : RepK K F (putE kvs k d) (putK ws k v) := by
  unfold putE putK
  rw [← h.any k]
  split
  · exact RepK.mapput r k h
  · exact h.snoc r
theorem RepT.put {kvs : List (List Key × D)} {ws : List (List Key × V)} {d : D} {v : V} (h : RepT K F kvs ws) (k : List Key) (r : Rep K F d v) : RepT K F (putE kvs k d) (putK ws k v) := by
  unfold putE putK
  rw [← h.any k]
  split
  · exact RepT.mapput r k h
  · exact h.snoc r
end

/-! ### operators on data -/
section
variable {M : Mode} {G : List (Option D)} {L : Led} {K : D → Led → Prop}
theorem op2_of {f : Value → Value → Sem Value} {x y : V} {d : D} (r : R2) (w : V) (ho : ∀ X : Cx, OpR X f r) (hr : ∀ H (Q : VK), Q w H → r x y H Q) (h : K (.v w) L) : Op2 M G L f (.v x) (.v y) K := by
  intro X S F σ H v u a rx ry Q q
  cases rx; cases ry
  exact ⟨r, ho X, hr H Q (q _ L _ F H h a (.v _) (Same.refl _))⟩
theorem op_addI {i j : Int} (h : K (.int (i + j)) L) : Op2 M G L (binaryOp .Add) (.int i) (.int j) K := op2_of (d := .non) _ _ (fun _ => op_add) (fun H Q q => ⟨i, j, rfl, rfl, q⟩) h
theorem op_subI {i j : Int} (h : K (.int (i - j)) L) : Op2 M G L (binaryOp .Sub) (.int i) (.int j) K := op2_of (d := .non) _ _ (fun _ => op_sub) (fun H Q q => ⟨i, j, rfl, rfl, q⟩) h
theorem op_mulI {i j : Int} (hc : CMul i j) (h : K (.int (i * j)) L) : Op2 M G L (binaryOp .Mult) (.int i) (.int j) K := op2_of (d := .non) _ _ (fun _ => op_mul) (fun H Q q => ⟨i, j, rfl, rfl, hc, q⟩) h
theorem op_modI {i j : Int} (hc : 0 < j) (h : K (.int (i % j)) L) : Op2 M G L (binaryOp .Mod) (.int i) (.int j) K := op2_of (d := .non) _ _ (fun _ => op_mod) (fun H Q q => ⟨i, j, rfl, rfl, hc, q⟩) h
theorem op_fdivI {i j : Int} (hc : CDiv i j) (h : K (.int (i / j)) L) : Op2 M G L (binaryOp .FloorDiv) (.int i) (.int j) K := op2_of (d := .non) _ _ (fun _ => op_fdiv) (fun H Q q => ⟨i, j, rfl, rfl, hc, q⟩) h
theorem op_powI {i j : Int} (hc : CPow i j) (h : K (.int (i ^ j.toNat)) L) : Op2 M G L (binaryOp .Pow) (.int i) (.int j) K := op2_of (d := .non) _ _ (fun _ => op_pow) (fun H Q q => ⟨i, j, rfl, rfl, hc, q⟩) h
theorem op_addS {i j : Str} (hc : i.length + j.length ≤ sizeLine) (h : K (.str (i ++ j)) L) : Op2 M G L (binaryOp .Add) (.str i) (.str j) K := op2_of (d := .non) _ _ (fun _ => op_add_str) (fun H Q q => ⟨i, j, rfl, rfl, hc, q⟩) h
theorem op_ltI {i j : Int} (h : K (.bl (decide (i < j))) L) : Op2 M G L (compareOp .Lt) (.int i) (.int j) K := op2_of (d := .non) _ _ (fun _ => op_lt) (fun H Q q => ⟨i, j, rfl, rfl, q⟩) h
theorem op_leI {i j : Int} (h : K (.bl (decide (i ≤ j))) L) : Op2 M G L (compareOp .LtE) (.int i) (.int j) K := op2_of (d := .non) _ _ (fun _ => op_le) (fun H Q q => ⟨i, j, rfl, rfl, q⟩) h
theorem op_gtI {i j : Int} (h : K (.bl (decide (j < i))) L) : Op2 M G L (compareOp .Gt) (.int i) (.int j) K := op2_of (d := .non) _ _ (fun _ => op_gt) (fun H Q q => ⟨i, j, rfl, rfl, q⟩) h
theorem op_geI {i j : Int} (h : K (.bl (decide (j ≤ i))) L) : Op2 M G L (compareOp .GtE) (.int i) (.int j) K := op2_of (d := .non) _ _ (fun _ => op_ge) (fun H Q q => ⟨i, j, rfl, rfl, q⟩) h
theorem op_ltS {i j : Str} (h : K (.bl (decide (i.cps.toList < j.cps.toList))) L) : Op2 M G L (compareOp .Lt) (.str i) (.str j) K := op2_of (d := .non) _ _ (fun _ => op_lt_str) (fun H Q q => ⟨i, j, rfl, rfl, q⟩) h
theorem op_eqV {x y : V} (hs : scal x y = true) (h : K (.bl (decide (x = y))) L) : Op2 M G L (compareOp .Eq) (.v x) (.v y) K := op2_of (d := .non) _ _ (fun _ => op_eq) (fun H Q q => ⟨hs, q⟩) h
theorem op_neV {x y : V} (hs : scal x y = true) (h : K (.bl (!decide (x = y))) L) : Op2 M G L (compareOp .NotEq) (.v x) (.v y) K := op2_of (d := .non) _ _ (fun _ => op_ne) (fun H Q q => ⟨hs, q⟩) h
theorem op_eqI {i j : Int} (h : K (.bl (decide (i = j))) L) : Op2 M G L (compareOp .Eq) (.int i) (.int j) K := op_eqV rfl (by
  have e : decide (V.int i = V.int j) = decide (i = j) := by simp
  rw [e]; exact h)
theorem op_neI {i j : Int} (h : K (.bl (!decide (i = j))) L) : Op2 M G L (compareOp .NotEq) (.int i) (.int j) K := op_neV rfl (by
  have e : decide (V.int i = V.int j) = decide (i = j) := by simp
  rw [e]; exact h)
theorem op_eqS {i j : Str} (h : K (.bl (decide (i = j))) L) : Op2 M G L (compareOp .Eq) (.str i) (.str j) K := op_eqV rfl (by
  have e : decide (V.str i = V.str j) = decide (i = j) := by simp
  rw [e]; exact h)
theorem op_neS {i j : Str} (h : K (.bl (!decide (i = j))) L) : Op2 M G L (compareOp .NotEq) (.str i) (.str j) K := op_neV rfl (by
  have e : decide (V.str i = V.str j) = decide (i = j) := by simp
  rw [e]; exact h)
theorem op_eqB {i j : Bool} (h : K (.bl (decide (i = j))) L) : Op2 M G L (compareOp .Eq) (.bl i) (.bl j) K := op_eqV rfl (by
  have e : decide (V.bl i = V.bl j) = decide (i = j) := by simp
  rw [e]; exact h)
theorem op_neB {i j : Bool} (h : K (.bl (!decide (i = j))) L) : Op2 M G L (compareOp .NotEq) (.bl i) (.bl j) K := op_neV rfl (by
  have e : decide (V.bl i = V.bl j) = decide (i = j) := by simp
  rw [e]; exact h)
/-- is None of anything -/
def isN : D → Bool
  | .v .non => true
  | _ => false
theorem rep_isN {Kk : PySem.W.Frag} {F : Hp} {x : D} {v : V} (r : Rep Kk F x v) : decide (v = .non) = isN x := by
  cases r with
  | v => cases v <;> rfl
  | tup _ _ => rfl
  | ctup _ _ => rfl
  | lst _ _ => rfl
  | sq _ _ => rfl
  | dK _ _ => rfl
  | dT _ _ => rfl
  | ob _ _ => rfl
theorem op_isN {x : D} (h : K (.bl (isN x)) L) : Op2 M G L (compareOp .Is) x .non K := by
  intro X S F σ H v u a rx ry Q q
  cases ry
  refine ⟨_, L2.op_isN, rfl, ?_⟩
  rw [rep_isN rx]
  exact q _ L _ F H h a (.v _) (Same.refl _)
theorem op_notN {x : D} (h : K (.bl (!isN x)) L) : Op2 M G L (compareOp .IsNot) x .non K := by
  intro X S F σ H v u a rx ry Q q
  cases ry
  refine ⟨_, L2.op_notN, rfl, ?_⟩
  rw [rep_isN rx]
  exact q _ L _ F H h a (.v _) (Same.refl _)
/-- in, over lists and tuples of flat things -/
def flatD : D → Bool
  | .v x => flatV x
  | _ => false
def inD (x : V) (ds : List D) : Bool := ds.any fun d => match d with
  | .v y => eqV y x
  | _ => false
theorem flat_reps {Kk : PySem.W.Frag} {F : Hp} {x : V} : ∀ {ds : List D} {vs : List V}, RepA Kk F ds vs → ds.all flatD = true → vs.all flatV = true ∧ inV x vs = inD x ds
  | _, _, .nil, _ => ⟨rfl, rfl⟩
  | d :: ds, v :: vs, .cons r t, h => by
    rw [List.all_cons, Bool.and_eq_true] at h
    obtain ⟨h1, h2⟩ := flat_reps (x := x) t h.2
    cases r with
    | v y =>
      refine ⟨by rw [List.all_cons, h1, Bool.and_true]; exact h.1, ?_⟩
      unfold inV inD at h2 ⊢
      rw [List.any_cons, List.any_cons, h2]
    | tup _ _ => exact absurd h.1 (fun z => nomatch z)
    | ctup _ _ => exact absurd h.1 (fun z => nomatch z)
    | lst _ _ => exact absurd h.1 (fun z => nomatch z)
    | sq _ _ => exact absurd h.1 (fun z => nomatch z)
    | dK _ _ => exact absurd h.1 (fun z => nomatch z)
    | dT _ _ => exact absurd h.1 (fun z => nomatch z)
    | ob _ _ => exact absurd h.1 (fun z => nomatch z)
inductive IsSq (L : Led) : D → List D → Prop
  | tup {ds : List D} : IsSq L (.tup ds) ds
  | ctup {ds : List D} : IsSq L (.ctup ds) ds
  | lst {x : D} {ds : List D} : IsL L x ds → IsSq L x ds
theorem IsSq.get {Kk : PySem.W.Frag} {H0 F0 F H : Hp} {σ : St} {x : D} {v : V} {ds : List D} (h : IsSq L x ds) (a : At Kk H0 F0 G L F σ H) (r : Rep Kk F x v) : ∃ p vs, v = .ref p ∧ (SqL Kk H p vs ∨ SqT Kk H p vs) ∧ RepA Kk F ds vs := by
  cases h with
  | tup =>
    obtain ⟨p, vs, e, h1, h2⟩ := tup_get a r
    exact ⟨p, vs, e, .inr h1, h2⟩
  | ctup =>
    obtain ⟨p, vs, e, h1, h2⟩ := tup_of a rfl r
    exact ⟨p, vs, e, .inr h1, h2⟩
  | lst h =>
    obtain ⟨p, vs, e, h1, h2⟩ := h.get a r
    exact ⟨p, vs, e, .inl (SqL.of h1), h2⟩
theorem op_inQ {x : V} {y : D} {ds : List D} (hy : IsSq L y ds) (hx : flatV x = true) (hd : ds.all flatD = true) (h : K (.bl (inD x ds)) L) : Op2 M G L (compareOp .In) (.v x) y K := by
  intro X S F σ H v u a rx ry Q q
  cases rx
  obtain ⟨p, vs, rfl, h1, h2⟩ := hy.get a ry
  obtain ⟨h3, h4⟩ := flat_reps (x := x) h2 hd
  refine ⟨_, op_in_seq, p, vs, rfl, by rw [← S.ok.eK]; exact h1, hx, h3, ?_⟩
  show Q (.bl (if false = true then _ else inV x vs)) H
  rw [if_neg Bool.false_ne_true, h4]
  exact q _ L _ F H h a (.v _) (Same.refl _)
theorem op_niQ {x : V} {y : D} {ds : List D} (hy : IsSq L y ds) (hx : flatV x = true) (hd : ds.all flatD = true) (h : K (.bl (!inD x ds)) L) : Op2 M G L (compareOp .NotIn) (.v x) y K := by
  intro X S F σ H v u a rx ry Q q
  cases rx
  obtain ⟨p, vs, rfl, h1, h2⟩ := hy.get a ry
  obtain ⟨h3, h4⟩ := flat_reps (x := x) h2 hd
  refine ⟨_, op_notIn_seq, p, vs, rfl, by rw [← S.ok.eK]; exact h1, hx, h3, ?_⟩
  show Q (.bl (if true = true then !inV x vs else _)) H
  rw [if_pos rfl, h4]
  exact q _ L _ F H h a (.v _) (Same.refl _)
/-- one sign in a text -/
theorem op_inC {c : Nat} {z : Str} (h : K (.bl (decide (c ∈ z.cps.toList))) L) : Op2 M G L (compareOp .In) (.str ⟨#[c]⟩) (.str z) K := op2_of (d := .non) _ _ (fun _ => op_in_sign) (fun H Q q => ⟨c, z, rfl, rfl, q⟩) h
/-- dicts -/
theorem din_R {X : Cx} (hu : X.A.units + 1 < cLine) : OpR X (compareOp .In) (fun y x H Q => ∃ a o, x = .ref a ∧ DGet H a y o ∧ Q (.bl o.isSome) H) := by
  intro pins s σ H x y v u Q I rx ry h
  obtain ⟨a, o, rfl, g, q⟩ := h
  cases ry
  exact d_in hu I g rx fun s' I' => ⟨.bl _, H, I', rfl, q⟩
theorem dni_R {X : Cx} (hu : X.A.units + 1 < cLine) : OpR X (compareOp .NotIn) (fun y x H Q => ∃ a o, x = .ref a ∧ DGet H a y o ∧ Q (.bl (!o.isSome)) H) := by
  intro pins s σ H x y v u Q I rx ry h
  obtain ⟨a, o, rfl, g, q⟩ := h
  cases ry
  exact d_notIn hu I g rx fun s' I' => ⟨.bl _, H, I', rfl, q⟩
theorem sit_hu {X : Cx} (S : Sit M X) (hc : M.C.cm = true) : X.A.units + 1 < cLine := Nat.lt_of_le_of_lt (Nat.add_le_add_left (by decide : 1 ≤ 64) _) (S.ok.room hc).units
theorem op_inK (hc : M.C.cm = true) {y : D} {kvs : List (Key × D)} {k : Key} (hy : IsK L y kvs) (h : K (.bl (valD kvs k).isSome) L) : Op2 M G L (compareOp .In) (.v (kV k)) y K := by
  intro X S F σ H v u a rx ry Q q
  cases rx
  obtain ⟨p, ws, rfl, h1, h2⟩ := hy.get a ry
  refine ⟨_, din_R (sit_hu S hc), p, valV ws k, rfl, .inl ⟨ws, k, h1, rfl, rfl⟩, ?_⟩
  rw [h2.isSome]
  exact q _ L _ F H h a (.v _) (Same.refl _)
theorem op_niK (hc : M.C.cm = true) {y : D} {kvs : List (Key × D)} {k : Key} (hy : IsK L y kvs) (h : K (.bl (!(valD kvs k).isSome)) L) : Op2 M G L (compareOp .NotIn) (.v (kV k)) y K := by
  intro X S F σ H v u a rx ry Q q
  cases rx
  obtain ⟨p, ws, rfl, h1, h2⟩ := hy.get a ry
  refine ⟨_, dni_R (sit_hu S hc), p, valV ws k, rfl, .inl ⟨ws, k, h1, rfl, rfl⟩, ?_⟩
  rw [h2.isSome]
  exact q _ L _ F H h a (.v _) (Same.refl _)
/-- xs + ys -/
theorem op_catL {x y : D} {ds es : List D} (hx : IsL L x ds) (hy : IsL L y es) (hl : ds.length + es.length ≤ sizeLine) (h : ∀ p, K (.ref p) ((p, .lst (ds ++ es)) :: L)) : Op2 M G L (binaryOp .Add) x y K := by
  intro X S F σ H v u a rx ry Q q
  obtain ⟨p1, vs, rfl, h1, h2⟩ := hx.get a rx
  obtain ⟨p2, ws, rfl, h3, h4⟩ := hy.get a ry
  refine ⟨_, op_cat, p1, p2, vs, ws, rfl, rfl, h1, h3, by rw [← h2.length, ← h4.length]; exact hl, fun p hp => ?_⟩
  exact q _ _ _ F _ (h p) (a.new hp (.lst upd_same (h2.append h4))) (.v _) (Same.refl _)

/-! ### subscripts, slices -/
theorem ix_L {x : D} {ds : List D} {i : Int} {d : D} (hx : IsL L x ds) (hi : atI ds i = some d) (h : K d L) : IxV M G L x (.int i) K := by
  intro X S F σ H v u a rx ry Q q
  cases ry
  obtain ⟨p, vs, rfl, h1, h2⟩ := hx.get a rx
  unfold atI at hi
  rw [h2.length] at hi
  obtain ⟨j, e1, e2⟩ := Option.bind_eq_some_iff.mp hi
  obtain ⟨w, e3, rw'⟩ := h2.get e2
  refine ⟨_, ix_list, p, vs, i, w, rfl, rfl, SqL.of h1, ?_, q _ L _ F H h a rw' (Same.refl _)⟩
  unfold atI
  rw [e1]
  exact e3
theorem ix_T {ds : List D} {i : Int} {d : D} (hi : atI ds i = some d) (h : K d L) : IxV M G L (.tup ds) (.int i) K := by
  intro X S F σ H v u a rx ry Q q
  cases ry
  obtain ⟨p, vs, rfl, h1, h2⟩ := tup_get a rx
  unfold atI at hi
  rw [h2.length] at hi
  obtain ⟨j, e1, e2⟩ := Option.bind_eq_some_iff.mp hi
  obtain ⟨w, e3, rw'⟩ := h2.get e2
  refine ⟨_, ix_tup, p, vs, i, w, rfl, rfl, by rw [← S.ok.eK]; exact h1, ?_, q _ L _ F H h a rw' (Same.refl _)⟩
  unfold atI
  rw [e1]
  exact e3
theorem ix_S {z : Str} {i : Int} {c : Nat} (hz : z.length ≤ sizeLine) (hi : atI z.cps.toList i = some c) (h : K (.str ⟨#[c]⟩) L) : IxV M G L (.str z) (.int i) K := by
  intro X S F σ H v u a rx ry Q q
  cases ry; cases rx
  exact ⟨_, ix_str, z, i, c, rfl, rfl, hz, hi, q _ L _ F H h a (.v _) (Same.refl _)⟩
theorem ev_ix {a b : Expr} {pos : Pos} (h : Ev M G L a fun x L1 => Ev M G L1 b fun y L2 => IxV M G L2 x y K) (hs : PlainIx b := by exact fun _ _ => rfl) : Ev M G L (.Subscript a b pos) K := by
  intro X S F σ H A Q q
  refine ⟨tOp (GIx X) (GE X a) (GE X b), pe_ix bix be be hs, ?_⟩
  refine h X S F σ H A _ fun x L1 v F1 H1 k1 A1 r1 s1 => ?_
  refine k1 X S F1 σ H1 A1 _ fun y L2 u F2 H2 k2 A2 r2 s2 => ?_
  exact k2 X S F2 σ H2 v u A2 (r1.mono s2) r2 Q fun d L3 w F3 H3 k3 A3 r3 s3 => q d L3 w F3 H3 k3 A3 r3 ((s1.trans s2).trans s3)
/-- d[k], a dict -/
theorem ev_dix (hc : M.C.cm = true) {a b : Expr} {pos : Pos} (h : Ev M G L a fun x L1 => Ev M G L1 b fun y L2 => ∃ kvs k d, IsK L2 x kvs ∧ y = .v (kV k) ∧ valD kvs k = some d ∧ K d L2) (hs : NoSl b := by exact fun _ _ => rfl) : Ev M G L (.Subscript a b pos) K := by
  intro X S F σ H A Q q
  refine ⟨_, pe_dget (sit_hu S hc) be be hs, ?_⟩
  refine h X S F σ H A _ fun x L1 v F1 H1 k1 A1 r1 s1 => ?_
  refine k1 X S F1 σ H1 A1 _ fun y L2 u F2 H2 k2 A2 r2 s2 => ?_
  obtain ⟨kvs, k, d, hx, rfl, hv, hk⟩ := k2
  cases r2
  obtain ⟨p, ws, rfl, h1, h2⟩ := hx.get A2 (r1.mono s2)
  obtain ⟨w, e, rw'⟩ := (h2.val k).1 d hv
  exact ⟨p, w, rfl, .inl ⟨ws, k, h1, rfl, e.symm⟩, q d L2 w F2 H2 hk A2 rw' (s1.trans s2)⟩
/-- parts of a slice: written, or left out -/
def EvP (M : Mode) (G : List (Option D)) (L : Led) (e : Option Expr) (K : Option Int → Led → Prop) : Prop := match e with
  | none => K none L
  | some e => Ev M G L e fun d L1 => ∃ i, d = .int i ∧ K (some i) L1
theorem EvP.go {e : Option Expr} {KI : Option Int → Led → Prop} (h : EvP M G L e KI) : ∀ X, Sit M X → ∃ t, PO X e t ∧ ∀ F σ H, M.at G L F σ H → ∀ Q : Option Int → Hp → Prop, (∀ o L' F' H', KI o L' → M.at G L' F' σ H' → Same F F' → Q o H') → t σ H Q := by
  intro X S
  cases e with
  | none => exact ⟨_, po_none, fun F σ H A Q q => q none L F H h A (Same.refl _)⟩
  | some e =>
    refine ⟨_, po_some be, fun F σ H A Q q => ?_⟩
    refine h X S F σ H A _ fun d L1 v F1 H1 k1 A1 r1 s1 => ?_
    obtain ⟨i, rfl, hk⟩ := k1
    cases r1
    exact ⟨i, rfl, q _ L1 F1 H1 hk A1 s1⟩
end
end TL

namespace TL
open PySem L2

/-! ### statements -/
structure TD where
  nx : List (Option D) → Led → Prop
  rt : D → Led → Prop
  bk : List (Option D) → Led → Prop := fun _ _ => False
  ct : List (Option D) → Led → Prop := fun _ _ => False
structure EndsOk (M : Mode) (D : TD) (E : Ends) : Prop where
  nx : ∀ G L F σ H, D.nx G L → M.at G L F σ H → E.nx σ H
  rt : ∀ d G L v F σ H, D.rt d L → M.at G L F σ H → Rep M.C.K F d v → E.rt v H
  bk : ∀ G L F σ H, D.bk G L → M.at G L F σ H → E.bk σ H
  ct : ∀ G L F σ H, D.ct G L → M.at G L F σ H → E.ct σ H
def Run (M : Mode) (G : List (Option D)) (L : Led) (ss : List Stmt) (D : TD) : Prop := ∀ X, Sit M X → ∀ F σ H, M.at G L F σ H → ∀ E, EndsOk M D E → GSs X ss E σ H
def Tgt (M : Mode) (G : List (Option D)) (L : Led) (tg : Expr) (d : D) (K : List (Option D) → Led → Prop) : Prop :=
  ∀ X, Sit M X → ∀ F σ H v, M.at G L F σ H → Rep M.C.K F d v → ∀ Q : St → Hp → Prop, (∀ G' L' F' σ' H', K G' L' → M.at G' L' F' σ' H' → Same F F' → Q σ' H') → GG X tg v σ H Q

section
variable {M : Mode} {G : List (Option D)} {L : Led} {pos : Pos} {rest : List Stmt} {E : TD}
theorem gss_cons {X : Cx} {st : Stmt} {rest : List Stmt} {D : Ends} {σ : St} {H : Hp} (h : GS X st { D with nx := fun σ' H' => GSs X rest D σ' H' } σ H) : GSs X (st :: rest) D σ H := ⟨_, pss_cons bs bss, h⟩
theorem run_nil (h : E.nx G L) : Run M G L [] E := fun X S F σ H A D o => ⟨_, pss_nil, o.nx G L F σ H h A⟩
/-- one statement, for what stands behind it -/
theorem EndsOk.seq {D : Ends} {X : Cx} (o : EndsOk M E D) (S : Sit M X) {rest : List Stmt} : EndsOk M { E with nx := fun G' L' => Run M G' L' rest E } { D with nx := fun σ' H' => GSs X rest D σ' H' } :=
  ⟨fun G L F σ H h A => h X S F σ H A D o, o.rt, o.bk, o.ct⟩
theorem run_pass (h : Run M G L rest E) : Run M G L (.Pass pos :: rest) E := fun X S F σ H A D o => gss_cons ⟨_, ps_pass, h X S F σ H A D o⟩
theorem run_break (h : E.bk G L) : Run M G L (.Break pos :: rest) E := fun X S F σ H A D o => gss_cons ⟨_, ps_break, o.bk G L F σ H h A⟩
theorem run_cont (h : E.ct G L) : Run M G L (.Continue pos :: rest) E := fun X S F σ H A D o => gss_cons ⟨_, ps_continue, o.ct G L F σ H h A⟩
theorem run_ret {e : Expr} (h : Ev M G L e fun d L1 => E.rt d L1) : Run M G L (.Return (some e) pos :: rest) E := by
  intro X S F σ H A D o
  refine gss_cons ⟨_, ps_ret be, ?_⟩
  exact h X S F σ H A _ fun d L1 v F1 H1 k1 A1 r1 s1 => o.rt d G L1 v F1 σ H1 k1 A1 r1
theorem run_retN (h : E.rt .non L) : Run M G L (.Return none pos :: rest) E := by
  intro X S F σ H A D o
  refine gss_cons ⟨_, ps_retN, ?_⟩
  exact o.rt _ G L _ F σ H h A (.v _)
theorem run_expr {e : Expr} (h : Ev M G L e fun _ L1 => Run M G L1 rest E) (hs : ∀ X : Cx, swapsWith e none pos.line X.env = pure false := by intro _; rfl) : Run M G L (.Expr e pos :: rest) E := by
  intro X S F σ H A D o
  refine gss_cons ⟨_, ps_expr be (hs X), ?_⟩
  exact h X S F σ H A _ fun d L1 v F1 H1 k1 A1 r1 s1 => k1 X S F1 σ H1 A1 D o
theorem run_if {c : Expr} {a b : List Stmt} (h : Tst M G L c fun k L1 => (k = true → Run M G L1 a { E with nx := fun G' L' => Run M G' L' rest E }) ∧ (k = false → Run M G L1 b { E with nx := fun G' L' => Run M G' L' rest E })) :
    Run M G L (.If c a b pos :: rest) E := by
  intro X S F σ H A D o
  refine gss_cons ⟨_, ps_if bt bss bss, ?_⟩
  refine h X S F σ H A _ fun k L1 F1 H1 k1 A1 s1 => ?_
  cases k with
  | true =>
    rw [if_pos rfl]
    exact k1.1 rfl X S F1 σ H1 A1 _ (o.seq S)
  | false =>
    rw [if_neg Bool.false_ne_true]
    exact k1.2 rfl X S F1 σ H1 A1 _ (o.seq S)
def Loc' (M : Mode) (x : Str) : Prop := M.C.sc.names.lookup x = some .local ∨ (M.C.sc.names.lookup x = some .cell ∧ M.C.df x = true)
theorem Loc'.loc {x : Str} (h : Loc' M x) {X : Cx} (S : Sit M X) : Loc X.env.scope x ∧ (X.fn x = true ∨ X.env.scope.names.lookup x = some .local) := by
  rw [← S.ok.es]
  rcases h with h | ⟨h, e⟩
  · exact ⟨.inl h, .inr h⟩
  · exact ⟨.inr h, .inl (S.ok.fn x e)⟩
theorem run_set {x : Str} {p : Pos} {e : Expr} (hx : Loc' M x) (hn : x ∈ M.C.N) (h : Ev M G L e fun d L1 => ∃ G', Put M.C.N G x (some d) G' ∧ Run M G' L1 rest E) (hs : ∀ X : Cx, swapsWith e (some (.Name x p)) pos.line X.env = pure false := by intro _; rfl) :
    Run M G L (.Assign [.Name x p] e pos :: rest) E := by
  intro X S F σ H A D o
  obtain ⟨hl, hf⟩ := hx.loc S
  obtain ⟨i, hi⟩ := List.getElem?_of_mem hn
  have nd : X.N.Nodup := by rw [← S.ok.eN]; exact S.ok.nd
  rw [S.ok.eN] at hi
  refine gss_cons ⟨_, ps_set (i := i) nd hi hl be (hs X) hf, ?_⟩
  refine h X S F σ H A _ fun d L1 v F1 H1 k1 A1 r1 s1 => ?_
  obtain ⟨G', hp, hr⟩ := k1
  obtain ⟨j, hj, rfl⟩ := hp.ix
  rw [S.ok.eN] at hj
  have e : j = i := nodup_ix nd hj hi
  subst e
  exact hr X S F1 _ H1 (A1.set r1) D o
/-- any target but a plain name -/
theorem run_asg {tg e : Expr} (h : Ev M G L e fun d L1 => Tgt M G L1 tg d fun G2 L2 => Run M G2 L2 rest E)
    (hs : ∀ X : Cx, swapsWithSole [tg] e pos.line X.env = pure false := by intro _; rfl) (hw : ∀ X : Cx, swappedStores [tg] e X.env = pure none := by intro _; rfl)
    (h1 : ∀ X : Cx, (assignEach [tg] X.env).map (·.2) = [assign tg X.env] := by intro _; rfl) : Run M G L (.Assign [tg] e pos :: rest) E := by
  intro X S F σ H A D o
  refine gss_cons ⟨_, ps_asg be bg (hs X) (hw X) (h1 X), ?_⟩
  refine h X S F σ H A _ fun d L1 v F1 H1 k1 A1 r1 s1 => ?_
  exact k1 X S F1 σ H1 v A1 r1 _ fun G2 L2 F2 σ2 H2 k2 A2 _ => k2 X S F2 σ2 H2 A2 D o
/-- name op= e -/
theorem run_aug {x : Str} {p : Pos} {op : Operator} {e : Expr} {d0 : D} (hx : Loc' M x) (hl : Look M.C.N G x (some d0)) (h : Ev M G L e fun d L1 => Ip2 M G L1 op d0 d fun z L2 => ∃ G', Put M.C.N G x (some z) G' ∧ Run M G' L2 rest E) :
    Run M G L (.AugAssign (.Name x p) op e pos :: rest) E := by
  intro X S F σ H A D o
  obtain ⟨hlc, hf⟩ := hx.loc S
  have nd : X.N.Nodup := by rw [← S.ok.eN]; exact S.ok.nd
  obtain ⟨i, hi, hg⟩ := hl.ix
  rw [S.ok.eN] at hi
  obtain ⟨v0, hv0, r0⟩ := A.env.get hg
  refine gss_cons ⟨_, ps_aug (i := i) nd hi hlc be bip hf, v0, hv0, ?_⟩
  refine h X S F σ H A _ fun d L1 v F1 H1 k1 A1 r1 s1 => ?_
  refine k1 X S F1 σ H1 v0 v A1 (r0.mono s1) r1 _ fun z L2 u F2 H2 k2 A2 r2 s2 => ?_
  obtain ⟨G', hp, hr⟩ := k2
  obtain ⟨j, hj, rfl⟩ := hp.ix
  rw [S.ok.eN] at hj
  have e : j = i := nodup_ix nd hj hi
  subst e
  exact hr X S F2 _ H2 (A2.set r2) D o
theorem ip_addI {i j : Int} {K : D → Led → Prop} (h : K (.int (i + j)) L) : Ip2 M G L .Add (.int i) (.int j) K := by
  intro X S F σ H v u A r1 r2 Q q
  cases r1; cases r2
  exact ⟨_, ip_add, i, j, rfl, rfl, q _ L _ F H h A (.v _) (Same.refl _)⟩
theorem ip_subI {i j : Int} {K : D → Led → Prop} (h : K (.int (i - j)) L) : Ip2 M G L .Sub (.int i) (.int j) K := by
  intro X S F σ H v u A r1 r2 Q q
  cases r1; cases r2
  exact ⟨_, ip_sub, i, j, rfl, rfl, q _ L _ F H h A (.v _) (Same.refl _)⟩

/-! ### targets -/
theorem tgt_name {x : Str} {p : Pos} {d : D} {K : List (Option D) → Led → Prop} {G' : List (Option D)} (hx : Loc' M x) (hp : Put M.C.N G x (some d) G') (h : K G' L) : Tgt M G L (.Name x p) d K := by
  intro X S F σ H v A r Q q
  obtain ⟨hlc, hf⟩ := hx.loc S
  obtain ⟨i, hi, rfl⟩ := hp.ix
  rw [S.ok.eN] at hi
  exact ⟨_, pg_name (i := i) (by rw [← S.ok.eN]; exact S.ok.nd) hi hlc hf, q _ L F _ H h (A.set r) (Same.refl _)⟩
/-- targets, one after another -/
def Tgts (M : Mode) (G : List (Option D)) (L : Led) : List Expr → List D → (List (Option D) → Led → Prop) → Prop
  | [], ds, K => ds = [] ∧ K G L
  | tg :: tgs, ds, K => ∃ d r, ds = d :: r ∧ Tgt M G L tg d fun G1 L1 => Tgts M G1 L1 tgs r K
def GGs (X : Cx) (ts : List Expr) (vs : List V) (σ : St) (H : Hp) (Q : St → Hp → Prop) : Prop := ∃ t, PGs X ts t ∧ t vs σ H Q
theorem bgs {X : Cx} {ts : List Expr} : PGs X ts (GGs X ts) := ⟨fun pins s σ H vs us Q I r ⟨_, h, q⟩ => h.run pins s σ H vs us Q I r q⟩
theorem Tgts.go : ∀ {ts : List Expr} {M : Mode} {G : List (Option D)} {L : Led} {ds : List D} {K : List (Option D) → Led → Prop}, Tgts M G L ts ds K →
    (hs : ∀ (X : Cx) (e : Expr) (es : List Expr), (e :: es) <:+ ts → (assignEach (e :: es) X.env).map (·.2) = assign e X.env :: (assignEach es X.env).map (·.2)) →
    ∀ X, Sit M X → ∀ F σ H vs, M.at G L F σ H → RepA M.C.K F ds vs → ∀ Q : St → Hp → Prop, (∀ G' L' F' σ' H', K G' L' → M.at G' L' F' σ' H' → Same F F' → Q σ' H') → GGs X ts vs σ H Q
  | [], M, G, L, ds, K, h, hs, X, S, F, σ, H, vs, A, r, Q, q => by
    obtain ⟨rfl, h⟩ := h
    cases r
    exact ⟨_, pgs_nil, rfl, q G L F σ H h A (Same.refl _)⟩
  | t :: ts, M, G, L, ds, K, h, hs, X, S, F, σ, H, vs, A, r, Q, q => by
    obtain ⟨d, rs, rfl, h⟩ := h
    cases r with
    | cons r1 r2 =>
      refine ⟨_, pgs_cons bg bgs (hs X t ts (List.suffix_refl _)), _, _, rfl, ?_⟩
      refine h X S F σ H _ A r1 _ fun G1 L1 F1 σ1 H1 k1 A1 s1 => ?_
      exact Tgts.go k1 (fun X e es hm => hs X e es (hm.trans (List.suffix_cons _ _))) X S F1 σ1 H1 _ A1 (r2.mono s1) Q fun G' L' F' σ' H' kk AA ss => q G' L' F' σ' H' kk AA (s1.trans ss)
theorem tgt_tup (hc : M.C.cm = true) {es : List Expr} {k : Nat} {ds : List D} {K : List (Option D) → Led → Prop} (h : Tgts M G L es ds K) (hl : ds.length = es.length)
    (hn : ∀ X : Cx, (assignEach es X.env).length = es.length := by intro _; rfl) (hst : ∀ X : Cx, (assignEach es X.env).findIdx? (·.1) = none := by intro _; rfl)
    (hs : ∀ (X : Cx) (e : Expr) (fs : List Expr), (e :: fs) <:+ es → (assignEach (e :: fs) X.env).map (·.2) = assign e X.env :: (assignEach fs X.env).map (·.2)) : Tgt M G L (.Tuple es k pos) (.tup ds) K := by
  intro X S F σ H v A r Q q
  obtain ⟨p, vs, rfl, h1, h2⟩ := tup_get A r
  refine ⟨_, pg_tup (n := es.length) (S.ok.calm hc) bgs (hn X) (hst X), p, vs, rfl, by rw [← S.ok.eK]; exact h1, by rw [← h2.length]; exact hl, ?_⟩
  exact h.go hs X S F σ H vs A h2 Q q
theorem two_sfx {a b e : Expr} {fs : List Expr} (h : (e :: fs) <:+ [a, b]) : (e = a ∧ fs = [b]) ∨ (e = b ∧ fs = []) := by
  obtain ⟨t, ht⟩ := h
  match t, ht with
  | [], ht => cases ht; exact .inl ⟨rfl, rfl⟩
  | [_], ht => cases ht; exact .inr ⟨rfl, rfl⟩
  | [_, _], ht => cases ht
  | _ :: _ :: _ :: _, ht => cases ht
theorem three_sfx {a b c e : Expr} {fs : List Expr} (h : (e :: fs) <:+ [a, b, c]) : (e = a ∧ fs = [b, c]) ∨ (e = b ∧ fs = [c]) ∨ (e = c ∧ fs = []) := by
  obtain ⟨t, ht⟩ := h
  match t, ht with
  | [], ht => cases ht; exact .inl ⟨rfl, rfl⟩
  | [_], ht => cases ht; exact .inr (.inl ⟨rfl, rfl⟩)
  | [_, _], ht => cases ht; exact .inr (.inr ⟨rfl, rfl⟩)
  | [_, _, _], ht => cases ht
  | _ :: _ :: _ :: _ :: _, ht => cases ht
/-- a, b = a pair -/
theorem tgt_two (hc : M.C.cm = true) {a b : Expr} {k : Nat} {d e : D} {K : List (Option D) → Led → Prop} (h : Tgt M G L a d fun G1 L1 => Tgt M G1 L1 b e K)
    (hn : ∀ X : Cx, (assignEach [a, b] X.env).length = 2 := by intro _; rfl) (hst : ∀ X : Cx, (assignEach [a, b] X.env).findIdx? (·.1) = none := by intro _; rfl)
    (h1 : ∀ X : Cx, (assignEach [a, b] X.env).map (·.2) = assign a X.env :: (assignEach [b] X.env).map (·.2) := by intro _; rfl) (h2 : ∀ X : Cx, (assignEach [b] X.env).map (·.2) = assign b X.env :: (assignEach [] X.env).map (·.2) := by intro _; rfl) :
    Tgt M G L (.Tuple [a, b] k pos) (.tup [d, e]) K :=
  tgt_tup hc (es := [a, b]) ⟨d, [e], rfl, fun X S F σ H v A r Q q => h X S F σ H v A r Q fun G1 L1 F1 σ1 H1 k1 A1 s1 => q G1 L1 F1 σ1 H1 ⟨e, [], rfl, fun X S F σ H v A r Q q => k1 X S F σ H v A r Q fun G2 L2 F2 σ2 H2 k2 A2 s2 => q G2 L2 F2 σ2 H2 ⟨rfl, k2⟩ A2 s2⟩ A1 s1⟩ rfl hn hst
    fun X e fs hm => by
      rcases two_sfx hm with ⟨rfl, rfl⟩ | ⟨rfl, rfl⟩
      · exact h1 X
      · exact h2 X
theorem tgt_three (hc : M.C.cm = true) {a b c : Expr} {k : Nat} {d e f : D} {K : List (Option D) → Led → Prop} (h : Tgt M G L a d fun G1 L1 => Tgt M G1 L1 b e fun G2 L2 => Tgt M G2 L2 c f K)
    (hn : ∀ X : Cx, (assignEach [a, b, c] X.env).length = 3 := by intro _; rfl) (hst : ∀ X : Cx, (assignEach [a, b, c] X.env).findIdx? (·.1) = none := by intro _; rfl)
    (h1 : ∀ X : Cx, (assignEach [a, b, c] X.env).map (·.2) = assign a X.env :: (assignEach [b, c] X.env).map (·.2) := by intro _; rfl) (h2 : ∀ X : Cx, (assignEach [b, c] X.env).map (·.2) = assign b X.env :: (assignEach [c] X.env).map (·.2) := by intro _; rfl)
    (h3 : ∀ X : Cx, (assignEach [c] X.env).map (·.2) = assign c X.env :: (assignEach [] X.env).map (·.2) := by intro _; rfl) :
    Tgt M G L (.Tuple [a, b, c] k pos) (.tup [d, e, f]) K :=
  tgt_tup hc (es := [a, b, c]) ⟨d, [e, f], rfl, fun X S F σ H v A r Q q => h X S F σ H v A r Q fun G1 L1 F1 σ1 H1 k1 A1 s1 => q G1 L1 F1 σ1 H1 ⟨e, [f], rfl, fun X S F σ H v A r Q q => k1 X S F σ H v A r Q fun G2 L2 F2 σ2 H2 k2 A2 s2 => q G2 L2 F2 σ2 H2
    ⟨f, [], rfl, fun X S F σ H v A r Q q => k2 X S F σ H v A r Q fun G2 L2 F2 σ2 H2 k2 A2 s2 => q G2 L2 F2 σ2 H2 ⟨rfl, k2⟩ A2 s2⟩ A2 s2⟩ A1 s1⟩ rfl hn hst
    fun X e fs hm => by
      rcases three_sfx hm with ⟨rfl, rfl⟩ | ⟨rfl, rfl⟩ | ⟨rfl, rfl⟩
      · exact h1 X
      · exact h2 X
      · exact h3 X

/-! ### loops -/
@[reducible] def Mode.fix (M : Mode) (F : Hp) : Mode := { M with F0 := F }
theorem At.fixed {F : Hp} {σ : St} {H : Hp} (A : M.at G L F σ H) : (M.fix F).at G L F σ H := ⟨Same.refl _, A.eh, A.fh, fun _ _ _ _ h => h, A.own, A.nd, A.env⟩
theorem At.unfix {F F' : Hp} {σ σ' : St} {H H' : Hp} {G' : List (Option D)} {L' : Led} (A : M.at G L F σ H) (B : (M.fix F).at G' L' F' σ' H') : M.at G' L' F' σ' H' :=
  ⟨A.ef.trans B.ef, B.eh, B.fh, fun a o h1 ht h2 => B.nf a o h1 ht (A.nf a o h1 ht h2), B.own, B.nd, B.env⟩
theorem Sit.fix {X : Cx} (S : Sit M X) {F : Hp} {σ : St} {H : Hp} (A : M.at G L F σ H) : Sit (M.fix F) X := by
  obtain ⟨ok, W, tk, hk⟩ := S
  exact ⟨ok, W, tk, fun ex G' L' F' σ' H' v d ht B he => hk ex G' L' F' σ' H' v d ht (A.unfix B) he⟩
/-- J goes through items, as long as src is in the ledger -/
def Goes (M : Mode) (J : It) (src : Led) (items : List D) : Prop := ∀ G L F σ H, M.at G L F σ H → (∀ s ∈ src, s ∈ L) → ∀ i : Nat,
  (∀ d, items[i]? = some d → J.go i H ∧ ∀ x H', J.yld i H x H' → ∃ F', M.at G L F' σ H' ∧ Rep M.C.K F' d x) ∧ (items.length ≤ i → J.stop i H)
/-- .. from one state on -/
def EvI1 (M : Mode) (G : List (Option D)) (X : Cx) (F : Hp) (σ : St) (H : Hp) (tg iter : Expr) (K : Led → List D → Led → Prop) : Prop := ∀ R : It → Hp → Prop,
  (∀ J src items L' F' H', K src items L' → Goes (M.fix F') J src items → M.at G L' F' σ H' → Same F F' → R J H') → GI X tg iter σ H R
def EvI (M : Mode) (G : List (Option D)) (L : Led) (tg iter : Expr) (K : Led → List D → Led → Prop) : Prop := ∀ X, Sit M X → ∀ F σ H, M.at G L F σ H → EvI1 M G X F σ H tg iter K
abbrev TD.turn (T : TD) (I : List (Option D) → Led → Prop) (R : List (Option D) → Led → Prop) : TD := { nx := I, ct := I, bk := R, rt := T.rt }
/-- what a loop follows -/
def ForInv (M : Mode) (G : List (Option D)) (tg : Expr) (body : List Stmt) (E : TD) (src : Led) (items : List D) (L1 : Led) : Prop := ∃ I : Nat → List (Option D) → Led → Prop, I 0 G L1 ∧ (∀ i G' L', I i G' L' → ∀ s ∈ src, s ∈ L') ∧
      (∀ F1 i d G' L', items[i]? = some d → I i G' L' → Tgt (M.fix F1) G' L' tg d fun G2 L2 => Run (M.fix F1) G2 L2 body (E.turn (I (i + 1)) E.nx)) ∧
      ∀ G' L', I items.length G' L' → E.nx G' L'
theorem for_go {tg iter : Expr} {body : List Stmt} {X : Cx} {F : Hp} {σ : St} {H : Hp} {D : Ends} (S : Sit M X) (A : M.at G L F σ H) (h : EvI1 M G X F σ H tg iter fun src items L1 => ForInv M G tg body E src items L1) (o : EndsOk M E D) :
    tFor (GI X tg iter) (GG X tg) (GSs X body) D σ H := by
  refine h _ fun J src items L1 F1 H1 k1 g1 A1 s1 => ?_
  obtain ⟨I, i0, isrc, turn, done⟩ := k1
  have S1 := S.fix A1
  refine ⟨fun i m σ' H' => m = items.length - i ∧ i ≤ items.length ∧ ∃ G' L' F', (M.fix F1).at G' L' F' σ' H' ∧ I i G' L', ⟨items.length, by simp, Nat.zero_le _, G, L1, F1, A1.fixed, i0⟩, ?_⟩
  rintro i m σ' H' ⟨rfl, hi, G', L', F', A', iv⟩
  obtain ⟨q1, q2⟩ := g1 G' L' F' σ' H' A' (isrc i G' L' iv) i
  by_cases hlt : i < items.length
  · obtain ⟨go, yl⟩ := q1 items[i] (by simp [hlt])
    refine .inr ⟨go, fun σ2 H2 => ∃ G' L' F', (M.fix F1).at G' L' F' σ2 H2 ∧ I (i + 1) G' L', fun σ2 H2 ⟨G2, L2, F2, A2, iv2⟩ => ⟨items.length - (i + 1), by omega, rfl, hlt, G2, L2, F2, A2, iv2⟩, fun x H2 y => ?_⟩
    obtain ⟨F2, A2, r2⟩ := yl x H2 y
    refine turn F1 i _ G' L' (by simp [hlt]) iv X S1 F2 σ' H2 x A2 r2 _ fun G3 L3 F3 σ3 H3 k3 A3 _ => ?_
    refine k3 X S1 F3 σ3 H3 A3 _ ⟨fun G L F σ H h A => ⟨G, L, F, A, h⟩, fun d G L v F σ H h A r => o.rt d G L v F σ H h (A1.unfix A) r, fun G L F σ H h A => o.nx G L F σ H h (A1.unfix A), fun G L F σ H h A => ⟨G, L, F, A, h⟩⟩
  · have e : i = items.length := by omega
    subst e
    exact .inl ⟨q2 (Nat.le_refl _), o.nx G' L' F' σ' H' (done G' L' iv) (A1.unfix A')⟩
theorem run_for {tg iter : Expr} {body : List Stmt} (hlp : M.C.lp = true) (hc : M.C.cm = true) (h : EvI M G L tg iter fun src items L1 => ForInv M G tg body { E with nx := fun G' L' => Run M G' L' rest E } src items L1)
    (hs : ∀ (X : Cx) x, foldedSetIterable iter X.env x = pure x := by intro _ _; rfl) : Run M G L (.For tg iter body [] pos :: rest) E := by
  intro X S F σ H A D o
  exact gss_cons ⟨_, ps_for (S.ok.po hlp) (S.ok.calm hc) bi bg bss (hs X), for_go S A (h X S F σ H A) (o.seq S)⟩
theorem run_while {c : Expr} {body : List Stmt} (hlp : M.C.lp = true) (I : Nat → List (Option D) → Led → Prop) (m0 : Nat) (h0 : I m0 G L)
    (hs : ∀ m G' L', I m G' L' → Tst M G' L' c fun k L1 => (k = true → Run M G' L1 body (E.turn (fun G2 L2 => ∃ m', m' < m ∧ I m' G2 L2) fun G2 L2 => Run M G2 L2 rest E)) ∧ (k = false → Run M G' L1 rest E)) : Run M G L (.While c body [] pos :: rest) E := by
  intro X S F σ H A D o
  refine gss_cons ⟨_, ps_while (S.ok.po hlp) bt bss, ?_⟩
  refine ⟨fun m σ' H' => ∃ G' L' F', M.at G' L' F' σ' H' ∧ I m G' L', ⟨m0, G, L, F, A, h0⟩, ?_⟩
  rintro m σ' H' ⟨G', L', F', A', iv⟩
  refine hs m G' L' iv X S F' σ' H' A' _ fun k L1 F1 H1 k1 A1 s1 => ?_
  cases k with
  | true =>
    rw [if_pos rfl]
    refine ⟨fun σ2 H2 => ∃ m', m' < m ∧ ∃ G2 L2 F2, M.at G2 L2 F2 σ2 H2 ∧ I m' G2 L2, fun σ2 H2 h => h, ?_⟩
    exact k1.1 rfl X S F1 σ' H1 A1 _ ⟨fun G L F σ H ⟨m', hm, h⟩ A => ⟨m', hm, G, L, F, A, h⟩, o.rt, fun G L F σ H h A => h X S F σ H A D o, fun G L F σ H ⟨m', hm, h⟩ A => ⟨m', hm, G, L, F, A, h⟩⟩
  | false =>
    rw [if_neg Bool.false_ne_true]
    exact k1.2 rfl X S F1 σ' H1 A1 D o

/-! ### what is walked -/
theorem ei_tup {tg e : Expr} {K : Led → List D → Led → Prop} (h : Ev M G L e fun d L1 => ∃ ds, tupOf d = some ds ∧ K [] ds L1) : EvI M G L tg e K := by
  intro X S F σ H A R q
  refine ⟨_, pi_tup be, ?_⟩
  refine h X S F σ H A _ fun d L1 v F1 H1 k1 A1 r1 s1 => ?_
  obtain ⟨ds, hd0, hk⟩ := k1
  obtain ⟨p, vs, rfl, h1, h2⟩ := tup_of A1 hd0 r1
  refine ⟨p, rfl, ⟨vs, by rw [← S.ok.eK]; exact h1⟩, q _ [] ds L1 F1 H1 hk (fun G' L' F' σ' H' A' _ i => ⟨fun d hd => ?_, fun hi => ?_⟩) A1 s1⟩
  · obtain ⟨p', vs', e', h1', h2'⟩ := tup_of A' hd0 (r1.mono A'.ef)
    cases e'
    obtain ⟨w, hw, rw'⟩ := h2'.get hd
    have h1'' : SqT X.K H' p vs' := by rw [← S.ok.eK]; exact h1'
    refine ⟨⟨vs', w, h1'', hw⟩, fun x H2 ⟨e2, y⟩ => ?_⟩
    subst e2
    have e3 := y vs' h1''
    rw [hw] at e3
    cases e3
    exact ⟨F', A', rw'⟩
  · obtain ⟨p', vs', e', h1', h2'⟩ := tup_of A' hd0 (r1.mono A'.ef)
    cases e'
    exact ⟨vs', by rw [← S.ok.eK]; exact h1', by rw [← h2'.length]; exact hi⟩
/-- the entries that a list leans on -/
def srcL : D → List D → Led
  | .v (.ref l), ds => [(l, .lst ds)]
  | _, _ => []
theorem IsL.src {x : D} {ds : List D} (h : IsL L x ds) {L' : Led} (hs : ∀ s ∈ srcL x ds, s ∈ L') : IsL L' x ds := by
  cases h with
  | frz => exact .frz
  | own _ => exact .own (hs _ (List.mem_singleton.mpr rfl))
theorem ei_lst {tg e : Expr} {K : Led → List D → Led → Prop} (h : Ev M G L e fun d L1 => ∃ ds, IsL L1 d ds ∧ K (srcL d ds) ds L1) : EvI M G L tg e K := by
  intro X S F σ H A R q
  refine ⟨_, pi_list be, ?_⟩
  refine h X S F σ H A _ fun d L1 v F1 H1 k1 A1 r1 s1 => ?_
  obtain ⟨ds, hd, hk⟩ := k1
  obtain ⟨p, vs, rfl, h1, h2⟩ := hd.get A1 r1
  refine ⟨p, rfl, ⟨vs, SqL.of h1⟩, q _ _ ds L1 F1 H1 hk (fun G' L' F' σ' H' A' hs i => ⟨fun d hd' => ?_, fun hi => ?_⟩) A1 s1⟩
  · obtain ⟨p', vs', e', h1', h2'⟩ := (hd.src hs).get A' (r1.mono A'.ef)
    cases e'
    obtain ⟨w, hw, rw'⟩ := h2'.get hd'
    refine ⟨⟨vs', w, SqL.of h1', hw⟩, fun x H2 ⟨e2, y⟩ => ?_⟩
    subst e2
    have e3 := y vs' (SqL.of h1')
    rw [hw] at e3
    cases e3
    exact ⟨F', A', rw'⟩
  · obtain ⟨p', vs', e', h1', h2'⟩ := (hd.src hs).get A' (r1.mono A'.ef)
    cases e'
    exact ⟨vs', SqL.of h1', by rw [← h2'.length]; exact hi⟩
def rng (lo : Int) (n : Nat) : List D := (List.range n).map fun i => .int (lo + (i : Nat))
theorem rng_get {lo : Int} {n i : Nat} {d : D} (h : (rng lo n)[i]? = some d) : i < n ∧ d = .int (lo + (i : Nat)) := by
  unfold rng at h
  rw [List.getElem?_map] at h
  by_cases hi : i < n
  · rw [List.getElem?_range hi] at h
    exact ⟨hi, (Option.some.inj h).symm⟩
  · rw [List.getElem?_eq_none (by simpa using Nat.le_of_not_lt hi)] at h
    cases h
theorem rng_length (lo : Int) (n : Nat) : (rng lo n).length = n := by unfold rng; simp
theorem goes_rng {lo : Int} {n : Nat} : Goes M (Itr lo n) [] (rng lo n) := by
  intro G' L' F' σ' H' A' _ i
  refine ⟨fun d hd => ?_, fun hi => by rw [rng_length] at hi; exact hi⟩
  obtain ⟨hi, rfl⟩ := rng_get hd
  exact ⟨hi, fun x H2 ⟨e1, e2⟩ => by subst e1 e2; exact ⟨F', A', .v _⟩⟩
theorem gl_of {X : Cx} {x : Str} (S : Sit M X) (h : GlC M.C x) : Gl X x := by
  show X.env.scope.names.lookup x = _
  rw [← S.ok.es]
  exact h
theorem mg_of {X : Cx} {x : Str} {o : Option Value} (S : Sit M X) (h : M.C.mg x = o) : X.mg x = o := by
  rw [← S.ok.em]
  exact h
theorem ei_rng1 {tg a : Expr} {p : Pos} {K : Led → List D → Led → Prop} (hg : GlC M.C "range") (hm : M.C.mg "range" = none)
    (h : Ev M G L a fun d L1 => ∃ j : Int, d = .int j ∧ -(2 ^ 62) ≤ j ∧ j < 2 ^ 62 ∧ K [] (rng 0 j.toNat) L1) (hs : ∀ X : Cx, starEach [a] X.env = [(false, eval a X.env)] := by intro _; rfl) : EvI M G L tg (.Call (.Name "range" p) [a] [] pos) K := by
  intro X S F σ H A R q
  refine ⟨_, pi_range1 (gl_of S hg) (mg_of S hm) (pa_cons be pa_nil (hs X)) (hs X), ?_⟩
  refine h X S F σ H A _ fun d L1 v F1 H1 k1 A1 r1 s1 => ?_
  obtain ⟨j, rfl, h1, h2, hk⟩ := k1
  cases r1
  exact ⟨j, rfl, h1, h2, q _ [] _ L1 F1 H1 hk goes_rng A1 s1⟩
theorem ei_str {tg e : Expr} {K : Led → List D → Led → Prop} (h : Ev M G L e fun d L1 => ∃ z, d = .str z ∧ K [] (z.cps.toList.map fun c => .str ⟨#[c]⟩) L1) : EvI M G L tg e K := by
  intro X S F σ H A R q
  refine ⟨_, pi_str be, ?_⟩
  refine h X S F σ H A _ fun d L1 v F1 H1 k1 A1 r1 s1 => ?_
  obtain ⟨z, rfl, hk⟩ := k1
  cases r1
  refine ⟨z, rfl, q _ [] _ L1 F1 H1 hk (fun G' L' F' σ' H' A' _ i => ⟨fun d hd => ?_, fun hi => (by have hi' := hi; rw [List.length_map] at hi'; simpa using hi' : z.cps.size ≤ i)⟩) A1 s1⟩
  rw [List.getElem?_map] at hd
  by_cases hi : i < z.cps.size
  · refine ⟨hi, fun x H2 ⟨e1, c, hc, e2⟩ => ?_⟩
    subst e1 e2
    have e3 : z.cps.toList[i]? = some c := by simpa using hc
    rw [e3] at hd
    cases hd
    exact ⟨F', A', .v _⟩
  · rw [List.getElem?_eq_none (by simpa using Nat.le_of_not_lt hi)] at hd
    cases hd
def enumD (ds : List D) : List D := (List.range ds.length).map fun i => .tup [.int (i : Nat), ds.getD i .non]
theorem enum_get {ds : List D} {i : Nat} {d : D} (h : (enumD ds)[i]? = some d) : ∃ x, ds[i]? = some x ∧ d = .tup [.int (i : Nat), x] := by
  unfold enumD at h
  rw [List.getElem?_map] at h
  by_cases hi : i < ds.length
  · rw [List.getElem?_range hi] at h
    exact ⟨ds[i], by simp [hi], by rw [← Option.some.inj h]; simp [hi]⟩
  · rw [List.getElem?_eq_none (by simpa using Nat.le_of_not_lt hi)] at h
    cases h
theorem ei_enum {elts : List Expr} {kk : Nat} {tpos p : Pos} {e : Expr} {K : Led → List D → Led → Prop} (hg : GlC M.C "enumerate") (hm : M.C.mg "enumerate" = none)
    (h : Ev M G L e fun d L1 => ∃ ds, IsL L1 d ds ∧ K (srcL d ds) (enumD ds) L1) (hs : ∀ X : Cx, starEach [e] X.env = [(false, eval e X.env)] := by intro _; rfl) : EvI M G L (.Tuple elts kk tpos) (.Call (.Name "enumerate" p) [e] [] pos) K := by
  intro X S F σ H A R q
  refine ⟨_, pi_enum (gl_of S hg) (mg_of S hm) (pa_cons be pa_nil (hs X)) (hs X), ?_⟩
  refine h X S F σ H A _ fun d L1 v F1 H1 k1 A1 r1 s1 => ?_
  obtain ⟨ds, hd, hk⟩ := k1
  obtain ⟨p, vs, rfl, h1, h2⟩ := hd.get A1 r1
  refine ⟨p, vs, rfl, SqL.of h1, q _ _ _ L1 F1 H1 hk (fun G' L' F' σ' H' A' hs i => ⟨fun d hd' => ?_, fun hi => ?_⟩) A1 s1⟩
  · obtain ⟨x, hx, rfl⟩ := enum_get hd'
    obtain ⟨p', vs', e', h1', h2'⟩ := (hd.src hs).get A' (r1.mono A'.ef)
    cases e'
    obtain ⟨w, hw, rw'⟩ := h2'.get hx
    refine ⟨⟨vs', w, SqL.of h1', hw⟩, fun x H2 ⟨T, y, e1, hT, e2, y2⟩ => ?_⟩
    subst e1 e2
    have e3 := y2 vs' (SqL.of h1')
    rw [hw] at e3
    cases e3
    obtain ⟨A2, s2⟩ := A'.ice (o := .tup [.int (i : Nat), w]) hT
    exact ⟨_, A2, .tup upd_same (.cons (.v _) (.cons (rw'.mono s2) .nil))⟩
  · obtain ⟨p', vs', e', h1', h2'⟩ := (hd.src hs).get A' (r1.mono A'.ef)
    cases e'
    refine ⟨vs', SqL.of h1', ?_⟩
    rw [← h2'.length]
    unfold enumD at hi
    simpa using hi
def zipD (ds es : List D) : List D := List.zipWith (fun a b => .tup [a, b]) ds es
theorem zip_get : ∀ {ds es : List D} {i : Nat} {d : D}, (zipD ds es)[i]? = some d → ∃ x y, ds[i]? = some x ∧ es[i]? = some y ∧ d = .tup [x, y] := by
  intro ds es i d h
  unfold zipD at h
  rw [List.getElem?_zipWith] at h
  cases e1 : ds[i]? with
  | none => rw [e1] at h; cases h
  | some x =>
    cases e2 : es[i]? with
    | none => rw [e1, e2] at h; cases h
    | some y => rw [e1, e2] at h; exact ⟨x, y, rfl, rfl, (Option.some.inj h).symm⟩
theorem ei_zip {elts : List Expr} {kk : Nat} {tpos p : Pos} {e f : Expr} {K : Led → List D → Led → Prop} (hg : GlC M.C "zip") (hm : M.C.mg "zip" = none)
    (h : Ev M G L e fun d L1 => Ev M G L1 f fun d2 L2 => (∃ ds es, IsL L2 d ds ∧ IsL L2 d2 es ∧ K (srcL d ds ++ srcL d2 es) (zipD ds es) L2) ∨ ∃ ds es, d = .tup ds ∧ d2 = .tup es ∧ K [] (zipD ds es) L2)
    (hs : ∀ X : Cx, starEach [e, f] X.env = (false, eval e X.env) :: starEach [f] X.env := by intro _; rfl) (hs2 : ∀ X : Cx, starEach [f] X.env = [(false, eval f X.env)] := by intro _; rfl)
    (hpl : ∀ X : Cx, (backTo pos (starEach [f] X.env)).any (·.1) = false := by intro _; rfl) : EvI M G L (.Tuple elts kk tpos) (.Call (.Name "zip" p) [e, f] [] pos) K := by
  intro X S F σ H A R q
  refine ⟨_, RZ.pi_zipA (gl_of S hg) (mg_of S hm) (pa_cons be (pa_cons be pa_nil (hs2 X)) (hs X)) (hs X) (hpl X), ?_⟩
  refine h X S F σ H A _ fun d L1 v F1 H1 k1 A1 r1 s1 => ?_
  refine k1 X S F1 σ H1 A1 _ fun d2 L2 v2 F2 H2 k2 A2 r2 s2 => ?_
  have r1 := r1.mono s2
  rcases k2 with ⟨ds, es, hd, he, hk⟩ | ⟨ds, es, rfl, rfl, hk⟩
  · obtain ⟨p, vs, rfl, h1, h2⟩ := hd.get A2 r1
    obtain ⟨p2, vs2, rfl, h3, h4⟩ := he.get A2 r2
    refine ⟨p, p2, vs, vs2, rfl, .inl ⟨SqL.of h1, SqL.of h3, q _ _ _ L2 F2 H2 hk (fun G' L' F' σ' H' A' hs i => ?_) A2 (s1.trans s2)⟩⟩
    have hsd := hd.src (L' := L') fun s h => hs s (List.mem_append_left _ h)
    have hse := he.src (L' := L') fun s h => hs s (List.mem_append_right _ h)
    obtain ⟨p', vs', e', h1', h2'⟩ := hsd.get A' (r1.mono A'.ef)
    cases e'
    obtain ⟨p', ws', e', h3', h4'⟩ := hse.get A' (r2.mono A'.ef)
    cases e'
    refine ⟨fun d hd' => ?_, fun hi => ?_⟩
    · obtain ⟨x, y, hx, hy, rfl⟩ := zip_get hd'
      obtain ⟨w, hw, rw1⟩ := h2'.get hx
      obtain ⟨u, hu, ru1⟩ := h4'.get hy
      refine ⟨⟨vs', ws', w, u, SqL.of h1', SqL.of h3', hw, hu⟩, fun x H2 ⟨T, y, z, e1, hT, e2, y2, z2⟩ => ?_⟩
      subst e1 e2
      have e3 := y2 vs' (SqL.of h1')
      have e4 := z2 ws' (SqL.of h3')
      rw [hw] at e3
      rw [hu] at e4
      cases e3; cases e4
      obtain ⟨A2, s2⟩ := A'.ice (o := .tup [w, u]) hT
      exact ⟨_, A2, .tup upd_same (.cons (rw1.mono s2) (.cons (ru1.mono s2) .nil))⟩
    · refine ⟨vs', ws', SqL.of h1', SqL.of h3', ?_⟩
      unfold zipD at hi
      rw [List.length_zipWith, h2'.length, h4'.length] at hi
      omega
  · obtain ⟨p, vs, rfl, h1, h2⟩ := tup_get A2 r1
    obtain ⟨p2, vs2, rfl, h3, h4⟩ := tup_get A2 r2
    refine ⟨p, p2, vs, vs2, rfl, .inr ⟨by rw [← S.ok.eK]; exact h1, by rw [← S.ok.eK]; exact h3, q _ _ _ L2 F2 H2 hk (fun G' L' F' σ' H' A' hs i => ?_) A2 (s1.trans s2)⟩⟩
    obtain ⟨p', vs', e', h1', h2'⟩ := tup_get A' (r1.mono A'.ef)
    cases e'
    obtain ⟨p', ws', e', h3', h4'⟩ := tup_get A' (r2.mono A'.ef)
    cases e'
    have h1'' : SqT X.K H' p vs' := by rw [← S.ok.eK]; exact h1'
    have h3'' : SqT X.K H' p2 ws' := by rw [← S.ok.eK]; exact h3'
    refine ⟨fun d hd' => ?_, fun hi => ?_⟩
    · obtain ⟨x, y, hx, hy, rfl⟩ := zip_get hd'
      obtain ⟨w, hw, rw1⟩ := h2'.get hx
      obtain ⟨u, hu, ru1⟩ := h4'.get hy
      refine ⟨⟨vs', ws', w, u, h1'', h3'', hw, hu⟩, fun x H2 ⟨T, y, z, e1, hT, e2, y2, z2⟩ => ?_⟩
      subst e1 e2
      have e3 := y2 vs' h1''
      have e4 := z2 ws' h3''
      rw [hw] at e3
      rw [hu] at e4
      cases e3; cases e4
      obtain ⟨A2, s2⟩ := A'.ice (o := .tup [w, u]) hT
      exact ⟨_, A2, .tup upd_same (.cons (rw1.mono s2) (.cons (ru1.mono s2) .nil))⟩
    · refine ⟨vs', ws', h1'', h3'', ?_⟩
      unfold zipD at hi
      rw [List.length_zipWith, h2'.length, h4'.length] at hi
      omega
end
end TL

namespace TL
open PySem L2

/-! ### promises -/
/-- what a def does: arguments, own objects handed in; what is to be shown of result and own objects, of exceptions -/
abbrev Prm := List D → Led → (D → Led → Prop) → (EX → Led → Prop) → Prop
def TSp (K : PySem.W.Frag) (sp : Prm) : Sp := fun vs H Q E => ∃ (F H0 : Hp) (ds : List D) (L : Led) (KK : D → Led → Prop) (KE : EX → Led → Prop), RepA K F ds vs ∧ At K H0 F [] L F [] H ∧ sp ds L KK KE ∧
  (∀ d L' v F' H', KK d L' → At K H0 F [] L' F' [] H' → Rep K F' d v → Q v H') ∧ (∀ ex L' F' H' v dx, KE ex L' → At K H0 F [] L' F' [] H' → ExIs K F' H' ex v dx → E v dx H')
/-- the def at f keeps the promise -/
abbrev Def (P : Program) (w : World) (K : PySem.W.Frag) (mg : Str → Option Value) (base : Heap) (k : Nat) (f : Addr) (fd : FuncData) (ps : List Str) (sp : Prm) : Prop := FnOk P w K mg base (L2.CX P w) k f fd ps (TSp K sp)
/-- a def of the module, callable by its name -/
structure Glob (P : Program) (w : World) (K : PySem.W.Frag) (mg : Str → Option Value) (base : Heap) (x : Str) (ps : List Str) (sp : Prm) (j : Nat) : Prop where
  ex : ∃ (f : Addr) (fd : FuncData), Def P w K mg base j f fd ps sp ∧ mg x = some (.ref f) ∧ PySem.W.keepIn K (.ref f) = true ∧ Binds K fd ps []
/-- a method of the class at Cc -/
structure Mth (P : Program) (w : World) (K : PySem.W.Frag) (mg : Str → Option Value) (base : Heap) (Cc : Addr) (m : Str) (ps : List Str) (sp : Prm) (j : Nat) : Prop where
  ex : ∃ (f : Addr) (fd : FuncData), Def P w K mg base j f fd ps sp ∧ Meth K Cc m f ∧ Binds K fd ps []
section
variable {M : Mode} {G : List (Option D)} {L : Led} {K : D → Led → Prop} {pos : Pos}
/-- the wish of a call: what a callee's promise becomes here -/
def Calls (M : Mode) (G : List (Option D)) (sp : Prm) (ds : List D) (L1 : Led) (K : D → Led → Prop) : Prop :=
  ∃ Lc R, (Lc ++ R).Perm L1 ∧ ∃ mk : Led → Led, (∀ L', (L' ++ R).Perm (mk L')) ∧ sp ds Lc (fun d L' => K d (mk L')) (fun ex L' => M.T ex G (mk L'))
theorem Calls.tsp {sp : Prm} {ds : List D} {L1 : Led} (h : Calls M G sp ds L1 K) {F : Hp} {σ : St} {H : Hp} {W : WX} {vs : List V} (A : M.at G L1 F σ H) (r : RepA M.C.K F ds vs) (tk : M.Tk W) {Q : VK} (q : Post M G F σ K Q) : TSp M.C.K sp vs H Q (WE W σ) := by
  obtain ⟨Lc, R, pm, mk, hmk, hs⟩ := h
  refine ⟨F, _, ds, Lc, _, _, r, A.hand pm, hs, fun d L' v F' H' k B rd => ?_, fun ex L' F' H' v dx k B he => ?_⟩
  · exact q d _ v F' H' k ((A.back pm B).perm (hmk L')) rd B.ef
  · exact tk ex G _ F' σ H' v dx k ((A.back pm B).perm (hmk L')) he
theorem room_le {X : Cx} (S : Sit M X) (hc : M.C.cm = true) {j : Nat} (hj : j ≤ M.C.k) : Room j X.A := (S.ok.room hc).mono hj
theorem ev_call {x : Str} {p : Pos} {e : Expr} {es : List Expr} {ps : List Str} {sp : Prm} {j : Nat} (B : Glob M.C.P M.C.w M.C.K M.C.mg M.C.base x ps sp j) (hc : M.C.cm = true) (hj : j ≤ M.C.k) (hg : GlC M.C x)
    (h : EvA M G L (e :: es) fun ds L1 => Calls M G sp ds L1 K) (hdb : (x == ("__debug__" : Str)) = false := by decide +kernel)
    (he : ∀ X : Cx, starEach (e :: es) X.env = (false, eval e X.env) :: starEach es X.env := by intro _; rfl) (hpl : ∀ X : Cx, (backTo pos (starEach es X.env)).any (·.1) = false := by intro _; rfl) : Ev M G L (.Call (.Name x p) (e :: es) [] pos) K := by
  intro X S F σ H A Q q
  obtain ⟨W, tk, hk⟩ := S.tk
  obtain ⟨f, fd, ok, hm, kp, bd⟩ := B.ex
  rw [S.ok.eP, S.ok.ew, S.ok.eK, S.ok.em, S.ok.eb] at ok
  rw [S.ok.eK] at kp bd
  refine ⟨_, pe_callS (E := WE W) ok (room_le S hc hj) (gl_of S hg) (mg_of S hm) kp bd (fun σ => passAt tk σ) ba hdb (he X) (hpl X), ?_⟩
  refine h X S F σ H A _ fun ds L1 vs F1 H1 k1 A1 r1 s1 => ?_
  have z := k1.tsp A1 r1 hk (Q := Q) fun d L' v F' H' k' A' r' s' => q d L' v F' H' k' A' r' (s1.trans s')
  rw [S.ok.eK] at z
  exact z
/-- o.m(e, ..), o an instance of an own class, an error may leave -/
theorem ge_meth {X : Cx} {C f : Addr} {k : Nat} {fd : FuncData} {ps : List Str} {sp : Sp} {E : St → XK} {m : Str} {apos : Pos} {o e : Expr} {es : List Expr} {pl : Sem Bool} {σ : St} {H : Hp} {Q : VK}
    (c : Cls X.K C) (hm : Meth X.K C m f) (ok : FnOk X.prog X.w X.K X.mg X.base (L2.CX X.prog X.w) k f fd ps sp) (hr : Room k X.A) (bd : Binds X.K fd ps []) (hx : ∀ σ, PassesAt (L2.CX X.prog X.w) X σ (E σ))
    (h1 : starEach (e :: es) X.env = (false, eval e X.env) :: starEach es X.env) (h2 : (backTo pos (starEach es X.env)).any (·.1) = false)
    (ht : eval (.Call (.Attribute o m apos) (e :: es) [] pos) X.env = (eval o X.env >>= fun ov => standAt apos.atName >>= fun _ => holding [ov] (getMethod ov m pl) >>= fun (f, first) => callWith pos f first (backTo pos (starEach (e :: es) X.env)) (backToKw pos (keywordEach [] X.env))))
    (h : GE X o σ H fun x H1 => ∃ a dx fs, x = .ref a ∧ H1 a = some (.ins C dx fs) ∧ fs.lookup m = none ∧ GA X (e :: es) σ H1 fun vs H2 => sp (x :: vs) H2 Q (E σ)) : GE X (.Call (.Attribute o m apos) (e :: es) [] pos) σ H Q := by
  refine ⟨fun σ H Q => GE X o σ H fun x H1 => ∃ a dx fs, x = .ref a ∧ H1 a = some (.ins C dx fs) ∧ fs.lookup m = none ∧ GA X (e :: es) σ H1 fun vs H2 => sp (x :: vs) H2 Q (E σ), ⟨fun pins s σ H Q I h => ?_⟩, h⟩
  refine PySem.W.methodCall_KW (pl := pl) (thn (be.run pins s σ H _ I h) fun ov s1 hh => ?_) ht
  obtain ⟨x, H1, I1, rx, a, dx, fs, rfl, ha, hl, hq⟩ := hh
  obtain rfl : ov = Value.ref a := rx
  refine getmeth_ok I1 ha c hm hl ?_
  refine PySem.W.callWith_K (first := [.ref a]) (h₀ := X.base) I1.ok.mod.kin hm.kp (thn (ba.run pos pins s1 σ H1 _ I1 hq) fun us s2 hh => ?_) h1 h2
  obtain ⟨vs, H2, I2, rv, hs⟩ := hh
  exact ⟨I2.kIn, run_fnS (us := .ref a :: us) (vs := .ref a :: vs) ok hr bd (hx σ) I2 (.cons rfl rv) hs⟩
theorem ge_meth0 {X : Cx} {C f : Addr} {k : Nat} {fd : FuncData} {ps : List Str} {sp : Sp} {E : St → XK} {m : Str} {apos : Pos} {o : Expr} {pl : Sem Bool} {σ : St} {H : Hp} {Q : VK}
    (c : Cls X.K C) (hm : Meth X.K C m f) (ok : FnOk X.prog X.w X.K X.mg X.base (L2.CX X.prog X.w) k f fd ps sp) (hr : Room k X.A) (bd : Binds X.K fd ps []) (hx : ∀ σ, PassesAt (L2.CX X.prog X.w) X σ (E σ))
    (ht : eval (.Call (.Attribute o m apos) [] [] pos) X.env = (eval o X.env >>= fun ov => standAt apos.atName >>= fun _ => holding [ov] (getMethod ov m pl) >>= fun (f, first) => callWith pos f first (backTo pos (starEach [] X.env)) (backToKw pos (keywordEach [] X.env))))
    (h : GE X o σ H fun x H1 => ∃ a dx fs, x = .ref a ∧ H1 a = some (.ins C dx fs) ∧ fs.lookup m = none ∧ sp [x] H1 Q (E σ)) : GE X (.Call (.Attribute o m apos) [] [] pos) σ H Q := by
  refine ⟨fun σ H Q => GE X o σ H fun x H1 => ∃ a dx fs, x = .ref a ∧ H1 a = some (.ins C dx fs) ∧ fs.lookup m = none ∧ sp [x] H1 Q (E σ), ⟨fun pins s σ H Q I h => ?_⟩, h⟩
  refine PySem.W.methodCall_KW (pl := pl) (thn (be.run pins s σ H _ I h) fun ov s1 hh => ?_) ht
  obtain ⟨x, H1, I1, rx, a, dx, fs, rfl, ha, hl, hq⟩ := hh
  obtain rfl : ov = Value.ref a := rx
  refine getmeth_ok I1 ha c hm hl ?_
  exact PySem.W.callWith_K0 (first := [.ref a]) I1.kIn hm.kp (run_fnS (us := [.ref a]) (vs := [.ref a]) ok hr bd (hx σ) I1 (.cons rfl .nil) hq)
def plOf (o : Expr) (X : Cx) : Sem Bool := do return (← importBound o X.env).getD true
theorem ev_meth {Cc : Addr} {m : Str} {apos : Pos} {o e : Expr} {es : List Expr} {ps : List Str} {sp : Prm} {j : Nat} (B : Mth M.C.P M.C.w M.C.K M.C.mg M.C.base Cc m ps sp j) (c : Cls M.C.K Cc) (hc : M.C.cm = true) (hj : j ≤ M.C.k)
    (h : Ev M G L o fun x L1 => ∃ fs, IsO L1 x Cc fs ∧ fs.lookup m = none ∧ EvA M G L1 (e :: es) fun ds L2 => Calls M G sp (x :: ds) L2 K)
    (h1 : ∀ X : Cx, starEach (e :: es) X.env = (false, eval e X.env) :: starEach es X.env := by intro _; rfl) (h2 : ∀ X : Cx, (backTo pos (starEach es X.env)).any (·.1) = false := by intro _; rfl)
    (ht : ∀ X : Cx, eval (.Call (.Attribute o m apos) (e :: es) [] pos) X.env = (eval o X.env >>= fun ov => standAt apos.atName >>= fun _ => holding [ov] (getMethod ov m (plOf o X)) >>= fun (f, first) => callWith pos f first (backTo pos (starEach (e :: es) X.env)) (backToKw pos (keywordEach [] X.env))) := by intro _; rfl) :
    Ev M G L (.Call (.Attribute o m apos) (e :: es) [] pos) K := by
  intro X S F σ H A Q q
  obtain ⟨W, tk, hk⟩ := S.tk
  obtain ⟨f, fd, ok, hm, bd⟩ := B.ex
  rw [S.ok.eP, S.ok.ew, S.ok.eK, S.ok.em, S.ok.eb] at ok
  rw [S.ok.eK] at hm bd c
  refine ge_meth (pl := plOf o X) (E := WE W) c hm ok (room_le S hc hj) bd (fun σ => passAt tk σ) (h1 X) (h2 X) (ht X) ?_
  refine h X S F σ H A _ fun x L1 v F1 H1 k1 A1 r1 s1 => ?_
  obtain ⟨fs, ho, hl, ha⟩ := k1
  obtain ⟨p, dx, ws, rfl, e1, e2⟩ := ho.get A1 r1
  refine ⟨p, dx, ws, rfl, e1, e2.lookup_none hl, ?_⟩
  refine ha X S F1 σ H1 A1 _ fun ds L2 vs F2 H2 k2 A2 r2 s2 => ?_
  have z := k2.tsp A2 (.cons (r1.mono s2) r2) hk (Q := Q) fun d L' v F' H' k' A' r' s' => q d L' v F' H' k' A' r' ((s1.trans s2).trans s')
  rw [S.ok.eK] at z
  exact z
theorem ev_meth0 {Cc : Addr} {m : Str} {apos : Pos} {o : Expr} {ps : List Str} {sp : Prm} {j : Nat} (B : Mth M.C.P M.C.w M.C.K M.C.mg M.C.base Cc m ps sp j) (c : Cls M.C.K Cc) (hc : M.C.cm = true) (hj : j ≤ M.C.k)
    (h : Ev M G L o fun x L1 => ∃ fs, IsO L1 x Cc fs ∧ fs.lookup m = none ∧ Calls M G sp [x] L1 K)
    (ht : ∀ X : Cx, eval (.Call (.Attribute o m apos) [] [] pos) X.env = (eval o X.env >>= fun ov => standAt apos.atName >>= fun _ => holding [ov] (getMethod ov m (plOf o X)) >>= fun (f, first) => callWith pos f first (backTo pos (starEach [] X.env)) (backToKw pos (keywordEach [] X.env))) := by intro _; rfl) :
    Ev M G L (.Call (.Attribute o m apos) [] [] pos) K := by
  intro X S F σ H A Q q
  obtain ⟨W, tk, hk⟩ := S.tk
  obtain ⟨f, fd, ok, hm, bd⟩ := B.ex
  rw [S.ok.eP, S.ok.ew, S.ok.eK, S.ok.em, S.ok.eb] at ok
  rw [S.ok.eK] at hm bd c
  refine ge_meth0 (pl := plOf o X) (E := WE W) c hm ok (room_le S hc hj) bd (fun σ => passAt tk σ) (ht X) ?_
  refine h X S F σ H A _ fun x L1 v F1 H1 k1 A1 r1 s1 => ?_
  obtain ⟨fs, ho, hl, ha⟩ := k1
  obtain ⟨p, dx, ws, rfl, e1, e2⟩ := ho.get A1 r1
  refine ⟨p, dx, ws, rfl, e1, e2.lookup_none hl, ?_⟩
  have z := ha.tsp A1 (.cons r1 .nil) hk (Q := Q) fun d L' v F' H' k' A' r' s' => q d L' v F' H' k' A' r' (s1.trans s')
  rw [S.ok.eK] at z
  exact z
/-- e.f -/
theorem ev_fld {e : Expr} {f : Str} {Cc : Addr} (c : Cls M.C.K Cc) (n : NoAttr M.C.K Cc f) (h : Ev M G L e fun x L1 => ∃ fs d, IsO L1 x Cc fs ∧ fs.lookup f = some d ∧ K d L1)
    (hb : ∀ X : Cx, attributeBase e f X.env (eval e X.env) = eval e X.env := by intro _; rfl) : Ev M G L (.Attribute e f pos) K := by
  intro X S F σ H A Q q
  refine ⟨_, pe_fld be (hb X), ?_⟩
  refine h X S F σ H A _ fun x L1 v F1 H1 k1 A1 r1 s1 => ?_
  obtain ⟨fs, d, ho, hl, hk⟩ := k1
  obtain ⟨p, dx, ws, rfl, e1, e2⟩ := ho.get A1 r1
  obtain ⟨w, hw, rw'⟩ := e2.lookup hl
  rw [S.ok.eK] at c n
  exact ⟨p, Cc, dx, ws, w, rfl, e1, c, n, hw, q d L1 w F1 H1 hk A1 rw' s1⟩
/-- self.f = e, self an own instance -/
theorem run_fld {o e : Expr} {f : Str} {p : Pos} {rest : List Stmt} {E : TD} {Cc : Addr} (c : Cls M.C.K Cc) (n : NoAttr M.C.K Cc f)
    (h : Ev M G L e fun d L1 => Ev M G L1 o fun x L2 => ∃ l fs L3, x = .ref l ∧ Chg L2 l (.ins Cc fs) (.ins Cc (putD f d fs)) L3 ∧ fs.length < 1000 ∧ Run M G L3 rest E)
    (hs : ∀ X : Cx, swapsWith e (some (.Attribute o f p)) pos.line X.env = pure false := by intro _; rfl) : Run M G L (.Assign [.Attribute o f p] e pos :: rest) E := by
  intro X S F σ H A D o'
  refine gss_cons ⟨_, ps_fld be be (hs X), ?_⟩
  refine h X S F σ H A _ fun d L1 v F1 H1 k1 A1 r1 s1 => ?_
  refine k1 X S F1 σ H1 A1 _ fun x L2 u F2 H2 k2 A2 r2 s2 => ?_
  obtain ⟨l, fs, L3, rfl, ch, hlen, hr⟩ := k2
  cases r2
  obtain ⟨ow, f1, f2⟩ := A2.own _ ch.mem
  cases ow with
  | ins e1 e2 =>
    rename_i dx ws
    rw [S.ok.eK] at c n
    refine ⟨l, Cc, dx, ws, rfl, e1, c, n, by rw [← e2.length]; exact hlen, ?_⟩
    exact hr X S F2 σ _ (A2.chg ch (.ins upd_same (RepF.put (r1.mono s2) e2))) D o'
/-- C(..): a new own instance, __init__'s promise; what it leaves -/
structure Cla (P : Program) (w : World) (K : PySem.W.Frag) (mg : Str → Option Value) (base : Heap) (x : Str) (Cc : Addr) (ps : List Str) (sp : Prm) (j : Nat) : Prop where
  ex : ∃ (f : Addr) (fd : FuncData), Def P w K mg base j f fd ps sp ∧ mg x = some (.ref Cc) ∧ Mk K Cc f ∧ Binds K fd ps []
  kp : PySem.W.keepIn K (.ref Cc) = true

theorem run_makeS {X : Cx} {C f : Addr} {k : Nat} {fd : FuncData} {ps : List Str} {sp : Sp} {E : XK} {pins : List (Addr × Obj)} {σ : St} {H : Hp} {s : Shared} {Q : VK} {us : List Value} {vs : List V}
    (mk : Mk X.K C f) (ok : FnOk X.prog X.w X.K X.mg X.base (L2.CX X.prog X.w) k f fd ps sp) (hr : Room (k + 1) X.A) (bd : Binds X.K fd ps []) (hx : PassesAt (L2.CX X.prog X.w) X σ E) (I : Inv X pins σ H s) (r : Vals vs us)
    (h : ∀ x dx, H x = none → H dx = none → dx ≠ x → sp (.ref x :: vs) (upd (upd H dx (.own x)) x (.ins C dx [])) (fun v H2 => v = .non ∧ Q (.ref x) H2) E) :
    wpAny (model X.prog X.w) X.A (call (.ref C) us) (EP X pins σ Q) X.xe s := by
  generalize hn : s.heap.objs.size = n at *
  have fr : H (n + 1) = none := I.hok.fresh (by omega)
  have fr0 : H n = none := I.hok.fresh (by omega)
  have hq := h (n + 1) n fr fr0 (Nat.ne_of_lt (Nat.lt_succ_self n))
  have I2 := Inv.made (C := C) I
  rw [hn] at I2
  have rr : Vals (V.ref (n + 1) :: vs) (Value.ref (n + 1) :: us) := .cons rfl r
  have len : (Value.ref (n + 1) :: us).length = ps.length := rr.length.symm.trans (ok.len _ _ _ _ hq)
  have b := bd _ (Value.ref (n + 1) :: us) I2.kIn (by rw [List.append_nil]; exact len)
  rw [List.append_nil] at b
  refine wpAny_call (make_map (f := f) I.kIn mk.makes mk.init (beq_iff_eq.mp mk.fn) ?_)
  rw [hn]
  refine codeAny_mono (ok.run _ X.stack _ _ ⟨Value.ref (n + 1) :: us, []⟩ _ _ _ E (hr.make C us []) (I2.env0.make C us []) b rr hq) fun res s' hres => ?_
  match res, hres with
  | .error e, hres => exact hx pins _ _ e s' I2 hres
  | .ok (.ret u), hres =>
    obtain ⟨v, H', I3, rv, ev, q3⟩ := I2.after hres
    cases ev
    exact ⟨rv, ⟨V.ref (n + 1), H', I3, rfl, q3⟩⟩
  | .ok .next, hres => exact False.elim hres
  | .ok .brk, hres => exact False.elim hres
  | .ok .cont, hres => exact False.elim hres
theorem ev_make {x : Str} {p : Pos} {e : Expr} {es : List Expr} {ps : List Str} {sp : Prm} {j : Nat} {Cc : Addr} (B : Cla M.C.P M.C.w M.C.K M.C.mg M.C.base x Cc ps sp j) (hc : M.C.cm = true) (hj : j + 1 ≤ M.C.k) (hg : GlC M.C x)
    (h : EvA M G L (e :: es) fun ds L1 => ∀ l, Calls M G sp (.ref l :: ds) ((l, .ins Cc []) :: L1) fun d L' => d = .non ∧ K (.ref l) L') (hdb : (x == ("__debug__" : Str)) = false := by decide +kernel)
    (he : ∀ X : Cx, starEach (e :: es) X.env = (false, eval e X.env) :: starEach es X.env := by intro _; rfl) (hpl : ∀ X : Cx, (backTo pos (starEach es X.env)).any (·.1) = false := by intro _; rfl) : Ev M G L (.Call (.Name x p) (e :: es) [] pos) K := by
  intro X S F σ H A Q q
  obtain ⟨W, tk, hk⟩ := S.tk
  obtain ⟨f, fd, ok, hm, mk, bd⟩ := B.ex
  have kp := B.kp
  rw [S.ok.eP, S.ok.ew, S.ok.eK, S.ok.em, S.ok.eb] at ok
  rw [S.ok.eK] at mk bd kp
  have main : GA X (e :: es) σ H fun vs H1 => ∀ x dx, H1 x = none → H1 dx = none → dx ≠ x → TSp X.K sp (.ref x :: vs) (upd (upd H1 dx (.own x)) x (.ins Cc dx [])) (fun v H2 => v = .non ∧ Q (.ref x) H2) (WE W σ) := by
    refine h X S F σ H A _ fun ds L1 vs F1 H1 k1 A1 r1 s1 y dx hy hdx hne => ?_
    have A2 := A1.junk (o := .own y) hdx
    have A3 := A2.new (p := y) (o := .ins Cc dx []) (w := .ins Cc []) (by rw [upd_ne (Ne.symm hne)]; exact hy) (.ins upd_same .nil)
    have z := (k1 y).tsp A3 (.cons (.v _) r1) hk (Q := fun v H2 => v = .non ∧ Q (.ref y) H2) fun d L' v F' H' k' A' r' s' => by
      obtain ⟨rfl, k'⟩ := k'
      exact ⟨r'.flat, q _ L' _ F' H' k' A' (.v _) (s1.trans s')⟩
    rw [S.ok.eK] at z
    exact z
  refine ⟨fun σ' H' Q' => GA X (e :: es) σ' H' fun vs H1 => ∀ x dx, H1 x = none → H1 dx = none → dx ≠ x → TSp X.K sp (.ref x :: vs) (upd (upd H1 dx (.own x)) x (.ins Cc dx [])) (fun v H2 => v = .non ∧ Q' (.ref x) H2) (WE W σ'), ⟨fun pins s σ H Q I h => ?_⟩, main⟩
  refine wpAny_Call_Name_kw (ld_glob I (gl_of S hg) (mg_of S hm) ?_ hdb)
  refine PySem.W.callWith_K (h₀ := X.base) I.ok.mod.kin kp (thn (ba.run pos pins s σ H _ I h) fun us s1 hh => ?_) (he X) (hpl X)
  obtain ⟨vs, H1, I1, rv, hs⟩ := hh
  exact ⟨I1.kIn, run_makeS mk ok (room_le S hc hj) bd (passAt tk σ) I1 rv hs⟩

/-! ### the def -/
@[reducible] def ctxOf (P : Program) (w : World) (K : PySem.W.Frag) (mg : Str → Option Value) (base : Heap) (N : List Str) (st : Stmt) (k : Nat) : Ctx := ⟨P, w, K, mg, base, N, defScope st, k, fun _ => true, true, true⟩
end
def slotsOf (N : List Str) (ds : List D) : List (Option D) := ds.map some ++ List.replicate (N.length - ds.length) none
theorem slots_rep {K : PySem.W.Frag} {F : Hp} : ∀ {ds : List D} {vs : List V} (n : Nat), RepA K F ds vs → RepS K F (ds.map some ++ List.replicate n none) (vs.map some ++ List.replicate n none)
  | _, _, 0, .nil => .nil
  | _, _, n + 1, .nil => .any (slots_rep n (ds := []) .nil)
  | _, _, n, .cons r t => .val r (slots_rep n t)
/-- THE RULE for a def -/
theorem def_ok {P : Program} {w : World} {K : PySem.W.Frag} {mg : Str → Option Value} {base : Heap} {x qual : Str} {st : Stmt} {f : Addr} {fd : FuncData} {N ps : List Str} {k : Nat} {sp : Prm} (FF : Fun K x qual st f fd) (S : FnScope N ps (defScope st))
    (len : ∀ ds L KK KE, sp ds L KK KE → ds.length = ps.length)
    (body : ∀ ds L KK KE, sp ds L KK KE → ∀ H0 F0, Run ⟨ctxOf P w K mg base N st k, H0, F0, fun ex _ L' => KE ex L'⟩ (slotsOf N ds) L (defBody st) ⟨fun _ L' => KK .non L', KK, fun _ _ => False, fun _ _ => False⟩) :
    Def P w K mg base (k + 1) f fd ps sp := by
  refine FF.okX S (fun vs H Q E ⟨F, H0, ds, L, KK, KE, r, _, hs, _⟩ => by rw [← r.length]; exact len _ _ _ _ hs) (fun cdv A outer s H vs Q E hr h => ?_)
  obtain ⟨F, H0, ds, L, KK, KE, r, a, hs, hq, he⟩ := h
  have b := body ds L KK KE hs H0 F
  have ps_len : ds.length = ps.length := len _ _ _ _ hs
  refine b (cxOf (L2.CX P w) P w K mg base N qual (defScope st) f cdv A outer s H E) ⟨⟨rfl, rfl, rfl, rfl, rfl, rfl, rfl, fun _ => rfl, fun _ => hr, S.nd, fun _ _ => rfl, fun _ => passes_of rfl, fun _ => ⟨rfl, rfl⟩⟩, fun cls d _ H' => E cls d H', takes_of rfl rfl rfl rfl, fun ex G' L' F' σ' H' v d ht B hx => ?_⟩ F _ H (a.envOf ?_) _ ⟨fun G' L' F' σ' H' h' B => ?_, fun d G' L' v F' σ' H' h' B rr => ?_, fun _ _ _ _ _ h' _ => h'.elim, fun _ _ _ _ _ h' _ => h'.elim⟩
  · exact he ex L' F' H' v d ht (B.envOf .nil) hx
  · unfold slotsOf L2.start
    rw [← r.length]
    exact slots_rep _ r
  · exact hq _ L' _ F' H' h' (B.envOf .nil) (.v _)
  · exact hq d L' v F' H' h' (B.envOf .nil) rr

/-! ### exceptions -/
/-- an own class over ValueError, without an __init__ of its own -/
structure ExcC (K : PySem.W.Frag) (mg : Str → Option Value) (x : Str) (Cc : Addr) : Prop where
  q : PySem.W.excIn K Cc [.type "ValueError", .type "Exception", .type "BaseException", .type "object"] "ValueError.__new__" = true
  m : mg x = some (.ref Cc)
  kp : PySem.W.keepIn K (.ref Cc) = true
  sub : PySem.W.subIn K (.ref Cc) (.type "BaseException") = some true
  ty : PySem.W.typeIn K (.ref Cc) = some (.type "type")
section
variable {M : Mode} {G : List (Option D)} {L : Led} {pos : Pos} {rest : List Stmt} {E : TD}
theorem pmk_own0 {X : Cx} {C : Addr} {x : Str} {p : Pos} (q : PySem.W.excIn X.K C [.type "ValueError", .type "Exception", .type "BaseException", .type "object"] "ValueError.__new__" = true) (gC : X.mg x = some (.ref C)) (kC : PySem.W.keepIn X.K (.ref C) = true)
    (r : Raises X (.ref C)) (hg : Gl X x) (hdb : (x == ("__debug__" : Str)) = false := by decide +kernel) : PMk X (.Call (.Name x p) [] [] pos) (fun _ H Q => Q (.ref C) none H) := by
  intro pins s σ H Q I h
  refine wpAny_Call_Name_kw (ld_glob I hg gC (PySem.W.callWith_K0 I.kIn kC ?_) hdb)
  have hh := exc_obj I.kIn q
  obtain ⟨bm, N, nm, qn, bs, hdct, sn, sub, ab, col, dd, k0, k1, k2, k3, k5, mN, hC, hN, hni, T⟩ := hh
  refine wpAny_call_exc_subT PySem.F.excBase_ValueError T hC hN hni (fun h' e hm => mk_of I hm r h (I.hok.gone hm.new)) (Nat.zero_le _)
theorem run_raise0 {x : Str} {p p2 : Pos} {Cc : Addr} (B : ExcC M.C.K M.C.mg x Cc) (hc : M.C.cm = true) (hg : GlC M.C x) (h : M.T (.own Cc) G L) (hdb : (x == ("__debug__" : Str)) = false := by decide +kernel) : Run M G L (.Raise (some (.Call (.Name x p) [] [] p2)) none pos :: rest) E := by
  intro X S F σ H A D o
  obtain ⟨W, tk, hk⟩ := S.tk
  obtain ⟨q, m, kp, sub, ty⟩ := B
  rw [S.ok.eK] at q kp sub ty
  refine gss_cons ⟨_, ps_raise (S.ok.calm hc) tk (pmk_own0 q (mg_of S m) kp (raises_own sub ty) (gl_of S hg) hdb), ?_⟩
  exact hk _ G L F σ H _ _ h A .own
end
end TL

namespace TL
open PySem L2

/-! ### weaker states -/
section
variable {M : Mode} {G : List (Option D)} {L : Led} {K : D → Led → Prop} {pos : Pos} {ss : List Stmt} {E : TD}
theorem run_drop {L' : Led} (s : L'.Sublist L) (h : Run M G L' ss E) : Run M G L ss E := fun X S F σ H A D o => h X S F σ H (A.drop s) D o
theorem run_frz {x : Str} {p : Addr} {o : OW} {L' : Led} {G' : List (Option D)} (hl : Look M.C.N G x (some (.ref p))) (ho : Out L p o L') (hp : Put M.C.N G x (some o.frz) G') (h : Run M G' L' ss E) : Run M G L ss E := by
  intro X S F σ H A D e
  obtain ⟨F', A', s, r⟩ := A.freeze ho
  have nd : M.C.N.Nodup := S.ok.nd
  obtain ⟨i, hi, hg⟩ := hl.ix
  obtain ⟨j, hj, rfl⟩ := hp.ix
  have e1 : i = j := nodup_ix nd hi hj
  subst e1
  obtain ⟨v, hv, rv⟩ := A'.env.get hg
  cases rv
  have B := A'.set (i := i) r
  have e2 : σ.set i (some (.ref p)) = σ := by
    apply List.ext_getElem?
    intro n
    by_cases hn : i = n
    · subst hn
      rw [List.getElem?_set_self (List.getElem?_eq_some_iff.mp hv).1, hv]
    · rw [List.getElem?_set_ne hn]
  rw [e2] at B
  exact h X S F' σ H B D e
/-- slots forgotten -/
inductive Wkn : List (Option D) → List (Option D) → Prop
  | nil : Wkn [] []
  | same {d : Option D} {g g' : List (Option D)} : Wkn g g' → Wkn (d :: g) (d :: g')
  | drop {d : Option D} {g g' : List (Option D)} : Wkn g g' → Wkn (d :: g) (none :: g')
theorem Wkn.rep {K : PySem.W.Frag} {F : Hp} : ∀ {g g' : List (Option D)} {σ : St}, Wkn g g' → RepS K F g σ → RepS K F g' σ
  | _, _, _, .nil, h => h
  | _, _, _, .same w, .any t => .any (w.rep t)
  | _, _, _, .same w, .val r t => .val r (w.rep t)
  | _, _, _, .drop w, .any t => .any (w.rep t)
  | _, _, _, .drop w, .val r t => .any (w.rep t)
theorem run_weak {G' : List (Option D)} (w : Wkn G G') (h : Run M G' L ss E) : Run M G L ss E := fun X S F σ H A D o => h X S F σ H (A.envOf (w.rep A.env)) D o
theorem run_perm {L' : Led} (s : L.Perm L') (h : Run M G L' ss E) : Run M G L ss E := fun X S F σ H A D o =>
  h X S F σ H ⟨A.ef, A.eh, A.fh, A.nf, fun q hq => A.own q (s.symm.subset hq), (s.map _).nodup_iff.mp A.nd, A.env⟩ D o
/-- a datum and the ledger, made weaker: entries dropped, the own object itself frozen -/
theorem ev_drop {e : Expr} (h : Ev M G L e fun d L1 => ∃ L2 : Led, L2.Sublist L1 ∧ K d L2) : Ev M G L e K := fun X S F σ H A Q q =>
  h X S F σ H A Q fun d L1 v F1 H1 ⟨L2, s, k⟩ A1 r1 s1 => q d L2 v F1 H1 k (A1.drop s) r1 s1
theorem ev_frz {e : Expr} (h : Ev M G L e fun d L1 => ∃ p o L2, d = .ref p ∧ Out L1 p o L2 ∧ K o.frz L2) : Ev M G L e K := fun X S F σ H A Q q =>
  h X S F σ H A Q fun d L1 v F1 H1 ⟨p, o, L2, ed, ho, k⟩ A1 r1 s1 => by
    subst ed
    cases r1
    obtain ⟨F2, A2, s2, r2⟩ := A1.freeze ho
    exact q _ L2 _ F2 H1 k A2 r2 (s1.trans s2)

/-! ### list comprehensions -/
def wipeG (G : List (Option D)) : List Nat → List (Option D)
  | [] => G
  | v :: vs => (wipeG G vs).set v none
theorem wipe_rep {Kk : PySem.W.Frag} {F : Hp} {σ : St} (h : RepS Kk F G σ) : ∀ vs : List Nat, RepS Kk F (wipeG G vs) (wipe σ vs)
  | [] => h
  | v :: vs => (wipe_rep h vs).clear v
theorem wipe_len (σ : St) : ∀ vs : List Nat, (wipe σ vs).length = σ.length := wipe_length σ
theorem wipe_set {j : Nat} {a : Option V} : ∀ {vs : List Nat} {σ : St}, j ∈ vs → wipe (σ.set j a) vs = wipe σ vs
  | [], _, h => by cases h
  | v :: vs, σ, h => by
    show (wipe (σ.set j a) vs).set v none = (wipe σ vs).set v none
    by_cases hj : j ∈ vs
    · rw [wipe_set hj]
    · have e : j = v := (List.mem_cons.mp h).resolve_right hj
      subst e
      have out : ∀ (us : List Nat) (τ : St), j ∉ us → wipe (τ.set j a) us = (wipe τ us).set j a := by
        intro us
        induction us with
        | nil => intro τ _; rfl
        | cons u us ih =>
          intro τ hu
          show (wipe (τ.set j a) us).set u none = ((wipe τ us).set u none).set j a
          rw [ih τ (fun z => hu (List.mem_cons_of_mem _ z)), List.set_comm _ _ (fun z => hu (by rw [z]; exact List.mem_cons_self))]
      rw [out vs σ hj, List.set_set]
theorem wipe_wipe {vs : List Nat} (σ : St) : wipe (wipe σ vs) vs = wipe σ vs := by
  have go : ∀ us : List Nat, (∀ u ∈ us, u ∈ vs) → wipe (wipe σ us) vs = wipe σ vs := by
    intro us
    induction us with
    | nil => intro _; rfl
    | cons u us ih =>
      intro h
      show wipe ((wipe σ us).set u none) vs = _
      rw [wipe_set (h u List.mem_cons_self), ih fun z hz => h z (List.mem_cons_of_mem _ hz)]
  exact go vs fun _ h => h
/-- the mode of a comprehension's block -/
@[reducible] def Mode.blk (M : Mode) (scope : Scope) : Mode := { M with C := { M.C with sc := relS scope M.C.sc, df := fun x => scope.names.lookup x == some .cell, lp := false }, T := fun _ _ _ => False }
theorem Sit.blk {X : Cx} (S : Sit M X) {scope : Scope} {s : Shared} {H : Hp} {C : Addr} {cl : List (Str × Addr)} {fp : List Addr} : Sit (M.blk scope) (X.blk s H scope (compEnvC scope cl C X.env) fp) := by
  obtain ⟨⟨eP, ew, eK, em, eb, eN, es, calm, room, nd, fn, po, st⟩, _⟩ := S
  refine ⟨⟨eP, ew, eK, em, eb, eN, ?_, calm, room, nd, (fun x h => h), (fun h => nomatch h), (fun h => nomatch h)⟩, fun _ _ _ _ => False, takes0, fun _ _ _ _ _ _ _ _ h => h.elim⟩
  show relS scope M.C.sc = relS scope X.env.scope
  rw [es]
/-- a target of names, own ones of the block -/
def TgtN (M : Mode) (G : List (Option D)) (L : Led) (vs : List Nat) (tg : Expr) (d : D) (K : List (Option D) → Prop) : Prop :=
  ∀ X, Sit M X → ∀ F σ H v, M.at G L F σ H → Rep M.C.K F d v → ∀ Q : St → Hp → Prop, (∀ G' σ', K G' → M.at G' L F σ' H → wipe σ' vs = wipe σ vs → Q σ' H) → GG X tg v σ H Q
theorem tn_name {x : Str} {p : Pos} {d : D} {vs : List Nat} {i : Nat} {Kg : List (Option D) → Prop} (hx : Loc' M x) (hi : M.C.N[i]? = some x) (hv : i ∈ vs) (h : Kg (G.set i (some d))) : TgtN M G L vs (.Name x p) d Kg := by
  intro X S F σ H v A r Q q
  obtain ⟨hl, hf⟩ := hx.loc S
  rw [S.ok.eN] at hi
  refine ⟨_, pg_name (i := i) (by rw [← S.ok.eN]; exact S.ok.nd) hi hl hf, ?_⟩
  exact q _ _ h (A.set r) (wipe_set hv)
theorem tn_two {x y : Str} {p p2 p3 : Pos} {d e : D} {vs : List Nat} {i j kk : Nat} {Kg : List (Option D) → Prop} (hc : M.C.cm = true) (hx : Loc' M x) (hi : M.C.N[i]? = some x) (hv : i ∈ vs) (hy : Loc' M y) (hj : M.C.N[j]? = some y) (hw : j ∈ vs)
    (h : Kg ((G.set i (some d)).set j (some e))) : TgtN M G L vs (.Tuple [.Name x p, .Name y p2] kk p3) (.tup [d, e]) Kg := by
  intro X S F σ H v A r Q q
  obtain ⟨lx, fx⟩ := hx.loc S
  obtain ⟨ly, fy⟩ := hy.loc S
  rw [S.ok.eN] at hi hj
  have nd : X.N.Nodup := by rw [← S.ok.eN]; exact S.ok.nd
  obtain ⟨a, xs, rfl, h1, h2⟩ := tup_get A r
  cases h2 with
  | cons r1 t =>
    cases t with
    | cons r2 t =>
      cases t
      refine ⟨_, pg_tup (n := 2) (S.ok.calm hc) (pgs_cons (pg_name (i := i) nd hi lx fx) (pgs_cons (pg_name (i := j) nd hj ly fy) pgs_nil)), a, _, rfl, by rw [← S.ok.eK]; exact h1, rfl, _, _, rfl, _, _, rfl, rfl, ?_⟩
      exact q _ _ h ((A.set r1).set r2) ((wipe_set hw).trans (wipe_set hv))
/-- a clause's tests: none, or one -/
def TstI (M : Mode) (G : List (Option D)) (L : Led) (ifs : List Expr) (K : Bool → Led → Prop) : Prop := match ifs with
  | [] => K true L
  | [c] => Tst M G L c K
  | _ => False
theorem tstI_go {ifs : List Expr} {KB : Bool → Led → Prop} {M : Mode} {G : List (Option D)} {L : Led} (h : TstI M G L ifs KB) : ∀ X, Sit M X → ∀ F σ H, M.at G L F σ H → ∀ Q : Bool → Hp → Prop, (∀ b L' F' H', KB b L' → M.at G L' F' σ H' → Same F F' → Q b H') → ∃ t, PTs X ifs t ∧ t σ H Q := by
  intro X S F σ H A Q q
  match ifs, h with
  | [], h => exact ⟨_, pts_nil, q true L F H h A (Same.refl _)⟩
  | [c], h => exact ⟨_, pts_one bt, h X S F σ H A Q q⟩
/-- what follows the list: the invariant I by the turn, the list so far, the ledger -/
def LcInv (M : Mode) (G : List (Option D)) (vs : List Nat) (scope : Scope) (elt tg : Expr) (ifs : List Expr) (src : Led) (items : List D) (L1 : Led) (K : D → Led → Prop) : Prop :=
  ∃ I : Nat → List D → Led → Prop, I 0 [] L1 ∧ (∀ i acc L', I i acc L' → (∀ s ∈ src, s ∈ L') ∧ acc.length < sizeLine) ∧
    (∀ F1 Dl i d acc L', items[i]? = some d → I i acc L' → TgtN ((M.fix F1).blk scope) (wipeG G vs) ((Dl, .lst acc) :: L') vs tg d fun G2 => TstI ((M.fix F1).blk scope) G2 ((Dl, .lst acc) :: L') ifs fun b L2 =>
      (b = true → Ev ((M.fix F1).blk scope) G2 L2 elt fun y L3 => ∃ L4 : Led, ((Dl, OW.lst acc) :: L4).Sublist L3 ∧ I (i + 1) (acc ++ [y]) L4) ∧ (b = false → ∃ L4 : Led, ((Dl, OW.lst acc) :: L4).Sublist L2 ∧ I (i + 1) acc L4)) ∧
    ∀ acc L', I items.length acc L' → ∀ Dl, K (.ref Dl) ((Dl, .lst acc) :: L')
section
variable (X : Cx) (scope : Scope)
def gB (tg : Expr) : TG := fun v σ' H' Q' => ∀ s H C cl fp, GG (X.blk s H scope (compEnvC scope cl C X.env) fp) tg v σ' H' Q'
def tB (ifs : List Expr) : TT := fun σ' H' Q' => ∀ s H C cl fp, ∃ t, PTs (X.blk s H scope (compEnvC scope cl C X.env) fp) ifs t ∧ t σ' H' Q'
def eB (e : Expr) : TE := fun σ' H' Q' => ∀ s H C cl fp, GE (X.blk s H scope (compEnvC scope cl C X.env) fp) e σ' H' Q'
end
theorem gB_ok {X : Cx} {scope : Scope} {tg : Expr} (s : Shared) (H : Hp) (C : Addr) (cl : List (Str × Addr)) (fp : List Addr) : PG (X.blk s H scope (compEnvC scope cl C X.env) fp) tg (gB X scope tg) :=
  ⟨fun pins s' σ' H' v u Q' I r h' => bg.run pins s' σ' H' v u Q' I r (h' s H C cl fp)⟩
theorem tB_ok {X : Cx} {scope : Scope} {ifs : List Expr} (s : Shared) (H : Hp) (C : Addr) (cl : List (Str × Addr)) (fp : List Addr) : PTs (X.blk s H scope (compEnvC scope cl C X.env) fp) ifs (tB X scope ifs) :=
  ⟨fun pins s' σ' H' Q' I h' => by
    obtain ⟨t, p, ht⟩ := h' s H C cl fp
    exact p.run pins s' σ' H' Q' I ht⟩
theorem eB_ok {X : Cx} {scope : Scope} {e : Expr} (s : Shared) (H : Hp) (C : Addr) (cl : List (Str × Addr)) (fp : List Addr) : PE (X.blk s H scope (compEnvC scope cl C X.env) fp) e (eB X scope e) :=
  ⟨fun pins s' σ' H' Q' I h' => be.run pins s' σ' H' Q' I (h' s H C cl fp)⟩
theorem lc_go {X : Cx} {elt tg iter : Expr} {ifs : List Expr} {scope : Scope} {own : List (Str × Nat)} {σ : St} {H F : Hp} {Q : VK} (S : Sit M X) (hc : M.C.cm = true) (A : M.at G L F σ H)
    (h : EvI1 M G X F σ H tg iter fun src items L1 => LcInv M G (own.map (·.2)) scope elt tg ifs src items L1 K) (q : Post M G F σ K Q) :
    tLc (GI X tg iter) (gB X scope tg) (tB X scope ifs) (eB X scope elt) (own.map (·.2)) σ H Q := by
  refine h _ fun J src items L1 F1 H1 k1 g1 A1 s1 Dl hD => ?_
  obtain ⟨I, i0, isrc, turn, done⟩ := k1
  have S1 := S.fix A1
  have A1' : (M.fix F1).at G ((Dl, .lst []) :: L1) F1 σ (upd H1 Dl (.lst [])) := A1.fixed.new hD (.lst upd_same .nil)
  refine ⟨fun i m H' => m = items.length - i ∧ i ≤ items.length ∧ ∃ acc L' F', (M.fix F1).at G ((Dl, .lst acc) :: L') F' σ H' ∧ I i acc L', ⟨items.length, by simp, Nat.zero_le _, [], L1, F1, A1', i0⟩, ?_⟩
  rintro i m H' ⟨rfl, hi, acc, L', F', A', iv⟩
  obtain ⟨is1, is2⟩ := isrc i acc L' iv
  obtain ⟨q1, q2⟩ := g1 G _ F' σ H' A' (fun s hs => List.mem_cons_of_mem _ (is1 s hs)) i
  by_cases hlt : i < items.length
  · obtain ⟨go, yl⟩ := q1 items[i] (by simp [hlt])
    refine .inr ⟨go, fun H2 => ∃ acc L' F', (M.fix F1).at G ((Dl, .lst acc) :: L') F' σ H2 ∧ I (i + 1) acc L', fun H2 ⟨acc2, L2, F2, A2, iv2⟩ => ⟨items.length - (i + 1), by omega, rfl, hlt, acc2, L2, F2, A2, iv2⟩, fun x H2 y s0 Hz C cl fp => ?_⟩
    obtain ⟨F2, A2, r2⟩ := yl x H2 y
    have A2w : ((M.fix F1).blk scope).at (wipeG G (own.map (·.2))) ((Dl, .lst acc) :: L') F2 (wipe σ (own.map (·.2))) H2 := A2.envOf (wipe_rep A2.env _)
    refine turn F1 Dl i _ acc L' (by simp [hlt]) iv _ S1.blk F2 _ H2 x A2w r2 _ fun G3 σ3 k3 A3 hw => ?_
    have hww : wipe σ3 (own.map (·.2)) = wipe σ (own.map (·.2)) := hw.trans (wipe_wipe σ)
    refine ⟨hww, fun s0' Hz' C' cl' fp' => ?_⟩
    -- back to the slots of the comprehension's own frame
    have back : ∀ {L5 : Led} {F5 H5 : Hp}, ((M.fix F1).blk scope).at G3 L5 F5 σ3 H5 → Same F2 F5 → (M.fix F1).at G L5 F5 σ H5 := fun {L5 F5 H5} B s => ⟨B.ef, B.eh, B.fh, B.nf, B.own, B.nd, A2.env.mono s⟩
    refine tstI_go k3 _ S1.blk F2 σ3 H2 A3 _ fun b L4 F4 H4 k4 A4 s4 => ?_
    cases b with
    | true =>
      rw [if_pos rfl]
      intro s0'' Hz'' C'' cl'' fp''
      refine k4.1 rfl _ S1.blk F4 σ3 H4 A4 _ fun z L5 w F5 H5 k5 A5 r5 s5 => ?_
      obtain ⟨L6, sub, iv6⟩ := k5
      have A6 := (back A5 (s4.trans s5)).drop sub
      obtain ⟨ow, _, _⟩ := A6.own _ List.mem_cons_self
      cases ow with
      | lst e1 e2 =>
        rename_i ws
        refine ⟨ws, e1, by rw [← e2.length]; exact is2, ?_⟩
        exact ⟨acc ++ [z], L6, F5, A6.chg .here (.lst upd_same (e2.snoc r5)), iv6⟩
    | false =>
      rw [if_neg Bool.false_ne_true]
      obtain ⟨L6, sub, iv6⟩ := k4.2 rfl
      exact ⟨acc, L6, F4, (back A4 s4).drop sub, iv6⟩
  · have e : i = items.length := by omega
    subst e
    exact .inl ⟨q2 (Nat.le_refl _), q _ _ _ F' H' (done acc L' iv Dl) (A1.unfix A') (.v _) (s1.trans A'.ef)⟩
theorem ev_lc {elt tg iter : Expr} {ifs : List Expr} {scope : Scope} (own : List (Str × Nat)) (hc : M.C.cm = true) (ok : blkC M.C.N M.C.sc scope own = true)
    (h : EvI M G L tg iter fun src items L1 => LcInv M G (own.map (·.2)) scope elt tg ifs src items L1 K)
    (hs : ∀ (X : Cx) x, foldedSetIterable iter X.env x = pure x := by intro _ _; rfl) : Ev M G L (.ListComp elt [⟨tg, iter, ifs, 0⟩] scope pos) K := by
  intro X S F σ H A Q q
  refine ⟨_, pe_lc (S.ok.calm hc) (by rw [← S.ok.eN]; exact S.ok.nd) bi (by rw [← S.ok.eN, ← S.ok.es]; exact blkOk_by ok) gB_ok tB_ok eB_ok (hs X), ?_⟩
  exact lc_go S hc A (h X S F σ H A) q
/-- x = [..], the name a local -/
theorem run_setlc {x : Str} {p : Pos} {elt tg iter : Expr} {ifs : List Expr} {scope : Scope} {rest : List Stmt} {spos : Pos} (own : List (Str × Nat)) (hc : M.C.cm = true) (hx : M.C.sc.names.lookup x = some .local) (hn : x ∈ M.C.N) (ok : blkC M.C.N M.C.sc scope own = true)
    (h : EvI M G L tg iter fun src items L1 => LcInv M G (own.map (·.2)) scope elt tg ifs src items L1 fun d L2 => ∃ G', Put M.C.N G x (some d) G' ∧ Run M G' L2 rest E)
    (hkind : M.C.sc.kind = .function) (hl : (p.line == pos.line) = true) (ha : (scope.names.any fun (n, k) => n == x && (k == .local || k == .cell)) = false)
    (hs : ∀ (X : Cx) x, foldedSetIterable iter X.env x = pure x := by intro _ _; rfl) : Run M G L (.Assign [.Name x p] (.ListComp elt [⟨tg, iter, ifs, 0⟩] scope pos) spos :: rest) E := by
  intro X S F σ H A D o
  obtain ⟨i, hi⟩ := List.getElem?_of_mem hn
  have nd : X.N.Nodup := by rw [← S.ok.eN]; exact S.ok.nd
  have lx : X.env.scope.names.lookup x = some .local := by rw [← S.ok.es]; exact hx
  rw [S.ok.eN] at hi
  refine gss_cons ⟨_, ps_setLc (i := i) (S.ok.calm hc) nd hi lx (sw_true (by rw [← S.ok.es]; exact hkind) lx hl ha) bi (by rw [← S.ok.eN, ← S.ok.es]; exact blkOk_by ok) gB_ok tB_ok eB_ok (hs X), ?_⟩
  refine lc_go S hc A (h X S F σ H A) fun d L2 v F2 H2 k2 A2 r2 s2 => ?_
  obtain ⟨G', hp, hr⟩ := k2
  obtain ⟨j, hj, rfl⟩ := hp.ix
  rw [S.ok.eN] at hj
  have e : j = i := nodup_ix nd hj hi
  subst e
  exact hr X S F2 _ H2 (A2.set r2) D o
/-- items that are not asked of the ledger: which are kept, what each gives -/
theorem lc_pure {vs : List Nat} {scope : Scope} {elt tg : Expr} {ifs : List Expr} {src : Led} {items : List D} {L1 : Led} (p : D → Bool) (f : D → D) (hsz : items.length < sizeLine) (hsrc : ∀ s ∈ src, s ∈ L1)
    (turn : ∀ F1 Dl d acc, d ∈ items → TgtN ((M.fix F1).blk scope) (wipeG G vs) ((Dl, .lst acc) :: L1) vs tg d fun G2 => TstI ((M.fix F1).blk scope) G2 ((Dl, .lst acc) :: L1) ifs fun b L2 =>
      b = p d ∧ ((Dl, OW.lst acc) :: L1).Sublist L2 ∧ (p d = true → Ev ((M.fix F1).blk scope) G2 L2 elt fun y L3 => y = f d ∧ ((Dl, OW.lst acc) :: L1).Sublist L3))
    (hk : ∀ Dl, K (.ref Dl) ((Dl, .lst ((items.filter p).map f)) :: L1)) : LcInv M G vs scope elt tg ifs src items L1 K := by
  refine ⟨fun i acc L' => i ≤ items.length ∧ L' = L1 ∧ acc = ((items.take i).filter p).map f, ⟨Nat.zero_le _, rfl, rfl⟩, fun i acc L' ⟨h1, h2, h3⟩ => ⟨by rw [h2]; exact hsrc, ?_⟩, fun F1 Dl i d acc L' hd ⟨h1, h2, h3⟩ => ?_, fun acc L' ⟨h1, h2, h3⟩ Dl => ?_⟩
  · rw [h3, List.length_map]
    exact Nat.lt_of_le_of_lt (Nat.le_trans (List.length_filter_le _ _) (by rw [List.length_take]; omega)) hsz
  · subst h2
    have hlt := (List.getElem?_eq_some_iff.mp hd).1
    have tk : items.take (i + 1) = items.take i ++ [d] := by rw [List.take_succ, hd]; rfl
    intro X S F σ H v A r Q q
    refine turn F1 Dl d acc (List.mem_of_getElem? hd) X S F σ H v A r Q fun G' σ' k A' w => q G' σ' ?_ A' w
    have step : ∀ {b : Bool} {L2 : Led}, (b = p d ∧ ((Dl, OW.lst acc) :: L').Sublist L2 ∧ (p d = true → Ev ((M.fix F1).blk scope) G' L2 elt fun y L3 => y = f d ∧ ((Dl, OW.lst acc) :: L').Sublist L3)) →
        ((b = true → Ev ((M.fix F1).blk scope) G' L2 elt fun y L3 => ∃ L4 : Led, ((Dl, OW.lst acc) :: L4).Sublist L3 ∧ i + 1 ≤ items.length ∧ L4 = L' ∧ acc ++ [y] = ((items.take (i + 1)).filter p).map f) ∧
          (b = false → ∃ L4 : Led, ((Dl, OW.lst acc) :: L4).Sublist L2 ∧ i + 1 ≤ items.length ∧ L4 = L' ∧ acc = ((items.take (i + 1)).filter p).map f)) := by
      rintro b L2 ⟨rfl, s2, he⟩
      refine ⟨fun hb => (he hb).imp fun y L3 ⟨ey, s3⟩ => ⟨L', s3, hlt, rfl, ?_⟩, fun hb => ⟨L', s2, hlt, rfl, ?_⟩⟩
      · rw [tk, List.filter_append, List.map_append, h3, List.filter_cons, if_pos hb, ey]
        rfl
      · rw [tk, List.filter_append, List.map_append, h3, List.filter_cons, if_neg (by rw [hb]; decide)]
        simp
    match ifs, k with
    | [], k => exact step k
    | [c], k => exact fun X S F σ H A Q q => k X S F σ H A Q fun b L2 F2 H2 kb => q b L2 F2 H2 (step kb)
  · subst h2
    rw [List.take_length] at h3
    rw [h3]
    exact hk Dl
end
end TL

namespace TL
open PySem L2

section
variable {M : Mode} {G : List (Option D)} {L : Led} {K : D → Led → Prop} {pos : Pos}
/-! ### built-ins, called by name -/
theorem ev_blt {x : Str} {id : String} {p : Pos} {e : Expr} {es : List Expr} (hg : GlC M.C x) (hm : M.C.mg x = none) (hv : bootBuiltins x = some (.builtin id)) (h : EvA M G L (e :: es) fun ds L1 => CallV M G L1 (.builtin id) ds K) (hn : x ≠ "__name__" := by decide +kernel) (hdb : (x == ("__debug__" : Str)) = false := by decide +kernel)
    (he : ∀ X : Cx, starEach (e :: es) X.env = (false, eval e X.env) :: starEach es X.env := by intro _; rfl) (hpl : ∀ X : Cx, (backTo pos (starEach es X.env)).any (·.1) = false := by intro _; rfl) : Ev M G L (.Call (.Name x p) (e :: es) [] pos) K := by
  intro X S F σ H A Q q
  refine ⟨_, pe_callB bc (gl_of S hg) (mg_of S hm) hv ba hn hdb (he X) (hpl X), ?_⟩
  refine h X S F σ H A _ fun ds L1 vs F1 H1 k1 A1 r1 s1 => ?_
  exact k1 X S F1 σ H1 vs A1 r1 Q fun d L' v F' H' k' A' r' s' => q d L' v F' H' k' A' r' (s1.trans s')
theorem ev_blty {x : Str} {id : String} {p : Pos} {e : Expr} {es : List Expr} (hg : GlC M.C x) (hm : M.C.mg x = none) (hv : bootBuiltins x = some (.type id)) (h : EvA M G L (e :: es) fun ds L1 => CallV M G L1 (.type id) ds K) (hn : x ≠ "__name__" := by decide +kernel) (hdb : (x == ("__debug__" : Str)) = false := by decide +kernel)
    (he : ∀ X : Cx, starEach (e :: es) X.env = (false, eval e X.env) :: starEach es X.env := by intro _; rfl) (hpl : ∀ X : Cx, (backTo pos (starEach es X.env)).any (·.1) = false := by intro _; rfl) : Ev M G L (.Call (.Name x p) (e :: es) [] pos) K := by
  intro X S F σ H A Q q
  refine ⟨_, pe_callTy bc (gl_of S hg) (mg_of S hm) hv ba hn hdb (he X) (hpl X), ?_⟩
  refine h X S F σ H A _ fun ds L1 vs F1 H1 k1 A1 r1 s1 => ?_
  exact k1 X S F1 σ H1 vs A1 r1 Q fun d L' v F' H' k' A' r' s' => q d L' v F' H' k' A' r' (s1.trans s')
/-- a built-in class as a value -/
theorem ev_tyn {x : Str} {id : String} (hg : GlC M.C x) (hm : M.C.mg x = none) (hv : bootBuiltins x = some (.type id)) (h : K (.v (.ty id)) L) (hn : x ≠ "__name__" := by decide +kernel) (hdb : (x == ("__debug__" : Str)) = false := by decide +kernel) : Ev M G L (.Name x pos) K :=
  fun X S F σ H A Q q => ⟨_, pe_bltn (v := .ty id) (gl_of S hg) (mg_of S hm) hv rfl hn hdb, q _ L _ F H h A (.v _) (Same.refl _)⟩
theorem reps1 {Kk : PySem.W.Frag} {F : Hp} {d : D} {vs : List V} (r : RepA Kk F [d] vs) : ∃ v, vs = [v] ∧ Rep Kk F d v := by
  cases r with
  | cons r t => cases t; exact ⟨_, rfl, r⟩
theorem reps2 {Kk : PySem.W.Frag} {F : Hp} {d e : D} {vs : List V} (r : RepA Kk F [d, e] vs) : ∃ v u, vs = [v, u] ∧ Rep Kk F d v ∧ Rep Kk F e u := by
  cases r with
  | cons r t =>
    obtain ⟨u, rfl, r2⟩ := reps1 t
    exact ⟨_, u, rfl, r, r2⟩
theorem cv_lenQ {x : D} {ds : List D} (hx : IsSq L x ds) (h : K (.int ds.length) L) : CallV M G L (.builtin "len") [x] K := by
  intro X S F σ H vs A r Q q
  obtain ⟨v, rfl, rr⟩ := reps1 r
  obtain ⟨p, ws, rfl, h1, h2⟩ := hx.get A rr
  refine ⟨_, call_len_seq, p, ws, rfl, by rw [← S.ok.eK]; exact h1, ?_⟩
  rw [← h2.length]
  exact q _ L _ F H h A (.v _) (Same.refl _)
theorem cv_lenS {z : Str} (hz : z.length ≤ sizeLine) (h : K (.int z.length) L) : CallV M G L (.builtin "len") [.str z] K := by
  intro X S F σ H vs A r Q q
  obtain ⟨v, rfl, rr⟩ := reps1 r
  cases rr
  exact ⟨_, call_len_str, z, rfl, hz, q _ L _ F H h A (.v _) (Same.refl _)⟩
theorem lenK_R {X : Cx} : CallR X (.builtin "len") (fun xs H Q => ∃ a kvs, xs = [V.ref a] ∧ Rd H a (.dK kvs) ∧ Q (.int kvs.length) H) := by
  intro pins s σ H xs us Q I r h
  obtain ⟨a, kvs, rfl, e, q⟩ := h
  obtain ⟨u, rfl, ru⟩ := vals1 r
  cases ru
  exact d_len I e fun t s' I' => ⟨.int kvs.length, H, I', ⟨t, rfl⟩, q⟩
theorem cv_lenK {x : D} {kvs : List (Key × D)} (hx : IsK L x kvs) (h : K (.int kvs.length) L) : CallV M G L (.builtin "len") [x] K := by
  intro X S F σ H vs A r Q q
  obtain ⟨v, rfl, rr⟩ := reps1 r
  obtain ⟨p, ws, rfl, h1, h2⟩ := hx.get A rr
  refine ⟨_, lenK_R, p, ws, rfl, h1, ?_⟩
  rw [← h2.length]
  exact q _ L _ F H h A (.v _) (Same.refl _)
/-- lists of bools, of ints, of texts, as data -/
def boolD : D → Bool
  | .v (.bl b) => b
  | _ => false
def isBl : D → Bool
  | .v (.bl _) => true
  | _ => false
def intD : D → Int
  | .v (.int b) => b
  | _ => 0
def isInt : D → Bool
  | .v (.int _) => true
  | _ => false
def strD : D → Str
  | .v (.str b) => b
  | _ => Str.empty
def isStr : D → Bool
  | .v (.str _) => true
  | _ => false
theorem reps_bl {Kk : PySem.W.Frag} {F : Hp} : ∀ {ds : List D} {vs : List V}, RepA Kk F ds vs → ds.all isBl = true → vs = (ds.map boolD).map V.bl
  | _, _, .nil, _ => rfl
  | d :: ds, _, .cons r t, h => by
    rw [List.all_cons, Bool.and_eq_true] at h
    match d, r, h with
    | .v (.bl b), r, h => rw [r.flat, reps_bl t h.2]; rfl
theorem reps_int {Kk : PySem.W.Frag} {F : Hp} : ∀ {ds : List D} {vs : List V}, RepA Kk F ds vs → ds.all isInt = true → vs = (ds.map intD).map V.int
  | _, _, .nil, _ => rfl
  | d :: ds, _, .cons r t, h => by
    rw [List.all_cons, Bool.and_eq_true] at h
    match d, r, h with
    | .v (.int b), r, h => rw [r.flat, reps_int t h.2]; rfl
theorem reps_str {Kk : PySem.W.Frag} {F : Hp} : ∀ {ds : List D} {vs : List V}, RepA Kk F ds vs → ds.all isStr = true → vs = (ds.map strD).map V.str
  | _, _, .nil, _ => rfl
  | d :: ds, _, .cons r t, h => by
    rw [List.all_cons, Bool.and_eq_true] at h
    match d, r, h with
    | .v (.str b), r, h => rw [r.flat, reps_str t h.2]; rfl
theorem cv_all {x : D} {ds : List D} (hc : M.C.cm = true) (hx : IsL L x ds) (hb : ds.all isBl = true) (h : K (.bl (ds.all boolD)) L) : CallV M G L (.builtin "all") [x] K := by
  intro X S F σ H vs A r Q q
  obtain ⟨v, rfl, rr⟩ := reps1 r
  obtain ⟨p, ws, rfl, h1, h2⟩ := hx.get A rr
  have e := reps_bl h2 hb
  subst e
  refine ⟨_, cr_all (S.ok.calm hc), p, _, rfl, SqL.of h1, ?_⟩
  have e : (ds.map boolD).all id = ds.all boolD := by rw [List.all_map]; rfl
  rw [e]
  exact q _ L _ F H h A (.v _) (Same.refl _)
theorem cv_any {x : D} {ds : List D} (hc : M.C.cm = true) (hx : IsL L x ds) (hb : ds.all isBl = true) (h : K (.bl (ds.any boolD)) L) : CallV M G L (.builtin "any") [x] K := by
  intro X S F σ H vs A r Q q
  obtain ⟨v, rfl, rr⟩ := reps1 r
  obtain ⟨p, ws, rfl, h1, h2⟩ := hx.get A rr
  have e := reps_bl h2 hb
  subst e
  refine ⟨_, cr_any (S.ok.calm hc), p, _, rfl, SqL.of h1, ?_⟩
  have e : (ds.map boolD).any id = ds.any boolD := by rw [List.any_map]; rfl
  rw [e]
  exact q _ L _ F H h A (.v _) (Same.refl _)
theorem cv_sum {x : D} {ds : List D} (hc : M.C.cm = true) (hx : IsL L x ds) (hb : ds.all isInt = true) (h : K (.int (ds.map intD).sum) L) : CallV M G L (.builtin "sum") [x] K := by
  intro X S F σ H vs A r Q q
  obtain ⟨v, rfl, rr⟩ := reps1 r
  obtain ⟨p, ws, rfl, h1, h2⟩ := hx.get A rr
  have e := reps_int h2 hb
  subst e
  exact ⟨_, cr_sum (S.ok.calm hc), p, _, rfl, SqL.of h1, q _ L _ F H h A (.v _) (Same.refl _)⟩
theorem cv_max {x : D} {ds : List D} (hc : M.C.cm = true) (hx : IsL L x ds) (hb : ds.all isInt = true) (hl : 0 < ds.length) (h : ∀ m, m ∈ ds.map intD → (∀ y, y ∈ ds.map intD → y ≤ m) → K (.int m) L) : CallV M G L (.builtin "max") [x] K := by
  intro X S F σ H vs A r Q q
  obtain ⟨v, rfl, rr⟩ := reps1 r
  obtain ⟨p, ws, rfl, h1, h2⟩ := hx.get A rr
  have e := reps_int h2 hb
  subst e
  exact ⟨_, cr_max (S.ok.calm hc), p, _, rfl, SqL.of h1, by simpa using hl, fun m hm hle => q _ L _ F H (h m hm hle) A (.v _) (Same.refl _)⟩
theorem cv_min {x : D} {ds : List D} (hc : M.C.cm = true) (hx : IsL L x ds) (hb : ds.all isInt = true) (hl : 0 < ds.length) (h : ∀ m, m ∈ ds.map intD → (∀ y, y ∈ ds.map intD → m ≤ y) → K (.int m) L) : CallV M G L (.builtin "min") [x] K := by
  intro X S F σ H vs A r Q q
  obtain ⟨v, rfl, rr⟩ := reps1 r
  obtain ⟨p, ws, rfl, h1, h2⟩ := hx.get A rr
  have e := reps_int h2 hb
  subst e
  exact ⟨_, cr_min (S.ok.calm hc), p, _, rfl, SqL.of h1, by simpa using hl, fun m hm hle => q _ L _ F H (h m hm hle) A (.v _) (Same.refl _)⟩
theorem cv_max2 {i j : Int} (hc : M.C.cm = true) (h : K (.int (max i j)) L) : CallV M G L (.builtin "max") [.int i, .int j] K := by
  intro X S F σ H vs A r Q q
  obtain ⟨v, u, rfl, r1, r2⟩ := reps2 r
  cases r1; cases r2
  refine ⟨_, call_max2 (S.ok.calm hc), i, j, rfl, ?_⟩
  have e : (if j > i then j else i) = max i j := by rw [Int.max_def]; split <;> split <;> omega
  rw [e]
  exact q _ L _ F H h A (.v _) (Same.refl _)
theorem cv_min2 {i j : Int} (hc : M.C.cm = true) (h : K (.int (min i j)) L) : CallV M G L (.builtin "min") [.int i, .int j] K := by
  intro X S F σ H vs A r Q q
  obtain ⟨v, u, rfl, r1, r2⟩ := reps2 r
  cases r1; cases r2
  refine ⟨_, call_min2 (S.ok.calm hc), i, j, rfl, ?_⟩
  have e : (if j < i then j else i) = min i j := by rw [Int.min_def]; split <;> split <;> omega
  rw [e]
  exact q _ L _ F H h A (.v _) (Same.refl _)
theorem cv_strI {i : Int} (hi : i.natAbs.log2 < 1920) (h : K (.str (toString i)) L) : CallV M G L (.type "str") [.int i] K := by
  intro X S F σ H vs A r Q q
  obtain ⟨v, rfl, rr⟩ := reps1 r
  cases rr
  exact ⟨_, call_str_int, i, rfl, hi, q _ L _ F H h A (.v _) (Same.refl _)⟩
theorem cv_intI {i : Int} (h : K (.int i) L) : CallV M G L (.type "int") [.int i] K := by
  intro X S F σ H vs A r Q q
  obtain ⟨v, rfl, rr⟩ := reps1 r
  cases rr
  exact ⟨_, call_int1, .inl ⟨i, rfl, q _ L _ F H h A (.v _) (Same.refl _)⟩⟩
theorem cv_intB {b : Bool} (h : K (.int (if b then 1 else 0)) L) : CallV M G L (.type "int") [.bl b] K := by
  intro X S F σ H vs A r Q q
  obtain ⟨v, rfl, rr⟩ := reps1 r
  cases rr
  exact ⟨_, call_int1, .inr ⟨b, rfl, q _ L _ F H h A (.v _) (Same.refl _)⟩⟩
theorem cv_intS {z : Str} {n : Int} (hn : PySem.intText? z = some n) (hl : z.length ≤ 640) (h : K (.int n) L) : CallV M G L (.type "int") [.str z] K := by
  intro X S F σ H vs A r Q q
  obtain ⟨v, rfl, rr⟩ := reps1 r
  cases rr
  exact ⟨_, call_int_str, z, n, rfl, hn, hl, q _ L _ F H h A (.v _) (Same.refl _)⟩
/-- tuple(list): new, frozen; tuple(tuple): itself -/
theorem cv_tupL {x : D} {ds : List D} (hx : IsL L x ds) (h : K (.tup ds) L) : CallV M G L (.type "tuple") [x] K := by
  intro X S F σ H vs A r Q q
  obtain ⟨v, rfl, rr⟩ := reps1 r
  obtain ⟨p, ws, rfl, h1, h2⟩ := hx.get A rr
  refine ⟨_, call_tuple_of, p, ws, rfl, .inl ⟨SqL.of h1, fun l hl => ?_⟩⟩
  obtain ⟨A2, s2⟩ := A.ice (o := .tup ws) hl
  exact q _ L _ _ _ h A2 (.tup upd_same (h2.mono s2)) s2
theorem cv_tupT {ds : List D} (h : K (.tup ds) L) : CallV M G L (.type "tuple") [.tup ds] K := by
  intro X S F σ H vs A r Q q
  obtain ⟨v, rfl, rr⟩ := reps1 r
  obtain ⟨p, ws, rfl, h1, h2⟩ := tup_get A rr
  exact ⟨_, call_tuple_of, p, ws, rfl, .inr ⟨by rw [← S.ok.eK]; exact h1, q _ L _ F H h A rr (Same.refl _)⟩⟩
theorem cv_list {x : D} {ds : List D} (hx : IsSq L x ds) (h : ∀ p, K (.ref p) ((p, .lst ds) :: L)) : CallV M G L (.type "list") [x] K := by
  intro X S F σ H vs A r Q q
  obtain ⟨v, rfl, rr⟩ := reps1 r
  obtain ⟨p, ws, rfl, h1, h2⟩ := hx.get A rr
  refine ⟨_, call_list_of, p, ws, rfl, by rw [← S.ok.eK]; exact h1, fun l hl => ?_⟩
  exact q _ _ _ F _ (h l) (A.new hl (.lst upd_same h2)) (.v _) (Same.refl _)
theorem cv_listQ {ds : List D} (h : ∀ p, K (.ref p) ((p, .lst ds) :: L)) : CallV M G L (.type "list") [.sq ds] K := by
  intro X S F σ H vs A r Q q
  obtain ⟨v, rfl, rr⟩ := reps1 r
  cases rr with
  | sq h1 h2 =>
    refine ⟨_, call_list_of, _, _, rfl, .inl (by rw [← S.ok.eK]; exact A.fh.seq h1), fun l hl => ?_⟩
    exact q _ _ _ F _ (h l) (A.new hl (.lst upd_same h2)) (.v _) (Same.refl _)
theorem dcopy_R {X : Cx} : CallR X (.type "dict") (fun xs H Q => ∃ a kvs, xs = [V.ref a] ∧ Rd H a (.dK kvs) ∧ ∀ p, H p = none → Q (.ref p) (upd H p (.dK kvs))) := by
  intro pins s σ H xs us Q I r h
  obtain ⟨a, kvs, rfl, e, q⟩ := h
  obtain ⟨u, rfl, ru⟩ := vals1 r
  cases ru
  exact d_copyOf I e fun p s' hp I' => ⟨.ref p, _, I', rfl, q p hp⟩
theorem cv_dcopy {x : D} {kvs : List (Key × D)} (hx : IsK L x kvs) (h : ∀ p, K (.ref p) ((p, .dK kvs) :: L)) : CallV M G L (.type "dict") [x] K := by
  intro X S F σ H vs A r Q q
  obtain ⟨v, rfl, rr⟩ := reps1 r
  obtain ⟨p, ws, rfl, h1, h2⟩ := hx.get A rr
  exact ⟨_, dcopy_R, p, ws, rfl, h1, fun l hl => q _ _ _ F _ (h l) (A.new hl (.dK upd_same h2)) (.v _) (Same.refl _)⟩
/-! ### isinstance -/
/-- what isinstance asks of an own class whose instances are told apart -/
structure ClsI (K : PySem.W.Frag) (C : Addr) : Prop where
  cl : Cls K C
  ha : PySem.W.findIn K (.ref C) "__class__" = some (some (.builtin "object.__class__"))
  hn : PySem.W.specialIn K (.builtin "object.__class__") "__get__" = some (some (.builtin "getset_descriptor.__get__"))
  htk : PySem.W.takesIn K (.builtin "object.__class__") = some true
  hm : PySem.W.mroIn K C (.type "object") = some true
inductive TyD (K : PySem.W.Frag) (L : Led) : D → Value → Prop
  | non : TyD K L .non (.type "NoneType")
  | bl {b : Bool} : TyD K L (.bl b) (.type "bool")
  | int {b : Int} : TyD K L (.int b) (.type "int")
  | str {b : Str} : TyD K L (.str b) (.type "str")
  | tup {ds : List D} : TyD K L (.tup ds) (.type "tuple")
  | lst {x : D} {ds : List D} : IsL L x ds → TyD K L x (.type "list")
  | dK {x : D} {ds : List (Key × D)} : IsK L x ds → TyD K L x (.type "dict")
  | dT {ds : List (List Key × D)} {l : Addr} : (l, OW.dT ds) ∈ L → TyD K L (.ref l) (.type "dict")
  | ob {x : D} {C : Addr} {fs : List (Str × D)} : IsO L x C fs → ClsI K C → TyD K L x (.ref C)
theorem TyD.get {Kk : PySem.W.Frag} {H0 F0 F H : Hp} {σ : St} {x : D} {v : V} {t : Value} (h : TyD Kk L x t) (A : At Kk H0 F0 G L F σ H) (r : Rep Kk F x v) : TyX Kk H v t := by
  cases h with
  | non => cases r; exact .base .non
  | bl => cases r; exact .base (.bl _)
  | int => cases r; exact .base (.int _)
  | str => cases r; exact .base (.str _)
  | tup =>
    obtain ⟨p, vs, rfl, h1, _⟩ := tup_get A r
    rcases h1 with (h1 | ⟨o, h1⟩) | ⟨o, its, n, h1, h2, _⟩
    · exact .base (.tup h1)
    · exact .fTuple h1
    · exact .kTuple h1 h2
  | lst h =>
    obtain ⟨p, vs, rfl, h1, _⟩ := h.get A r
    exact .base (.lst h1)
  | dK h =>
    obtain ⟨p, vs, rfl, h1, _⟩ := h.get A r
    rcases h1 with h1 | ⟨o, h1⟩
    · exact .base (.dK h1)
    · exact .fDict h1
  | dT h =>
    cases r
    obtain ⟨o, _⟩ := A.own _ h
    cases o with
    | dT h1 _ => exact .base (.dT h1)
  | ob h c =>
    obtain ⟨p, dx, ws, rfl, h1, _⟩ := h.get A r
    exact .base (.ins h1 c.cl c.ha c.hn c.htk c.hm)
theorem cv_isTy {x : D} {t : Value} {n : String} {b : Bool} (hx : TyD M.C.K L x t) (hk : PySem.W.kitOne M.C.K t (.type n) = some b) (h : K (.bl b) L) : CallV M G L (.builtin "isinstance") [x, .v (.ty n)] K := by
  intro X S F σ H vs A r Q q
  obtain ⟨v, u, rfl, r1, r2⟩ := reps2 r
  cases r2
  have ty := hx.get A r1
  rw [S.ok.eK] at ty hk
  exact ⟨_, call_isi, v, .ty n, t, .type n, b, rfl, .ty n, ty, hk, q _ L _ F H h A (.v _) (Same.refl _)⟩
theorem cv_isCl {x : D} {t : Value} {C : Addr} {b : Bool} (hx : TyD M.C.K L x t) (hk : PySem.W.kitOne M.C.K t (.ref C) = some b) (h : K (.bl b) L) : CallV M G L (.builtin "isinstance") [x, .ref C] K := by
  intro X S F σ H vs A r Q q
  obtain ⟨v, u, rfl, r1, r2⟩ := reps2 r
  cases r2
  have ty := hx.get A r1
  rw [S.ok.eK] at ty hk
  exact ⟨_, call_isi, v, .ref C, t, .ref C, b, rfl, .own C, ty, hk, q _ L _ F H h A (.v _) (Same.refl _)⟩
/-! ### truth -/
theorem tr_non : TruD M G L .non false := fun F σ H v A r => by cases r; rfl
theorem tr_bl {b : Bool} : TruD M G L (.bl b) b := fun F σ H v A r => by cases r; rfl
theorem tr_int {i : Int} : TruD M G L (.int i) (i != 0) := fun F σ H v A r => by cases r; rfl
theorem tr_Q {x : D} {ds : List D} (hx : IsSq L x ds) : TruD M G L x (!ds.isEmpty) := fun F σ H v A r => by
  obtain ⟨p, vs, rfl, h1, h2⟩ := hx.get A r
  have e : ds.isEmpty = vs.isEmpty := by
    cases h2 <;> rfl
  rcases h1 with h1 | h1
  · exact .inl ⟨vs, h1, by rw [e]⟩
  · exact .inr (.inl ⟨vs, h1, by rw [e]⟩)
/-! ### methods of built-in types -/
theorem ev_bm0 {T id : String} {name : Str} {apos : Pos} {o : Expr} (pa : PlainAttrs T) (slot : Slot T name id) (hty : typeOf (.builtin id) = pure (.type "method_descriptor"))
    (h : Ev M G L o fun x L1 => (∀ F σ H v, M.at G L1 F σ H → Rep M.C.K F x v → tyV M.C.K T v H) ∧ MtV M G L1 id x [] K) (hbase : ∀ X : Cx, attributeBase o name X.env (eval o X.env) = eval o X.env := by intro _; rfl) (hline : (apos.endLine == pos.line) = true := by rfl) :
    Ev M G L (.Call (.Attribute o name apos) [] [] pos) K := by
  intro X S F σ H A Q q
  refine ⟨_, pe_bm0 pa slot hty bm be (hbase X) hline, ?_⟩
  refine h X S F σ H A _ fun x L1 v F1 H1 k1 A1 r1 s1 => ⟨by rw [← S.ok.eK]; exact k1.1 F1 σ H1 v A1 r1, ?_⟩
  exact k1.2 X S F1 σ H1 v [] A1 r1 .nil Q fun d L' v F' H' k' A' r' s' => q d L' v F' H' k' A' r' (s1.trans s')
theorem ev_bm {T id : String} {name : Str} {apos : Pos} {o e : Expr} {es : List Expr} (pa : PlainAttrs T) (slot : Slot T name id) (hty : typeOf (.builtin id) = pure (.type "method_descriptor"))
    (h : Ev M G L o fun x L1 => (∀ F σ H v, M.at G L1 F σ H → Rep M.C.K F x v → tyV M.C.K T v H) ∧ EvA M G L1 (e :: es) fun ds L2 => MtV M G L2 id x ds K) (hbase : ∀ X : Cx, attributeBase o name X.env (eval o X.env) = eval o X.env := by intro _; rfl)
    (hfew : ∀ X : Cx, ((backTo pos (starEach (e :: es) X.env)).all (fun x => !x.1) && (backToKw pos (keywordEach [] X.env)).all (fun x => x.1.isSome) && decide ((e :: es).length + ([] : List Keyword).length + (if ([] : List Keyword).isEmpty then 0 else 1) < 30)) = true := by intro _; rfl)
    (hline : (apos.endLine == pos.line) = true := by rfl) (hs : ∀ X : Cx, starEach (e :: es) X.env = (false, eval e X.env) :: starEach es X.env := by intro _; rfl) (hpl : ∀ X : Cx, (backTo pos (starEach es X.env)).any (·.1) = false := by intro _; rfl) :
    Ev M G L (.Call (.Attribute o name apos) (e :: es) [] pos) K := by
  intro X S F σ H A Q q
  refine ⟨_, pe_bm pa slot hty bm be ba (hbase X) (hfew X) hline (hs X) (hpl X), ?_⟩
  refine h X S F σ H A _ fun x L1 v F1 H1 k1 A1 r1 s1 => ⟨by rw [← S.ok.eK]; exact k1.1 F1 σ H1 v A1 r1, ?_⟩
  refine k1.2 X S F1 σ H1 A1 _ fun ds L2 vs F2 H2 k2 A2 r2 s2 => ?_
  exact k2 X S F2 σ H2 v vs A2 (r1.mono s2) r2 Q fun d L' v F' H' k' A' r' s' => q d L' v F' H' k' A' r' ((s1.trans s2).trans s')
theorem ty_lst {x : D} {ds : List D} (hx : IsL L x ds) : ∀ F σ H v, M.at G L F σ H → Rep M.C.K F x v → tyV M.C.K "list" v H := fun F σ H v A r => by
  obtain ⟨p, vs, rfl, h1, _⟩ := hx.get A r
  exact .inl ⟨rfl, vs, SqL.of h1⟩
theorem ty_str {z : Str} : ∀ F σ H v, M.at G L F σ H → Rep M.C.K F (.str z) v → tyV M.C.K "str" v H := fun F σ H v A r => by
  cases r
  rfl
/-- l.append(e) -/
theorem ev_append {apos : Pos} {o e : Expr} (h : Ev M G L o fun x L1 => ∃ l ds0, x = .ref l ∧ (l, OW.lst ds0) ∈ L1 ∧ Ev M G L1 e fun d L2 => ∃ ds L3, Chg L2 l (.lst ds) (.lst (ds ++ [d])) L3 ∧ ds.length < sizeLine ∧ K .non L3) (hbase : ∀ X : Cx, attributeBase o "append" X.env (eval o X.env) = eval o X.env := by intro _; rfl)
    (hfew : ∀ X : Cx, ((backTo pos (starEach [e] X.env)).all (fun x => !x.1) && (backToKw pos (keywordEach [] X.env)).all (fun x => x.1.isSome) && decide (([e] : List Expr).length + ([] : List Keyword).length + (if ([] : List Keyword).isEmpty then 0 else 1) < 30)) = true := by intro _; rfl)
    (hline : (apos.endLine == pos.line) = true := by rfl) (hs : ∀ X : Cx, starEach [e] X.env = (false, eval e X.env) :: starEach [] X.env := by intro _; rfl) : Ev M G L (.Call (.Attribute o "append" apos) [e] [] pos) K := by
  refine ev_bm PySem.F.plainAttrs_list PySem.F.slot_list_append PySem.F.type_list_append (h.imp fun x L1 ⟨l, ds0, ex, hm, h2⟩ => ?_) hbase hfew hline hs
  subst ex
  refine ⟨ty_lst (.own hm), ea_cons (h2.imp fun d L2 ⟨ds, L3, ch, hl, hk⟩ => ea_nil ?_) hs⟩
  intro X S F σ H v vs A r rs Q q
  cases r
  obtain ⟨y, rfl, ry⟩ := reps1 rs
  obtain ⟨ow, _, _⟩ := A.own _ ch.mem
  cases ow with
  | lst e1 e2 =>
    rename_i ws
    exact ⟨_, mt_append, l, ws, y, rfl, rfl, e1, by rw [← e2.length]; exact hl, q _ L3 _ F _ hk (A.chg ch (.lst upd_same (e2.snoc ry))) (.v _) (Same.refl _)⟩
/-- l.pop() -/
theorem ev_pop {apos : Pos} {o : Expr} (h : Ev M G L o fun x L1 => ∃ l ds d L2, x = .ref l ∧ Chg L1 l (.lst ds) (.lst ds.dropLast) L2 ∧ ds[ds.length - 1]? = some d ∧ K d L2) (hbase : ∀ X : Cx, attributeBase o "pop" X.env (eval o X.env) = eval o X.env := by intro _; rfl)
    (hline : (apos.endLine == pos.line) = true := by rfl) : Ev M G L (.Call (.Attribute o "pop" apos) [] [] pos) K := by
  refine ev_bm0 PySem.F.plainAttrs_list PySem.F.slot_list_pop PySem.F.type_list_pop (h.imp fun x L1 ⟨l, ds, d, L2, ex, ch, hd, hk⟩ => ?_) hbase hline
  subst ex
  refine ⟨ty_lst (.own ch.mem), ?_⟩
  intro X S F σ H v vs A r rs Q q
  cases r
  cases rs
  obtain ⟨ow, _, _⟩ := A.own _ ch.mem
  cases ow with
  | lst e1 e2 =>
    rename_i ws
    rw [e2.length] at hd
    obtain ⟨w, hw, rw'⟩ := e2.get hd
    refine ⟨_, mt_pop, l, ws, w, rfl, rfl, e1, hw, q _ L2 _ F _ hk (A.chg ch (.lst upd_same ?_)) rw' (Same.refl _)⟩
    rw [List.dropLast_eq_take, List.dropLast_eq_take, e2.length]
    exact e2.take _
/-- l.pop(0) -/
theorem ev_pop0 {apos p0 : Pos} {j : Nat} {o : Expr} (h : Ev M G L o fun x L1 => ∃ l d ds L2, x = .ref l ∧ Chg L1 l (.lst (d :: ds)) (.lst ds) L2 ∧ K d L2) (hbase : ∀ X : Cx, attributeBase o "pop" X.env (eval o X.env) = eval o X.env := by intro _; rfl)
    (hline : (apos.endLine == pos.line) = true := by rfl) : Ev M G L (.Call (.Attribute o "pop" apos) [.Constant (.int 0) j p0] [] pos) K := by
  refine ev_bm PySem.F.plainAttrs_list PySem.F.slot_list_pop PySem.F.type_list_pop (h.imp fun x L1 ⟨l, d, ds, L2, ex, ch, hk⟩ => ?_) hbase (fun _ => rfl) hline (fun _ => rfl) (fun _ => rfl)
  subst ex
  refine ⟨ty_lst (.own ch.mem), ea_cons (ev_int (ea_nil ?_)) (fun _ => rfl)⟩
  intro X S F σ H v vs A r rs Q q
  cases r
  obtain ⟨y, rfl, ry⟩ := reps1 rs
  cases ry
  obtain ⟨ow, _, _⟩ := A.own _ ch.mem
  cases ow with
  | lst e1 e2 =>
    cases e2 with
    | cons r1 t =>
      rename_i w ws
      refine ⟨_, mt_popAt, l, w :: ws, 0, 0, w, rfl, rfl, e1, by decide, by decide, ?_, rfl, q _ L2 _ F _ hk (A.chg ch (.lst upd_same t)) r1 (Same.refl _)⟩
      simp [seqIndex?]
/-- texts -/
theorem ev_split {apos : Pos} {o e : Expr} (h : Ev M G L o fun x L1 => ∃ a, x = .str a ∧ Ev M G L1 e fun y L2 => ∃ b, y = .str b ∧ (b.length == 0) = false ∧ a.length + 2 ≤ sizeLine ∧ ∀ p, K (.ref p) ((p, .lst ((Txt.split a b).map D.str)) :: L2))
    (hs : ∀ X : Cx, starEach [e] X.env = [(false, eval e X.env)] := by intro _; rfl) (hbase : ∀ X : Cx, attributeBase o "split" X.env (eval o X.env) = eval o X.env := by intro _; rfl) (hline : (apos.endLine == pos.line) = true := by rfl) :
    Ev M G L (.Call (.Attribute o "split" apos) [e] [] pos) K := by
  intro X S F σ H A Q q
  refine ⟨_, pe_split be be (hs X) (hbase X) hline, ?_⟩
  refine h X S F σ H A _ fun x L1 v F1 H1 k1 A1 r1 s1 => ?_
  obtain ⟨a, rfl, k1⟩ := k1
  cases r1
  refine ⟨⟨a, rfl⟩, ?_⟩
  refine k1 X S F1 σ H1 A1 _ fun y L2 u F2 H2 k2 A2 r2 s2 => ?_
  obtain ⟨b, rfl, h1, h2, hk⟩ := k2
  cases r2
  refine ⟨a, b, rfl, rfl, h1, h2, fun p hp => q _ _ _ F2 _ (hk p) (A2.new hp (.lst upd_same ?_)) (.v _) (s1.trans s2)⟩
  have e := RepA.of_flats (K := M.C.K) (F := F2) ((Txt.split a b).map V.str)
  rw [List.map_map] at e
  exact e
theorem ev_join {apos : Pos} {o e : Expr} (h : Ev M G L o fun x L1 => ∃ a, x = .str a ∧ Ev M G L1 e fun y L2 => ∃ ds, IsSq L2 y ds ∧ ds.all isStr = true ∧ ((ds.map strD).map (·.length)).sum + (ds.map strD).length * a.length ≤ 16777216 ∧ K (.str (Txt.join a (ds.map strD))) L2)
    (hs : ∀ X : Cx, starEach [e] X.env = [(false, eval e X.env)] := by intro _; rfl) (hbase : ∀ X : Cx, attributeBase o "join" X.env (eval o X.env) = eval o X.env := by intro _; rfl) (hline : (apos.endLine == pos.line) = true := by rfl) :
    Ev M G L (.Call (.Attribute o "join" apos) [e] [] pos) K := by
  intro X S F σ H A Q q
  refine ⟨_, pe_join be be (hs X) (hbase X) hline, ?_⟩
  refine h X S F σ H A _ fun x L1 v F1 H1 k1 A1 r1 s1 => ?_
  obtain ⟨a, rfl, k1⟩ := k1
  cases r1
  refine ⟨⟨a, rfl⟩, ?_⟩
  refine k1 X S F1 σ H1 A1 _ fun y L2 u F2 H2 k2 A2 r2 s2 => ?_
  obtain ⟨ds, hy, h1, h2, hk⟩ := k2
  obtain ⟨p, vs, rfl, h3, h4⟩ := hy.get A2 r2
  have e := reps_str h4 h1
  subst e
  exact ⟨a, p, _, rfl, rfl, by rw [← S.ok.eK]; exact h3, h2, q _ L2 _ F2 H2 hk A2 (.v _) (s1.trans s2)⟩
/-! ### slices -/
theorem ev_sl {e : Expr} {lo hi : Option Expr} {p2 : Pos} (h : Ev M G L e fun x L1 => EvP M G L1 lo fun i L2 => EvP M G L2 hi fun j L3 => SlV M G L3 x i j K) : Ev M G L (.Subscript e (.Slice lo hi none p2) pos) K := by
  intro X S F σ H A Q q
  have key : ∀ (F : Hp) (H : Hp) (x : D) (L1 : Led), M.at G L1 F σ H → EvP M G L1 lo (fun i L2 => EvP M G L2 hi fun j L3 => SlV M G L3 x i j K) → ∀ v, Rep M.C.K F x v → (∀ d L' v F' H', K d L' → M.at G L' F' σ H' → Rep M.C.K F' d v → Same F F' → Q v H') →
      (∃ tl, PO X lo tl ∧ tl σ H fun l H2 => ∃ th, PO X hi th ∧ th σ H2 fun u H3 => GSl X v l u H3 Q) := by
    intro F H x L1 A1 k1 v r1 q
    obtain ⟨tl, pl, hl⟩ := k1.go X S
    refine ⟨tl, pl, hl F σ H A1 _ fun i L2 F2 H2 k2 A2 s2 => ?_⟩
    obtain ⟨th, ph, hh⟩ := k2.go X S
    refine ⟨th, ph, hh F2 σ H2 A2 _ fun j L3 F3 H3 k3 A3 s3 => ?_⟩
    exact k3 X S F3 σ H3 v A3 (r1.mono (s2.trans s3)) Q fun d L' v F' H' k' A' r' s' => q d L' v F' H' k' A' r' ((s2.trans s3).trans s')
  refine ⟨tSl (GSl X) (GE X e) (fun σ H Q => ∃ t, PO X lo t ∧ t σ H Q) (fun σ H Q => ∃ t, PO X hi t ∧ t σ H Q), pe_slice bsl be ⟨fun pins s σ H Q I ⟨t, h, q⟩ => h.run pins s σ H Q I q⟩ ⟨fun pins s σ H Q I ⟨t, h, q⟩ => h.run pins s σ H Q I q⟩, ?_⟩
  refine h X S F σ H A _ fun x L1 v F1 H1 k1 A1 r1 s1 => ?_
  exact key F1 H1 x L1 A1 k1 v r1 fun d L' v F' H' k' A' r' s' => q d L' v F' H' k' A' r' (s1.trans s')
/-- the items of xs[lo:hi] -/
def cutD (xs : List D) (lo hi : Option Int) : List D := (xs.drop (HT.sIx xs.length 0 lo)).take (HT.sIx xs.length xs.length hi - HT.sIx xs.length 0 lo)
theorem sl_L {x : D} {ds : List D} {lo hi : Option Int} (hx : IsL L x ds) (h : ∀ p, K (.ref p) ((p, .lst (cutD ds lo hi)) :: L)) : SlV M G L x lo hi K := by
  intro X S F σ H v A r Q q
  obtain ⟨p, vs, rfl, h1, h2⟩ := hx.get A r
  refine ⟨_, sl_list, p, vs, rfl, SqL.of h1, fun l hl => q _ _ _ F _ (h l) (A.new hl (.lst upd_same ?_)) (.v _) (Same.refl _)⟩
  unfold cutD cutV
  rw [h2.length]
  exact (h2.drop _).take _
theorem sl_T {ds : List D} {lo hi : Option Int} (h : K (.tup (cutD ds lo hi)) L) : SlV M G L (.tup ds) lo hi K := by
  intro X S F σ H v A r Q q
  obtain ⟨p, vs, rfl, h1, h2⟩ := tup_get A r
  have e : RepA M.C.K F (cutD ds lo hi) (cutV vs lo hi) := by
    unfold cutD cutV
    rw [h2.length]
    exact (h2.drop _).take _
  refine ⟨_, sl_tupA, p, vs, rfl, by rw [← S.ok.eK]; exact h1, fun hw => ?_, fun hw l hl => ?_⟩
  · refine q _ L _ F H h A ?_ (Same.refl _)
    have ec : cutD ds lo hi = ds := by
      unfold cutD
      rw [h2.length, hw.1, hw.2, List.drop_zero, Nat.sub_zero, ← h2.length, List.take_length]
    rw [ec]
    exact r
  · obtain ⟨A2, s2⟩ := A.ice (o := .tup (cutV vs lo hi)) hl
    exact q _ L _ _ _ h A2 (.tup upd_same (e.mono s2)) s2
end
end TL

namespace TL
open PySem L2
theorem kt_int_int {K : PySem.W.Frag} : PySem.W.kitOne K (.type "int") (.type "int") = some true := kit_ty (by decide +kernel)
theorem kt_int_bool {K : PySem.W.Frag} : PySem.W.kitOne K (.type "int") (.type "bool") = some false := kit_ty (by decide +kernel)
theorem kt_bool_int {K : PySem.W.Frag} : PySem.W.kitOne K (.type "bool") (.type "int") = some true := kit_ty (by decide +kernel)
theorem kt_bool_bool {K : PySem.W.Frag} : PySem.W.kitOne K (.type "bool") (.type "bool") = some true := kit_ty (by decide +kernel)
theorem kt_str_str {K : PySem.W.Frag} : PySem.W.kitOne K (.type "str") (.type "str") = some true := kit_ty (by decide +kernel)
theorem kt_int_str {K : PySem.W.Frag} : PySem.W.kitOne K (.type "int") (.type "str") = some false := kit_ty (by decide +kernel)
theorem kt_str_int {K : PySem.W.Frag} : PySem.W.kitOne K (.type "str") (.type "int") = some false := kit_ty (by decide +kernel)
theorem kt_tuple_tuple {K : PySem.W.Frag} : PySem.W.kitOne K (.type "tuple") (.type "tuple") = some true := kit_ty (by decide +kernel)
theorem kt_nonetype_tuple {K : PySem.W.Frag} : PySem.W.kitOne K (.type "NoneType") (.type "tuple") = some false := kit_ty (by decide +kernel)
theorem kt_list_tuple {K : PySem.W.Frag} : PySem.W.kitOne K (.type "list") (.type "tuple") = some false := kit_ty (by decide +kernel)
theorem kt_dict_dict {K : PySem.W.Frag} : PySem.W.kitOne K (.type "dict") (.type "dict") = some true := kit_ty (by decide +kernel)
theorem kt_list_list {K : PySem.W.Frag} : PySem.W.kitOne K (.type "list") (.type "list") = some true := kit_ty (by decide +kernel)
theorem kt_tuple_list {K : PySem.W.Frag} : PySem.W.kitOne K (.type "tuple") (.type "list") = some false := kit_ty (by decide +kernel)
theorem kt_dict_list {K : PySem.W.Frag} : PySem.W.kitOne K (.type "dict") (.type "list") = some false := kit_ty (by decide +kernel)
theorem kt_list_dict {K : PySem.W.Frag} : PySem.W.kitOne K (.type "list") (.type "dict") = some false := kit_ty (by decide +kernel)
theorem kt_nonetype_list {K : PySem.W.Frag} : PySem.W.kitOne K (.type "NoneType") (.type "list") = some false := kit_ty (by decide +kernel)
theorem kt_nonetype_dict {K : PySem.W.Frag} : PySem.W.kitOne K (.type "NoneType") (.type "dict") = some false := kit_ty (by decide +kernel)
theorem kt_tuple_dict {K : PySem.W.Frag} : PySem.W.kitOne K (.type "tuple") (.type "dict") = some false := kit_ty (by decide +kernel)
theorem kt_str_tuple {K : PySem.W.Frag} : PySem.W.kitOne K (.type "str") (.type "tuple") = some false := kit_ty (by decide +kernel)
theorem kt_str_list {K : PySem.W.Frag} : PySem.W.kitOne K (.type "str") (.type "list") = some false := kit_ty (by decide +kernel)
theorem kt_str_dict {K : PySem.W.Frag} : PySem.W.kitOne K (.type "str") (.type "dict") = some false := kit_ty (by decide +kernel)
theorem kt_int_tuple {K : PySem.W.Frag} : PySem.W.kitOne K (.type "int") (.type "tuple") = some false := kit_ty (by decide +kernel)
theorem kt_int_list {K : PySem.W.Frag} : PySem.W.kitOne K (.type "int") (.type "list") = some false := kit_ty (by decide +kernel)
theorem kt_int_dict {K : PySem.W.Frag} : PySem.W.kitOne K (.type "int") (.type "dict") = some false := kit_ty (by decide +kernel)
theorem kt_dict_tuple {K : PySem.W.Frag} : PySem.W.kitOne K (.type "dict") (.type "tuple") = some false := kit_ty (by decide +kernel)
theorem kt_str_bool {K : PySem.W.Frag} : PySem.W.kitOne K (.type "str") (.type "bool") = some false := kit_ty (by decide +kernel)
theorem kt_nonetype_int {K : PySem.W.Frag} : PySem.W.kitOne K (.type "NoneType") (.type "int") = some false := kit_ty (by decide +kernel)
theorem kt_nonetype_str {K : PySem.W.Frag} : PySem.W.kitOne K (.type "NoneType") (.type "str") = some false := kit_ty (by decide +kernel)
theorem kt_nonetype_bool {K : PySem.W.Frag} : PySem.W.kitOne K (.type "NoneType") (.type "bool") = some false := kit_ty (by decide +kernel)
theorem kt_tuple_int {K : PySem.W.Frag} : PySem.W.kitOne K (.type "tuple") (.type "int") = some false := kit_ty (by decide +kernel)
theorem kt_tuple_str {K : PySem.W.Frag} : PySem.W.kitOne K (.type "tuple") (.type "str") = some false := kit_ty (by decide +kernel)
theorem kt_tuple_bool {K : PySem.W.Frag} : PySem.W.kitOne K (.type "tuple") (.type "bool") = some false := kit_ty (by decide +kernel)
theorem kt_list_int {K : PySem.W.Frag} : PySem.W.kitOne K (.type "list") (.type "int") = some false := kit_ty (by decide +kernel)
theorem kt_list_str {K : PySem.W.Frag} : PySem.W.kitOne K (.type "list") (.type "str") = some false := kit_ty (by decide +kernel)
theorem kt_list_bool {K : PySem.W.Frag} : PySem.W.kitOne K (.type "list") (.type "bool") = some false := kit_ty (by decide +kernel)
theorem kt_dict_int {K : PySem.W.Frag} : PySem.W.kitOne K (.type "dict") (.type "int") = some false := kit_ty (by decide +kernel)
theorem kt_dict_str {K : PySem.W.Frag} : PySem.W.kitOne K (.type "dict") (.type "str") = some false := kit_ty (by decide +kernel)
theorem kt_dict_bool {K : PySem.W.Frag} : PySem.W.kitOne K (.type "dict") (.type "bool") = some false := kit_ty (by decide +kernel)
theorem kt_bool_str {K : PySem.W.Frag} : PySem.W.kitOne K (.type "bool") (.type "str") = some false := kit_ty (by decide +kernel)
theorem kt_bool_tuple {K : PySem.W.Frag} : PySem.W.kitOne K (.type "bool") (.type "tuple") = some false := kit_ty (by decide +kernel)
theorem kt_bool_list {K : PySem.W.Frag} : PySem.W.kitOne K (.type "bool") (.type "list") = some false := kit_ty (by decide +kernel)
theorem kt_bool_dict {K : PySem.W.Frag} : PySem.W.kitOne K (.type "bool") (.type "dict") = some false := kit_ty (by decide +kernel)
def biNames : List Str := ["len", "isinstance", "range", "int", "str", "all", "any", "min", "max", "tuple", "list", "dict", "zip", "enumerate", "sum", "sorted", "bool"]
structure Bi (mg : Str → Option Value) : Prop where
  h : ∀ {x : Str}, biNames.contains x = true → mg x = none
/-! what a kernel's look decides -/
def visB (sc : Scope) (x : Str) : Bool := match sc.names.lookup x with
  | some .local => true
  | some .cell => true
  | some .free => true
  | _ => false
theorem vis_of {sc : Scope} {x : Str} (h : visB sc x = true) : Vis sc x := by
  unfold visB at h
  unfold Vis
  split at h
  · rename_i e; exact .inl e
  · rename_i e; exact .inr (.inl e)
  · rename_i e; exact .inr (.inr e)
  · cases h
theorem gl_by {C : Ctx} {x : Str} (h : C.sc.names.lookup x = some .globalImplicit) : GlC C x := h
def locB (sc : Scope) (df : Str → Bool) (x : Str) : Bool := match sc.names.lookup x with
  | some .local => true
  | some .cell => df x
  | _ => false
theorem loc_of {M : Mode} {x : Str} (h : locB M.C.sc M.C.df x = true) : Loc' M x := by
  unfold locB at h
  split at h
  · rename_i e; exact .inl e
  · rename_i e; exact .inr ⟨e, h⟩
  · cases h
theorem mem_of {N : List Str} {x : Str} (h : N.contains x = true) : x ∈ N := by simpa using h
end TL

namespace TL
open PySem L2
section
variable {M : Mode} {G : List (Option D)} {L : Led} {K : D → Led → Prop} {pos : Pos} {rest : List Stmt} {E : TD}
/-! ### dicts -/
/-- d[k] = e -/
theorem run_dput {o i e : Expr} {p : Pos} (hc : M.C.cm = true) (h : Ev M G L e fun d L1 => Ev M G L1 o fun x L2 => Ev M G L2 i fun y L3 => ∃ l kvs k L4, x = .ref l ∧ y = .v (kV k) ∧ Chg L3 l (.dK kvs) (.dK (putE kvs k d)) L4 ∧ kvs.length < sizeLine ∧ Run M G L4 rest E)
    (hs : ∀ X : Cx, swapsWith e (some (.Subscript o i p)) pos.line X.env = pure false := by intro _; rfl) : Run M G L (.Assign [.Subscript o i p] e pos :: rest) E := by
  intro X S F σ H A D o'
  refine gss_cons ⟨_, ps_dput (sit_hu S hc) be be be (hs X), ?_⟩
  refine h X S F σ H A _ fun d L1 v F1 H1 k1 A1 r1 s1 => ?_
  refine k1 X S F1 σ H1 A1 _ fun x L2 u F2 H2 k2 A2 r2 s2 => ?_
  refine k2 X S F2 σ H2 A2 _ fun y L3 w F3 H3 k3 A3 r3 s3 => ?_
  obtain ⟨l, kvs, k, L4, rfl, rfl, ch, hl, hr⟩ := k3
  cases r2; cases r3
  obtain ⟨ow, _, _⟩ := A3.own _ ch.mem
  cases ow with
  | dK e1 e2 =>
    rename_i ws
    refine ⟨l, _, rfl, DPut.k e1 (by rw [← e2.length]; exact hl), ?_⟩
    exact hr X S F3 σ _ (A3.chg ch (.dK upd_same (e2.put k (r1.mono (s2.trans s3))))) D o'
/-- {} -/
theorem ev_dnew (h : ∀ p, K (.ref p) ((p, .dK []) :: L)) : Ev M G L (.Dict [] [] pos) K := fun X S F σ H A Q q =>
  ⟨_, pe_dnewK, fun p hp => q _ _ _ F _ (h p) (A.new hp (.dK upd_same .nil)) (.v _) (Same.refl _)⟩
/-- d.get(k) -/
theorem ev_get1 {apos : Pos} {o e : Expr} (hc : M.C.cm = true) (h : Ev M G L o fun x L1 => ∃ kvs, IsK L1 x kvs ∧ Ev M G L1 e fun y L2 => ∃ k, IsK L2 x kvs ∧ y = .v (kV k) ∧ K ((valD kvs k).getD .non) L2)
    (m : ∀ X : Cx, M1 X o "get" apos e pos) : Ev M G L (.Call (.Attribute o "get" apos) [e] [] pos) K := by
  intro X S F σ H A Q q
  refine ⟨_, pe_dget1 (sit_hu S hc) be be (m X), ?_⟩
  refine h X S F σ H A _ fun x L1 v F1 H1 k1 A1 r1 s1 => ?_
  obtain ⟨kvs, hx, k1⟩ := k1
  obtain ⟨p, ws, rfl, h1, h2⟩ := hx.get A1 r1
  refine ⟨p, rfl, .inl ⟨ws, h1⟩, ?_⟩
  refine k1 X S F1 σ H1 A1 _ fun y L2 u F2 H2 k2 A2 r2 s2 => ?_
  obtain ⟨k, hx2, rfl, hk⟩ := k2
  cases r2
  obtain ⟨p', ws', e', h3, h4⟩ := hx2.get A2 (r1.mono s2)
  cases e'
  refine ⟨valV ws' k, .inl ⟨ws', k, h3, rfl, rfl⟩, ?_⟩
  refine q _ L2 _ F2 H2 hk A2 ?_ (s1.trans s2)
  obtain ⟨z1, z2⟩ := h4.val k
  cases e : valD kvs k with
  | none => rw [z2 e]; exact .v _
  | some d => obtain ⟨w, hw, rw'⟩ := z1 d e; rw [hw]; exact rw'
/-- d.get(k, x) -/
theorem ev_get2 {apos : Pos} {o e f : Expr} (hc : M.C.cm = true) (h : Ev M G L o fun x L1 => ∃ kvs, IsK L1 x kvs ∧ Ev M G L1 e fun y L2 => Ev M G L2 f fun z L3 => ∃ k, IsK L3 x kvs ∧ y = .v (kV k) ∧ K ((valD kvs k).getD z) L3)
    (m : ∀ X : Cx, M2 X o "get" apos e f pos) : Ev M G L (.Call (.Attribute o "get" apos) [e, f] [] pos) K := by
  intro X S F σ H A Q q
  refine ⟨_, pe_dget2 (sit_hu S hc) be be be (m X), ?_⟩
  refine h X S F σ H A _ fun x L1 v F1 H1 k1 A1 r1 s1 => ?_
  obtain ⟨kvs, hx, k1⟩ := k1
  obtain ⟨p, ws, rfl, h1, h2⟩ := hx.get A1 r1
  refine ⟨p, rfl, .inl ⟨ws, h1⟩, ?_⟩
  refine k1 X S F1 σ H1 A1 _ fun y L2 u F2 H2 k2 A2 r2 s2 => ?_
  refine k2 X S F2 σ H2 A2 _ fun z L3 w F3 H3 k3 A3 r3 s3 => ?_
  obtain ⟨k, hx2, rfl, hk⟩ := k3
  cases r2
  obtain ⟨p', ws', e', h3, h4⟩ := hx2.get A3 (r1.mono (s2.trans s3))
  cases e'
  refine ⟨valV ws' k, .inl ⟨ws', k, h3, rfl, rfl⟩, ?_⟩
  refine q _ L3 _ F3 H3 hk A3 ?_ ((s1.trans s2).trans s3)
  obtain ⟨z1, z2⟩ := h4.val k
  cases e : valD kvs k with
  | none => rw [z2 e]; exact r3
  | some d => obtain ⟨w, hw, rw'⟩ := z1 d e; rw [hw]; exact rw'
/-- {k: v, ..}, written -/
def EvPs (M : Mode) (G : List (Option D)) : List (Option Expr) → List Expr → Led → (List (D × D) → Led → Prop) → Prop
  | some k :: ks, v :: vs, L, KP => Ev M G L k fun x L1 => Ev M G L1 v fun y L2 => EvPs M G ks vs L2 fun ps L3 => KP ((x, y) :: ps) L3
  | [], [], L, KP => KP [] L
  | _, _, _, _ => False
inductive RepP (K : PySem.W.Frag) (F : Hp) : List (D × D) → List (V × V) → Prop
  | nil : RepP K F [] []
  | cons {a b : D} {x y : V} {l : List (D × D)} {m : List (V × V)} : Rep K F a x → Rep K F b y → RepP K F l m → RepP K F ((a, b) :: l) ((x, y) :: m)
theorem RepP.mono {Kk : PySem.W.Frag} {F F' : Hp} (s : Same F F') : ∀ {l : List (D × D)} {m : List (V × V)}, RepP Kk F l m → RepP Kk F' l m
  | _, _, .nil => .nil
  | _, _, .cons a b t => .cons (a.mono s) (b.mono s) (t.mono s)
def trsOf (X : Cx) : List (Option Expr) → List Expr → List (TE × TE)
  | some k :: ks, v :: vs => (GE X k, GE X v) :: trsOf X ks vs
  | _, _ => []
theorem pps_of {X : Cx} : ∀ {ks : List (Option Expr)} {vs : List Expr}, ks.length = vs.length → (∀ k ∈ ks, k.isSome = true) → PPs X pos ks vs (trsOf X ks vs)
  | [], [], _, _ => pps_nil
  | [], _ :: _, h, _ => nomatch h
  | _ :: _, [], h, _ => nomatch h
  | none :: _, _ :: _, _, h => absurd (h none List.mem_cons_self) (by decide)
  | some k :: ks, v :: vs, h, g => pps_cons be be (pps_of (Nat.succ.inj h) fun z hz => g z (List.mem_cons_of_mem _ hz))
theorem tPairs_go {X : Cx} (S : Sit M X) : ∀ {ks : List (Option Expr)} {vs : List Expr} {L : Led} {KP : List (D × D) → Led → Prop} {F : Hp} {σ : St} {H : Hp} {Q : List (V × V) → Hp → Prop}, EvPs M G ks vs L KP → M.at G L F σ H →
    (∀ ps L' vs F' H', KP ps L' → M.at G L' F' σ H' → RepP M.C.K F' ps vs → Same F F' → Q vs H') → tPairs (trsOf X ks vs) σ H Q
  | some k :: ks, v :: vs, L, KP, F, σ, H, Q, h, A, q => by
    show GE X k σ H fun x H1 => GE X v σ H1 fun y H2 => tPairs (trsOf X ks vs) σ H2 fun ps H3 => Q ((x, y) :: ps) H3
    refine h X S F σ H A _ fun d L1 x F1 H1 k1 A1 r1 s1 => ?_
    refine k1 X S F1 σ H1 A1 _ fun e L2 y F2 H2 k2 A2 r2 s2 => ?_
    refine tPairs_go S k2 A2 fun ps L' vs F' H' kk A' r' s' => ?_
    exact q _ L' _ F' H' kk A' (.cons (r1.mono (s2.trans s')) (r2.mono s') r') ((s1.trans s2).trans s')
  | [], [], L, KP, F, σ, H, Q, h, A, q => q [] L [] F H h A .nil (Same.refl _)
  | none :: _, _, _, _, _, _, _, _, h, _, _ => h.elim
  | some _ :: _, [], _, _, _, _, _, _, h, _, _ => h.elim
  | [], _ :: _, _, _, _, _, _, _, h, _, _ => h.elim
/-- what a display makes -/
def dispE (kvs : List (Key × D)) : List (Key × D) := kvs.foldl (fun acc kv => putE acc kv.1 kv.2) []
theorem RepK.fold {Kk : PySem.W.Frag} {F : Hp} : ∀ {more : List (Key × D)} {ws : List (Key × V)} {kvs : List (Key × D)} {us : List (Key × V)}, RepK Kk F more ws → RepK Kk F kvs us →
    RepK Kk F (more.foldl (fun acc kv => putE acc kv.1 kv.2) kvs) (ws.foldl (fun acc kv => putK acc kv.1 kv.2) us) := by
  intro more
  induction more with
  | nil => intro ws kvs us h g; cases h; exact g
  | cons a l ih =>
    intro ws kvs us h g
    cases h with
    | cons r t =>
      rw [List.foldl_cons, List.foldl_cons]
      exact ih t (g.put _ r)
theorem RepP.keys {Kk : PySem.W.Frag} {F : Hp} : ∀ {kvs : List (Key × D)} {vs : List (V × V)}, RepP Kk F (kvs.map fun kv => (.v (kV kv.1), kv.2)) vs → ∃ ws : List (Key × V), vs = ws.map (fun kv => (kV kv.1, kv.2)) ∧ RepK Kk F kvs ws
  | [], _, .nil => ⟨[], rfl, .nil⟩
  | (k, d) :: kvs, _, .cons a b t => by
    obtain ⟨ws, e, r⟩ := RepP.keys t
    exact ⟨(k, _) :: ws, by rw [a.flat, e]; rfl, .cons b r⟩
theorem ev_disp {ks : List (Option Expr)} {vs : List Expr} (h : ∀ p, EvPs M G ks vs ((p, .dK []) :: L) fun ps L' => ∃ kvs L2, ps = kvs.map (fun kv => (.v (kV kv.1), kv.2)) ∧ Chg L' p (.dK []) (.dK (dispE kvs)) L2 ∧ kvs.length ≤ 15 ∧ K (.ref p) L2)
    (hl : ks.length = vs.length := by rfl) (hall : ks.all (·.isSome) = true := by rfl) (h0 : ks ≠ [] := by exact List.cons_ne_nil _ _) (h15 : ks.length ≤ 15 := by decide) : Ev M G L (.Dict ks vs pos) K := by
  intro X S F σ H A Q q
  refine ⟨_, pe_disp (pps_of hl (fun k hk => List.all_eq_true.mp hall k hk)) hall hl h0 h15, fun p hp => ?_⟩
  refine tPairs_go S (h p) (A.new hp (.dK upd_same .nil)) fun ps L' us F' H' kk A' r' s' => ?_
  obtain ⟨kvs, L2, rfl, ch, hlen, hk⟩ := kk
  obtain ⟨ow, _, _⟩ := A'.own _ ch.mem
  obtain ⟨ws, rfl, rk⟩ := r'.keys
  cases ow with
  | dK e1 e2 =>
    cases e2
    refine ⟨e1, ws, rfl, by rw [← rk.length]; exact hlen, ?_⟩
    exact q _ L2 _ F' _ hk (A'.chg ch (.dK upd_same (rk.fold .nil))) (.v _) s'

/-! ### dict comprehensions -/
def DcInv (M : Mode) (G : List (Option D)) (vs : List Nat) (scope : Scope) (kx vx tg : Expr) (ifs : List Expr) (src : Led) (items : List D) (L1 : Led) (K : D → Led → Prop) : Prop :=
  ∃ I : Nat → List (Key × D) → Led → Prop, I 0 [] L1 ∧ (∀ i acc L', I i acc L' → (∀ s ∈ src, s ∈ L') ∧ acc.length < sizeLine) ∧
    (∀ F1 Dl i d acc L', items[i]? = some d → I i acc L' → TgtN ((M.fix F1).blk scope) (wipeG G vs) ((Dl, .dK acc) :: L') vs tg d fun G2 => TstI ((M.fix F1).blk scope) G2 ((Dl, .dK acc) :: L') ifs fun b L2 =>
      (b = true → Ev ((M.fix F1).blk scope) G2 L2 kx fun x L3 => Ev ((M.fix F1).blk scope) G2 L3 vx fun y L4 => ∃ (k : Key) (L5 : Led), x = .v (kV k) ∧ ((Dl, OW.dK acc) :: L5).Sublist L4 ∧ I (i + 1) (putE acc k y) L5) ∧
      (b = false → ∃ L5 : Led, ((Dl, OW.dK acc) :: L5).Sublist L2 ∧ I (i + 1) acc L5)) ∧
    ∀ acc L', I items.length acc L' → ∀ Dl, K (.ref Dl) ((Dl, .dK acc) :: L')
theorem dc_go {X : Cx} {kx vx tg iter : Expr} {ifs : List Expr} {scope : Scope} {own : List (Str × Nat)} {σ : St} {H F : Hp} {Q : VK} (S : Sit M X) (hc : M.C.cm = true) (A : M.at G L F σ H)
    (h : EvI1 M G X F σ H tg iter fun src items L1 => DcInv M G (own.map (·.2)) scope kx vx tg ifs src items L1 K) (q : Post M G F σ K Q) :
    tDc (GI X tg iter) (gB X scope tg) (tB X scope ifs) (eB X scope kx) (eB X scope vx) (own.map (·.2)) σ H Q := by
  refine h _ fun J src items L1 F1 H1 k1 g1 A1 s1 Dl hD => ?_
  obtain ⟨I, i0, isrc, turn, done⟩ := k1
  have S1 := S.fix A1
  have A1' : (M.fix F1).at G ((Dl, .dK []) :: L1) F1 σ (upd H1 Dl (.dK [])) := A1.fixed.new hD (.dK upd_same .nil)
  refine ⟨fun i m H' => m = items.length - i ∧ i ≤ items.length ∧ ∃ acc L' F', (M.fix F1).at G ((Dl, .dK acc) :: L') F' σ H' ∧ I i acc L', ⟨items.length, by simp, Nat.zero_le _, [], L1, F1, A1', i0⟩, ?_⟩
  rintro i m H' ⟨rfl, hi, acc, L', F', A', iv⟩
  obtain ⟨is1, is2⟩ := isrc i acc L' iv
  obtain ⟨q1, q2⟩ := g1 G _ F' σ H' A' (fun s hs => List.mem_cons_of_mem _ (is1 s hs)) i
  by_cases hlt : i < items.length
  · obtain ⟨go, yl⟩ := q1 items[i] (by simp [hlt])
    refine .inr ⟨go, fun H2 => ∃ acc L' F', (M.fix F1).at G ((Dl, .dK acc) :: L') F' σ H2 ∧ I (i + 1) acc L', fun H2 ⟨acc2, L2, F2, A2, iv2⟩ => ⟨items.length - (i + 1), by omega, rfl, hlt, acc2, L2, F2, A2, iv2⟩, fun x H2 y s0 Hz C cl fp => ?_⟩
    obtain ⟨F2, A2, r2⟩ := yl x H2 y
    have A2w : ((M.fix F1).blk scope).at (wipeG G (own.map (·.2))) ((Dl, .dK acc) :: L') F2 (wipe σ (own.map (·.2))) H2 := A2.envOf (wipe_rep A2.env _)
    refine turn F1 Dl i _ acc L' (by simp [hlt]) iv _ S1.blk F2 _ H2 x A2w r2 _ fun G3 σ3 k3 A3 hw => ?_
    have hww : wipe σ3 (own.map (·.2)) = wipe σ (own.map (·.2)) := hw.trans (wipe_wipe σ)
    refine ⟨hww, fun s0' Hz' C' cl' fp' => ?_⟩
    have back : ∀ {L5 : Led} {F5 H5 : Hp}, ((M.fix F1).blk scope).at G3 L5 F5 σ3 H5 → Same F2 F5 → (M.fix F1).at G L5 F5 σ H5 := fun {L5 F5 H5} B s => ⟨B.ef, B.eh, B.fh, B.nf, B.own, B.nd, A2.env.mono s⟩
    refine tstI_go k3 _ S1.blk F2 σ3 H2 A3 _ fun b L4 F4 H4 k4 A4 s4 => ?_
    cases b with
    | true =>
      rw [if_pos rfl]
      intro s0'' Hz'' C'' cl'' fp''
      refine k4.1 rfl _ S1.blk F4 σ3 H4 A4 _ fun z L5 w F5 H5 k5 A5 r5 s5 => ?_
      intro s09 Hz9 C9 cl9 fp9
      refine k5 _ S1.blk F5 σ3 H5 A5 _ fun z2 L6 w2 F6 H6 k6 A6 r6 s6 => ?_
      obtain ⟨k, L7, rfl, sub, iv6⟩ := k6
      cases r5
      have A7 := (back A6 ((s4.trans s5).trans s6)).drop sub
      obtain ⟨ow, _, _⟩ := A7.own _ List.mem_cons_self
      cases ow with
      | dK e1 e2 =>
        rename_i ws
        refine ⟨ws, k, rfl, e1, by rw [← e2.length]; exact is2, ?_⟩
        exact ⟨_, L7, F6, A7.chg .here (.dK upd_same (e2.put k r6)), iv6⟩
    | false =>
      rw [if_neg Bool.false_ne_true]
      obtain ⟨L6, sub, iv6⟩ := k4.2 rfl
      exact ⟨acc, L6, F4, (back A4 s4).drop sub, iv6⟩
  · have e : i = items.length := by omega
    subst e
    exact .inl ⟨q2 (Nat.le_refl _), q _ _ _ F' H' (done acc L' iv Dl) (A1.unfix A') (.v _) (s1.trans A'.ef)⟩
theorem ev_dc {kx vx tg iter : Expr} {ifs : List Expr} {scope : Scope} (own : List (Str × Nat)) (hc : M.C.cm = true) (ok : blkC M.C.N M.C.sc scope own = true)
    (h : EvI M G L tg iter fun src items L1 => DcInv M G (own.map (·.2)) scope kx vx tg ifs src items L1 K)
    (hs : ∀ (X : Cx) x, foldedSetIterable iter X.env x = pure x := by intro _ _; rfl) : Ev M G L (.DictComp kx vx [⟨tg, iter, ifs, 0⟩] scope pos) K := by
  intro X S F σ H A Q q
  refine ⟨_, pe_dc (S.ok.calm hc) (by rw [← S.ok.eN]; exact S.ok.nd) bi (by rw [← S.ok.eN, ← S.ok.es]; exact blkOk_by ok) gB_ok tB_ok eB_ok eB_ok (hs X), ?_⟩
  exact dc_go S hc A (h X S F σ H A) q

/-! ### a dict walked: locked while it is walked -/
@[reducible] def Mode.lok (M : Mode) (H0 F0 : Hp) : Mode := { M with H0 := H0, F0 := F0, T := fun _ _ _ => False }
theorem Sit.lok {X : Cx} (S : Sit M X) (H0 F0 : Hp) : Sit (M.lok H0 F0) X := by
  obtain ⟨ok, W, tk, _⟩ := S
  exact ⟨ok, W, tk, fun _ _ _ _ _ _ _ _ h => h.elim⟩
section
variable {Kk : PySem.W.Frag} {H0 F0 F F' H H' : Hp} {G' : List (Option D)} {L' : Led} {σ σ' : St} {p : Addr} {u : HO} {od : Obj}
theorem At.locked (a : At Kk H0 F0 G L F σ H) (hF : F p = some u) (hd : (∃ ws, u = .dK ws) ∨ ∃ ws, u = .dT ws) : At Kk (less H0 [p]) (upd F p (.frz od u)) G L (upd F p (.frz od u)) σ (upd H p (.frz od u)) := by
  have kp : Kp F (upd F p (.frz od u)) := by
    refine ⟨fun b v hv h => ?_, fun b xs h => ?_, fun b xs h => ?_, fun b C dx fs h => ?_⟩
    · by_cases e : b = p
      · subst e
        rcases h with h | ⟨o, h⟩
        · rw [hF] at h; cases h; exact .inr ⟨od, upd_same⟩
        · rw [hF] at h; rcases hd with ⟨ws, rfl⟩ | ⟨ws, rfl⟩ <;> cases h
      · exact h.elim (fun h => .inl (by rw [upd_ne e]; exact h)) fun ⟨o, h⟩ => .inr ⟨o, by rw [upd_ne e]; exact h⟩
    · by_cases e : b = p
      · subst e; rw [hF] at h; rcases hd with ⟨ws, rfl⟩ | ⟨ws, rfl⟩ <;> cases h
      · rw [upd_ne e]; exact h
    · by_cases e : b = p
      · subst e; rw [hF] at h; rcases hd with ⟨ws, rfl⟩ | ⟨ws, rfl⟩ <;> cases h
      · rw [upd_ne e]; exact h
    · by_cases e : b = p
      · subst e; rw [hF] at h; rcases hd with ⟨ws, rfl⟩ | ⟨ws, rfl⟩ <;> cases h
      · rw [upd_ne e]; exact h
  refine ⟨Same.refl _, fun b o h => ?_, fun b o h => ?_, fun _ _ _ _ h => h, fun q hq => ?_, a.nd, a.env.keep kp⟩
  · obtain ⟨h1, h2⟩ := less_some h
    rw [upd_ne (fun e => h1 (by rw [e]; exact List.mem_cons_self))]
    exact a.eh b o h2
  · by_cases e : b = p
    · subst e; rw [upd_same] at h ⊢; exact h
    · rw [upd_ne e] at h ⊢; exact a.fh b o h
  · obtain ⟨x, y, z⟩ := a.own q hq
    have ne : q.1 ≠ p := fun e => by rw [e, hF] at y; cases y
    refine ⟨?_, by rw [upd_ne ne]; exact y, ?_⟩
    · have go : ∀ {l : Addr} {o : OW}, OwnAt Kk F H l o → l ≠ p → OwnAt Kk (upd F p (.frz od u)) (upd H p (.frz od u)) l o := by
        intro l o x ne
        cases x with
        | lst e r => exact .lst (by rw [upd_ne ne]; exact e) (r.keep kp)
        | dK e r => exact .dK (by rw [upd_ne ne]; exact e) (r.keep kp)
        | dT e r => exact .dT (by rw [upd_ne ne]; exact e) (r.keep kp)
        | ins e r => exact .ins (by rw [upd_ne ne]; exact e) (r.keep kp)
      exact go x ne
    · cases w : less H0 [p] q.1 with
      | none => rfl
      | some o => rw [(less_some w).2] at z; cases z
theorem At.unlocked (a : At Kk H0 F0 G L F σ H) (hF : F p = some u) (hd : (∃ ws, u = .dK ws) ∨ ∃ ws, u = .dT ws) (b : At Kk (less H0 [p]) (upd F p (.frz od u)) G' L' F' σ' H') :
    F' p = some (.frz od u) ∧ Same F (upd F' p u) ∧ Kp F' (upd F' p u) ∧ At Kk H0 F0 G' L' (upd F' p u) σ' (upd H' p u) := by
  have hp : F' p = some (.frz od u) := b.ef _ _ upd_same
  have nu : ∀ o v, u ≠ .frz o v := fun o v e => by rcases hd with ⟨ws, rfl⟩ | ⟨ws, rfl⟩ <;> cases e
  have kp : Kp F' (upd F' p u) := by
    refine ⟨fun c v hv h => ?_, fun c xs h => ?_, fun c xs h => ?_, fun c C dx fs h => ?_⟩
    · by_cases e : c = p
      · subst e
        rcases h with h | ⟨o, h⟩
        · rw [hp] at h; cases h; exact absurd rfl (hv _ _)
        · rw [hp] at h; cases h; exact .inl upd_same
      · exact h.elim (fun h => .inl (by rw [upd_ne e]; exact h)) fun ⟨o, h⟩ => .inr ⟨o, by rw [upd_ne e]; exact h⟩
    · by_cases e : c = p
      · subst e; rw [hp] at h; cases h
      · rw [upd_ne e]; exact h
    · by_cases e : c = p
      · subst e; rw [hp] at h; cases h
      · rw [upd_ne e]; exact h
    · by_cases e : c = p
      · subst e; rw [hp] at h; cases h
      · rw [upd_ne e]; exact h
  have s : Same F (upd F' p u) := fun c o h => by
    by_cases e : c = p
    · subst e; rw [upd_same, ← hF]; exact h
    · rw [upd_ne e]; exact b.ef c o (by rw [upd_ne e]; exact h)
  refine ⟨hp, s, kp, a.ef.trans s, fun c o h => ?_, fun c o h => ?_, fun c o h1 ht h2 => ?_, fun q hq => ?_, b.nd, b.env.keep kp⟩
  · by_cases e : c = p
    · subst e; rw [upd_same, ← a.fh _ _ hF]; exact a.eh _ _ h
    · rw [upd_ne e]; exact b.eh c o (by rw [less_out (by simpa using e)]; exact h)
  · by_cases e : c = p
    · subst e; rw [upd_same] at h ⊢; exact h
    · rw [upd_ne e] at h ⊢; exact b.fh c o h
  · by_cases e : c = p
    · subst e
      have := a.nf _ o h1 ht h2
      rw [hF] at this; cases this
    · rw [upd_ne e]
      exact b.nf c o (by rw [less_out (by simpa using e)]; exact h1) ht (by rw [upd_ne e]; exact a.nf c o h1 ht h2)
  · obtain ⟨x, y, z⟩ := b.own q hq
    have ne : q.1 ≠ p := fun e => by rw [e, hp] at y; cases y
    refine ⟨?_, by rw [upd_ne ne]; exact y, ?_⟩
    · have go : ∀ {l : Addr} {o : OW}, OwnAt Kk F' H' l o → l ≠ p → OwnAt Kk (upd F' p u) (upd H' p u) l o := by
        intro l o x ne
        cases x with
        | lst e r => exact .lst (by rw [upd_ne ne]; exact e) (r.keep kp)
        | dK e r => exact .dK (by rw [upd_ne ne]; exact e) (r.keep kp)
        | dT e r => exact .dT (by rw [upd_ne ne]; exact e) (r.keep kp)
        | ins e r => exact .ins (by rw [upd_ne ne]; exact e) (r.keep kp)
      exact go x ne
    · cases w : H0 q.1 with
      | none => rfl
      | some o => rw [less_out (by simpa using ne)] at z; rw [z] at w; cases w
end
/-- e leads to the dict at p, and still does while that is locked -/
def Path (M : Mode) (G : List (Option D)) (L : Led) (e : Expr) (kvs : List (Key × D)) : Prop := ∀ X, Sit M X → ∀ F σ H, M.at G L F σ H → ∃ p ws, Rd F p (.dK ws) ∧ RepK M.C.K F kvs ws ∧ (∀ Q : VK, Q (.ref p) H → GE X e σ H Q) ∧
  ∀ od, F p = some (.dK ws) → ∀ Q : VK, Q (.ref p) (upd H p (.frz od (.dK ws))) → GE X e σ (upd H p (.frz od (.dK ws))) Q
theorem path_name {x : Str} {kvs : List (Key × D)} (hl : Look M.C.N G x (some (.dK kvs))) (hv : Vis M.C.sc x) (hd : (x == ("__debug__" : Str)) = false := by decide +kernel) (hcd : (x == ("__classdict__" : Str)) = false := by decide +kernel) : Path M G L (.Name x pos) kvs := by
  intro X S F σ H a
  obtain ⟨i, h1, h2⟩ := hl.ix
  obtain ⟨v, h3, r⟩ := a.env.get h2
  cases r with
  | dK r1 r2 =>
    refine ⟨_, _, r1, r2, fun Q q => ⟨tVar i, pe_var (by rw [← S.ok.eN]; exact h1) (by rw [← S.ok.es]; exact hv) hd hcd, _, h3, q⟩, fun od _ Q q => ⟨tVar i, pe_var (by rw [← S.ok.eN]; exact h1) (by rw [← S.ok.es]; exact hv) hd hcd, _, h3, q⟩⟩
/-- name.f, the name an instance -/
theorem path_fld {x f : Str} {p2 : Pos} {Cc : Addr} {y : D} {fs : List (Str × D)} {kvs : List (Key × D)} (c : Cls M.C.K Cc) (n : NoAttr M.C.K Cc f) (hl : Look M.C.N G x (some y)) (ho : IsO L y Cc fs) (hf : fs.lookup f = some (.dK kvs)) (hv : Vis M.C.sc x) (hd : (x == ("__debug__" : Str)) = false := by decide +kernel) (hcd : (x == ("__classdict__" : Str)) = false := by decide +kernel)
    (hb : ∀ X : Cx, attributeBase (.Name x p2) f X.env (eval (.Name x p2) X.env) = eval (.Name x p2) X.env := by intro _; rfl) : Path M G L (.Attribute (.Name x p2) f pos) kvs := by
  intro X S F σ H a
  obtain ⟨i, h1, h2⟩ := hl.ix
  obtain ⟨v, h3, r⟩ := a.env.get h2
  obtain ⟨q, dx, ws, rfl, e1, e2⟩ := ho.get a r
  obtain ⟨w, hw, rw'⟩ := e2.lookup hf
  have pe : ∀ Q : VK, ∀ H', (∃ v0, σ[i]? = some (some v0) ∧ Q v0 H') → GE X (.Name x p2) σ H' Q := fun Q H' h => ⟨tVar i, pe_var (by rw [← S.ok.eN]; exact h1) (by rw [← S.ok.es]; exact hv) hd hcd, h⟩
  rw [S.ok.eK] at c n
  cases rw' with
  | dK r1 r2 =>
    rename_i p us
    refine ⟨p, us, r1, r2, fun Q hq => ⟨_, pe_fld be (hb X), ?_⟩, fun od hF Q hq => ⟨_, pe_fld be (hb X), ?_⟩⟩
    · exact pe _ _ ⟨_, h3, q, Cc, dx, ws, _, rfl, e1, c, n, hw, hq⟩
    · have ne : q ≠ p := fun e => by
        have := a.fh _ _ hF
        rw [← e, e1] at this
        cases this
      exact pe _ _ ⟨_, h3, q, Cc, dx, ws, _, rfl, by rw [upd_ne ne]; exact e1, c, n, hw, hq⟩
def keysD (kvs : List (Key × D)) : List D := kvs.map fun kv => .v (kV kv.1)
/-- in the locked mode the walk is one through the keys -/
theorem keys_go {X : Cx} {F H : Hp} {σ : St} {tg e : Expr} {p : Addr} {od : Obj} {ws : List (Key × V)} {kvs : List (Key × D)} {K : Led → List D → Led → Prop} (hk : K [] (keysD kvs) L) (r : RepK M.C.K F kvs ws) (A : M.at G L F σ H) (hF : F p = some (.frz od (.dK ws)))
    (h : ∀ Q : VK, Q (.ref p) H → GE X e σ H Q) : EvI1 M G X F σ H tg e K := by
  intro R q
  have rk : ∀ {kvs : List (Key × D)} {ws : List (Key × V)}, RepK M.C.K F kvs ws → keysD kvs = ws.map fun kv => .v (kV kv.1) := by
    intro kvs ws r
    induction kvs generalizing ws with
    | nil => cases r; rfl
    | cons a l ih => cases r with
      | cons r1 r2 =>
        show (.v (kV _) : D) :: keysD _ = _
        rw [ih r2]
        rfl
  refine ⟨_, pi_keys be, h _ ⟨p, od, rfl, .inl ⟨ws, A.fh _ _ hF, q _ [] _ L F H hk (fun G' L' F' σ' H' A' _ i => ?_) A (Same.refl _)⟩⟩⟩
  have hH : H' p = some (.frz od (.dK ws)) := A'.fh _ _ (A'.ef _ _ hF)
  rw [rk r]
  refine ⟨fun d hd => ?_, fun hi => ⟨hH, by simpa using hi⟩⟩
  rw [List.getElem?_map] at hd
  cases e1 : ws[i]? with
  | none => rw [e1] at hd; cases hd
  | some kv =>
    rw [e1] at hd
    cases hd
    refine ⟨⟨hH, (List.getElem?_eq_some_iff.mp e1).1⟩, fun x H2 ⟨e2, k, v, e3, e4⟩ => ?_⟩
    rw [e1] at e3
    cases e3
    subst e2 e4
    exact ⟨F', A', .v _⟩
theorem kp_lock {Kk : PySem.W.Frag} {F : Hp} {p : Addr} {u : HO} {od : Obj} (hF : F p = some u) (hd : (∃ ws, u = .dK ws) ∨ ∃ ws, u = .dT ws) : Kp F (upd F p (.frz od u)) := by
  refine ⟨fun b v hv h => ?_, fun b xs h => ?_, fun b xs h => ?_, fun b C dx fs h => ?_⟩
  · by_cases e : b = p
    · subst e
      rcases h with h | ⟨o, h⟩
      · rw [hF] at h; cases h; exact .inr ⟨od, upd_same⟩
      · rw [hF] at h; rcases hd with ⟨ws, rfl⟩ | ⟨ws, rfl⟩ <;> cases h
    · exact h.elim (fun h => .inl (by rw [upd_ne e]; exact h)) fun ⟨o, h⟩ => .inr ⟨o, by rw [upd_ne e]; exact h⟩
  · by_cases e : b = p
    · subst e; rw [hF] at h; rcases hd with ⟨ws, rfl⟩ | ⟨ws, rfl⟩ <;> cases h
    · rw [upd_ne e]; exact h
  · by_cases e : b = p
    · subst e; rw [hF] at h; rcases hd with ⟨ws, rfl⟩ | ⟨ws, rfl⟩ <;> cases h
    · rw [upd_ne e]; exact h
  · by_cases e : b = p
    · subst e; rw [hF] at h; rcases hd with ⟨ws, rfl⟩ | ⟨ws, rfl⟩ <;> cases h
    · rw [upd_ne e]; exact h
theorem run_forK {tg iter : Expr} {body : List Stmt} {kvs : List (Key × D)} (hlp : M.C.lp = true) (hc : M.C.cm = true) (hp : Path M G L iter kvs)
    (h : ∀ H0 F0, ForInv (M.lok H0 F0) G tg body { E with nx := fun G' L' => Run M G' L' rest E } [] (keysD kvs) L)
    (hs : ∀ (X : Cx) x, foldedSetIterable iter X.env x = pure x := by intro _ _; rfl) : Run M G L (.For tg iter body [] pos :: rest) E := by
  intro X S F σ H A D o
  obtain ⟨p, ws, rd, r, g1, g2⟩ := hp X S F σ H A
  rcases rd with hF | ⟨od, hF⟩
  · refine gss_cons ⟨_, ps_lock (ps_for (S.ok.po hlp) (S.ok.calm hc) bi bg bss (hs X)), p, .dK ws, A.fh _ _ hF, True.intro, fun od => ?_⟩
    have A2 := A.locked (od := od) hF (.inl ⟨ws, rfl⟩)
    have kp := kp_lock (Kk := M.C.K) (od := od) hF (.inl ⟨ws, rfl⟩)
    have ev := keys_go (M := M.lok (less M.H0 [p]) (upd F p (.frz od (.dK ws)))) (tg := tg) (K := fun src items L1 => ForInv (M.lok (less M.H0 [p]) (upd F p (.frz od (.dK ws)))) G tg body { E with nx := fun G' L' => Run M G' L' rest E } src items L1) (h _ _) (r.keep kp) A2 upd_same (g2 od hF)
    have un : ∀ {G' : List (Option TL.D)} {L' : Led} {F' : Hp} {σ' : St} {H' : Hp}, (M.lok (less M.H0 [p]) (upd F p (.frz od (.dK ws)))).at G' L' F' σ' H' → H' p = some (.frz od (.dK ws)) ∧ Kp F' (upd F' p (.dK ws)) ∧ M.at G' L' (upd F' p (.dK ws)) σ' (upd H' p (.dK ws)) := fun B => by
      obtain ⟨u1, u2, u3, u4⟩ := A.unlocked hF (.inl ⟨ws, rfl⟩) B
      exact ⟨B.fh _ _ u1, u3, u4⟩
    exact for_go (S.lok _ _) A2 ev ⟨fun G' L' F' σ' H' k B => let ⟨a, b, c⟩ := un B; ⟨a, k X S _ σ' _ c D o⟩, fun d G' L' v F' σ' H' k B r => let ⟨a, b, c⟩ := un B; ⟨a, o.rt d G' L' v _ σ' _ k c (r.keep b)⟩,
        fun G' L' F' σ' H' k B => let ⟨a, b, c⟩ := un B; ⟨a, o.bk G' L' _ σ' _ k c⟩, fun G' L' F' σ' H' k B => let ⟨a, b, c⟩ := un B; ⟨a, o.ct G' L' _ σ' _ k c⟩⟩
  · have A2 : (M.lok M.H0 M.F0).at G L F σ H := A
    have ev := keys_go (M := M.lok M.H0 M.F0) (tg := tg) (K := fun src items L1 => ForInv (M.lok M.H0 M.F0) G tg body { E with nx := fun G' L' => Run M G' L' rest E } src items L1) (h _ _) r A2 hF g1
    have o2 := o.seq S (rest := rest)
    exact gss_cons ⟨_, ps_for (S.ok.po hlp) (S.ok.calm hc) bi bg bss (hs X), for_go (S.lok _ _) A2 ev ⟨o2.nx, o2.rt, o2.bk, o2.ct⟩⟩
/-- [.. for x in a dict ..] -/
theorem ev_lcK {elt tg iter : Expr} {ifs : List Expr} {scope : Scope} {kvs : List (Key × TL.D)} (own : List (Str × Nat)) (hc : M.C.cm = true) (ok : blkC M.C.N M.C.sc scope own = true) (hp : Path M G L iter kvs)
    (h : ∀ H0 F0, LcInv (M.lok H0 F0) G (own.map (·.2)) scope elt tg ifs [] (keysD kvs) L K)
    (hs : ∀ (X : Cx) x, foldedSetIterable iter X.env x = pure x := by intro _ _; rfl) : Ev M G L (.ListComp elt [⟨tg, iter, ifs, 0⟩] scope pos) K := by
  intro X S F σ H A Q q
  obtain ⟨p, ws, rd, r, g1, g2⟩ := hp X S F σ H A
  have pe := pe_lc (X := X) (elt := elt) (tg := tg) (iter := iter) (ifs := ifs) (scope := scope) (own := own) (pos := pos) (S.ok.calm hc) (by rw [← S.ok.eN]; exact S.ok.nd) bi (by rw [← S.ok.eN, ← S.ok.es]; exact blkOk_by ok) gB_ok tB_ok eB_ok (hs X)
  rcases rd with hF | ⟨od, hF⟩
  · refine ⟨_, pe_lock pe, p, .dK ws, A.fh _ _ hF, True.intro, fun od => ?_⟩
    have A2 := A.locked (od := od) hF (.inl ⟨ws, rfl⟩)
    have kp := kp_lock (Kk := M.C.K) (od := od) hF (.inl ⟨ws, rfl⟩)
    have ev := keys_go (M := M.lok (less M.H0 [p]) (upd F p (.frz od (.dK ws)))) (tg := tg) (K := fun src items L1 => LcInv (M.lok (less M.H0 [p]) (upd F p (.frz od (.dK ws)))) G (own.map (·.2)) scope elt tg ifs src items L1 K) (h _ _) (r.keep kp) A2 upd_same (g2 od hF)
    refine lc_go (S.lok _ _) hc A2 ev fun d L' v F' H' k B rv _ => ?_
    obtain ⟨u1, u2, u3, u4⟩ := A.unlocked hF (.inl ⟨ws, rfl⟩) B
    exact ⟨B.fh _ _ u1, q d L' v _ _ k u4 (rv.keep u3) u2⟩
  · have A2 : (M.lok M.H0 M.F0).at G L F σ H := A
    have ev := keys_go (M := M.lok M.H0 M.F0) (tg := tg) (K := fun src items L1 => LcInv (M.lok M.H0 M.F0) G (own.map (·.2)) scope elt tg ifs src items L1 K) (h _ _) r A2 hF g1
    exact ⟨_, pe, lc_go (S.lok _ _) hc A2 ev q⟩
theorem run_setlcK {x : Str} {p2 : Pos} {elt tg iter : Expr} {ifs : List Expr} {scope : Scope} {spos : Pos} {kvs : List (Key × TL.D)} (own : List (Str × Nat)) (hc : M.C.cm = true) (hx : M.C.sc.names.lookup x = some .local) (hn : x ∈ M.C.N) (ok : blkC M.C.N M.C.sc scope own = true) (hp : Path M G L iter kvs)
    (h : ∀ H0 F0, LcInv (M.lok H0 F0) G (own.map (·.2)) scope elt tg ifs [] (keysD kvs) L fun d L2 => ∃ G', Put M.C.N G x (some d) G' ∧ Run M G' L2 rest E)
    (hkind : M.C.sc.kind = .function) (hl : (p2.line == pos.line) = true) (ha : (scope.names.any fun (n, k) => n == x && (k == .local || k == .cell)) = false)
    (hs : ∀ (X : Cx) x, foldedSetIterable iter X.env x = pure x := by intro _ _; rfl) : Run M G L (.Assign [.Name x p2] (.ListComp elt [⟨tg, iter, ifs, 0⟩] scope pos) spos :: rest) E := by
  intro X S F σ H A D o
  obtain ⟨i, hi⟩ := List.getElem?_of_mem hn
  have nd : X.N.Nodup := by rw [← S.ok.eN]; exact S.ok.nd
  have lx : X.env.scope.names.lookup x = some .local := by rw [← S.ok.es]; exact hx
  rw [S.ok.eN] at hi
  obtain ⟨p, ws, rd, r, g1, g2⟩ := hp X S F σ H A
  have ps := ps_setLc (X := X) (y := x) (py := p2) (elt := elt) (tg := tg) (iter := iter) (ifs := ifs) (scope := scope) (own := own) (i := i) (spos := spos) (pos := pos) (S.ok.calm hc) nd hi lx (sw_true (by rw [← S.ok.es]; exact hkind) lx hl ha) bi (by rw [← S.ok.eN, ← S.ok.es]; exact blkOk_by ok) gB_ok tB_ok eB_ok (hs X)
  have fin : ∀ {d : TL.D} {L2 : Led} {v : V} {F2 H2 : Hp}, (∃ G', Put M.C.N G x (some d) G' ∧ Run M G' L2 rest E) → M.at G L2 F2 σ H2 → Rep M.C.K F2 d v → GSs X rest D (σ.set i (some v)) H2 := by
    intro d L2 v F2 H2 k2 A2 r2
    obtain ⟨G', hp, hr⟩ := k2
    obtain ⟨j, hj, rfl⟩ := hp.ix
    rw [S.ok.eN] at hj
    have e : j = i := nodup_ix nd hj hi
    subst e
    exact hr X S F2 _ H2 (A2.set r2) D o
  rcases rd with hF | ⟨od, hF⟩
  · refine gss_cons ⟨_, ps_lock ps, p, .dK ws, A.fh _ _ hF, True.intro, fun od => ?_⟩
    have A2 := A.locked (od := od) hF (.inl ⟨ws, rfl⟩)
    have kp := kp_lock (Kk := M.C.K) (od := od) hF (.inl ⟨ws, rfl⟩)
    have ev := keys_go (M := M.lok (less M.H0 [p]) (upd F p (.frz od (.dK ws)))) (tg := tg) (K := fun src items L1 => LcInv (M.lok (less M.H0 [p]) (upd F p (.frz od (.dK ws)))) G (own.map (·.2)) scope elt tg ifs src items L1 fun d L2 => ∃ G', Put M.C.N G x (some d) G' ∧ Run M G' L2 rest E) (h _ _) (r.keep kp) A2 upd_same (g2 od hF)
    refine lc_go (S.lok _ _) hc A2 ev fun d L' v F' H' k B rv _ => ?_
    obtain ⟨u1, u2, u3, u4⟩ := A.unlocked hF (.inl ⟨ws, rfl⟩) B
    exact ⟨B.fh _ _ u1, fin k u4 (rv.keep u3)⟩
  · have A2 : (M.lok M.H0 M.F0).at G L F σ H := A
    have ev := keys_go (M := M.lok M.H0 M.F0) (tg := tg) (K := fun src items L1 => LcInv (M.lok M.H0 M.F0) G (own.map (·.2)) scope elt tg ifs src items L1 fun d L2 => ∃ G', Put M.C.N G x (some d) G' ∧ Run M G' L2 rest E) (h _ _) r A2 hF g1
    exact gss_cons ⟨_, ps, lc_go (S.lok _ _) hc A2 ev fun d L' v F' H' k B rv _ => fin k B rv⟩
theorem ev_dcK {kx vx tg iter : Expr} {ifs : List Expr} {scope : Scope} {kvs : List (Key × TL.D)} (own : List (Str × Nat)) (hc : M.C.cm = true) (ok : blkC M.C.N M.C.sc scope own = true) (hp : Path M G L iter kvs)
    (h : ∀ H0 F0, DcInv (M.lok H0 F0) G (own.map (·.2)) scope kx vx tg ifs [] (keysD kvs) L K)
    (hs : ∀ (X : Cx) x, foldedSetIterable iter X.env x = pure x := by intro _ _; rfl) : Ev M G L (.DictComp kx vx [⟨tg, iter, ifs, 0⟩] scope pos) K := by
  intro X S F σ H A Q q
  obtain ⟨p, ws, rd, r, g1, g2⟩ := hp X S F σ H A
  have pe := pe_dc (X := X) (kx := kx) (vx := vx) (tg := tg) (iter := iter) (ifs := ifs) (scope := scope) (own := own) (pos := pos) (S.ok.calm hc) (by rw [← S.ok.eN]; exact S.ok.nd) bi (by rw [← S.ok.eN, ← S.ok.es]; exact blkOk_by ok) gB_ok tB_ok eB_ok eB_ok (hs X)
  rcases rd with hF | ⟨od, hF⟩
  · refine ⟨_, pe_lock pe, p, .dK ws, A.fh _ _ hF, True.intro, fun od => ?_⟩
    have A2 := A.locked (od := od) hF (.inl ⟨ws, rfl⟩)
    have kp := kp_lock (Kk := M.C.K) (od := od) hF (.inl ⟨ws, rfl⟩)
    have ev := keys_go (M := M.lok (less M.H0 [p]) (upd F p (.frz od (.dK ws)))) (tg := tg) (K := fun src items L1 => DcInv (M.lok (less M.H0 [p]) (upd F p (.frz od (.dK ws)))) G (own.map (·.2)) scope kx vx tg ifs src items L1 K) (h _ _) (r.keep kp) A2 upd_same (g2 od hF)
    refine dc_go (S.lok _ _) hc A2 ev fun d L' v F' H' k B rv _ => ?_
    obtain ⟨u1, u2, u3, u4⟩ := A.unlocked hF (.inl ⟨ws, rfl⟩) B
    exact ⟨B.fh _ _ u1, q d L' v _ _ k u4 (rv.keep u3) u2⟩
  · have A2 : (M.lok M.H0 M.F0).at G L F σ H := A
    have ev := keys_go (M := M.lok M.H0 M.F0) (tg := tg) (K := fun src items L1 => DcInv (M.lok M.H0 M.F0) G (own.map (·.2)) scope kx vx tg ifs src items L1 K) (h _ _) r A2 hF g1
    exact ⟨_, pe, dc_go (S.lok _ _) hc A2 ev q⟩
end
end TL

namespace TL
open PySem L2
section
variable {M : Mode} {G : List (Option D)} {L : Led} {K : D → Led → Prop} {pos : Pos} {rest : List Stmt} {E : TD}
/-! ### try -/
def EX.cls : EX → Value
  | .own C => .ref C
  | .low C _ _ => .ref C
theorem ExIs.cls {Kk : PySem.W.Frag} {F H : Hp} {ex : EX} {v : Value} {d : Option Addr} (h : ExIs Kk F H ex v d) : v = ex.cls := by cases h <;> rfl
@[reducible] def Mode.sui (M : Mode) : Mode := { M with C := { M.C with cm := false, lp := false }, T := fun _ _ _ => False }
theorem Sit.sui {X : Cx} (S : Sit M X) (a : Addr) (pn : List (Addr × Obj)) : Sit M.sui (X.suite a pn) := by
  obtain ⟨⟨eP, ew, eK, em, eb, eN, es, calm, room, nd, fn, po, st⟩, _⟩ := S
  exact ⟨⟨eP, ew, eK, em, eb, eN, es, (fun h => nomatch h), (fun h => nomatch h), nd, fn, (fun h => nomatch h), (fun h => nomatch h)⟩, fun _ _ _ _ => False, takes0, fun _ _ _ _ _ _ _ _ h => h.elim⟩
theorem Sit.tr {X : Cx} (S : Sit M X) {T : EX → List (Option D) → Led → Prop} {W : WX} {pn : List (Addr × Obj)} {xe : Value → Shared → Prop} (tk : Takes (X.tr pn xe) W) (hp : PassesOwn (model X.prog X.w) X.A X.env xe)
    (hk : Mode.Tk { M with T := T } W) : Sit { M with T := T } (X.tr pn xe) := by
  obtain ⟨⟨eP, ew, eK, em, eb, eN, es, calm, room, nd, fn, po, st⟩, _⟩ := S
  exact ⟨⟨eP, ew, eK, em, eb, eN, es, calm, room, nd, fn, fun _ => hp, st⟩, W, tk, hk⟩
def HdsC (M : Mode) : List ExceptHandler → List Value → Prop
  | [], [] => True
  | .ExceptHandler (some (.Name x _)) none (_ :: _) _ :: hds, c :: cs => (GlC M.C x ∧ (x == ("__debug__" : Str)) = false ∧ M.C.mg x = some c) ∧ HdsC M hds cs
  | _, _ => False
/-- what the clauses wish of an exception of the body -/
def HT (M : Mode) (E : TD) : List ExceptHandler → List Value → EX → List (Option D) → Led → Prop
  | .ExceptHandler _ _ ss _ :: hds, c :: cs, ex, G, L => ∃ b, PySem.W.exmOne M.C.K ex.cls c = some b ∧ (b = true → Run M.sui G L ss E) ∧ (b = false → HT M E hds cs ex G L)
  | _, _, ex, G, L => M.T ex G L
def tSu (X : Cx) (ss : List Stmt) : Addr → Value → Option Addr → TS := fun a cls d D σ H => ∀ oe pn, Zc cls d oe → (∃ vs, oe.data = .fields vs) → GSs (X.suite a ((a, oe) :: pn)) ss D σ H
def trsH (X : Cx) : List ExceptHandler → List Value → List (Value × (Addr → Value → Option Addr → TS))
  | .ExceptHandler _ _ ss _ :: hds, c :: cs => (c, tSu X ss) :: trsH X hds cs
  | _, _ => []
theorem HdsC.ok {X : Cx} (S : Sit M X) : ∀ {hds : List ExceptHandler} {cs : List Value}, HdsC M hds cs → HdsOk X hds (trsH X hds cs)
  | [], [], _ => .nil
  | [], _ :: _, h => h.elim
  | .ExceptHandler (some (.Name x p)) none (b :: ss) p2 :: hds, c :: cs, h => by
    obtain ⟨⟨h1, h2, h3⟩, h4⟩ := h
    refine .cons ⟨gl_of S h1, h2, .inl (mg_of S h3)⟩ (fun a oe cls d pn hz hv => ⟨fun pins s σ H Q I q => bss.run pins s σ H Q I (q oe pn hz hv)⟩) (HdsC.ok S h4)
theorem HT.many {X : Cx} {W : WX} {DD : Ends} (S : Sit M X) (hk : M.Tk W) (o : EndsOk M E DD) : ∀ {hds : List ExceptHandler} {cs : List Value}, HdsC M hds cs → ∀ {ex : EX} {G : List (Option D)} {L : Led} {F : Hp} {σ : St} {H : Hp} {v : Value} {d : Option Addr},
    HT M E hds cs ex G L → M.at G L F σ H → ExIs M.C.K F H ex v d → wMany X.K W DD (trsH X hds cs) v d σ H
  | [], [], _, ex, G, L, F, σ, H, v, d, h, A, x => hk ex G L F σ H v d h A x
  | [], _ :: _, hc, _, _, _, _, _, _, _, _, _, _, _ => hc.elim
  | .ExceptHandler (some (.Name y p)) none (b0 :: ss) p2 :: hds, c :: cs, hc, ex, G, L, F, σ, H, v, d, h, A, x => by
    obtain ⟨b, hb, h1, h2⟩ := h
    refine ⟨b, by rw [← S.ok.eK, x.cls]; exact hb, fun e a _ oe pn _ _ => ?_, fun e => HT.many S hk o hc.2 (h2 e) A x⟩
    exact h1 e _ (S.sui a _) F σ H A _ ⟨o.nx, o.rt, o.bk, o.ct⟩
theorem run_try {body : List Stmt} {h0 : ExceptHandler} {hds : List ExceptHandler} (cs : List Value) (hlp : M.C.lp = true) (hc : HdsC M (h0 :: hds) cs)
    (h : Run { M with T := HT M { E with nx := fun G' L' => Run M G' L' rest E } (h0 :: hds) cs } G L body { E with nx := fun G' L' => Run M G' L' rest E }) : Run M G L (.Try body (h0 :: hds) [] [] pos :: rest) E := by
  intro X S F σ H A DD o
  obtain ⟨W, tk, hk⟩ := S.tk
  obtain ⟨st1, st2⟩ := S.ok.st hlp
  have o2 := o.seq S (rest := rest)
  refine gss_cons ⟨_, ps_try_many (tb := fun W' => fun D' σ' H' => ∀ pn xe, Takes (X.tr pn xe) W' → PassesOwn (model X.prog X.w) X.A X.env xe → GSs (X.tr pn xe) body D' σ' H') st1 st2 tk (fun W' pn xe t1 t2 => ⟨fun pins s σ H Q I q => bss.run pins s σ H Q I (q pn xe t1 t2)⟩) (hc.ok S), fun pn xe t1 t2 => ?_⟩
  exact h _ (S.tr t1 t2 fun ex G' L' F' σ' H' v d ht B x => HT.many S hk o2 hc ht B x) F σ H A _ ⟨o2.nx, o2.rt, o2.bk, o2.ct⟩
/-- try: body, except x as n: y = n.f -/
theorem run_try_line {body : List Stmt} {x n y f : Str} {np p1 p2 p3 p4 pos' : Pos} {Cc : Addr} {i j : Nat} (hlp : M.C.lp = true) (hg : GlC M.C x ∧ (x == ("__debug__" : Str)) = false ∧ M.C.mg x = some (.ref Cc)) (T : XfC M.C.K Cc) (hno : PySem.W.findIn M.C.K (.ref Cc) f = some none)
    (hx : PySem.W.exmOne M.C.K (.ref Cc) (.ref Cc) = some true) (hi : M.C.N[i]? = some n) (hj : M.C.N[j]? = some y) (hij : i ≠ j) (ln : M.C.sc.names.lookup n = some .local) (ly : M.C.sc.names.lookup y = some .local)
    (h : Run { M with T := fun ex G' L' => ∃ d, ex = .low Cc f d ∧ i < G'.length ∧ Run M ((G'.set j (some d)).set i none) L' rest E } G L body { E with nx := fun G' L' => Run M G' L' rest E })
    (hdn : (n == ("__debug__" : Str)) = false := by decide +kernel) (hcn : (n == ("__classdict__" : Str)) = false := by decide +kernel) (hsw : ∀ X : Cx, swapsWith (.Attribute (.Name n p2) f p3) (some (.Name y p1)) p4.line X.env = pure false := by intro _; rfl)
    (hb : ∀ X : Cx, attributeBase (.Name n p2) f X.env (eval (.Name n p2) X.env) = eval (.Name n p2) X.env := by intro _; rfl) :
    Run M G L (.Try body [.ExceptHandler (some (.Name x np)) (some n) [.Assign [.Name y p1] (.Attribute (.Name n p2) f p3) p4] pos'] [] [] pos :: rest) E := by
  intro X S F σ H A DD o
  obtain ⟨W, tk, hk⟩ := S.tk
  obtain ⟨st1, st2⟩ := S.ok.st hlp
  have o2 := o.seq S (rest := rest)
  have nd : X.N.Nodup := by rw [← S.ok.eN]; exact S.ok.nd
  have hi' := hi
  have hj' := hj
  rw [S.ok.eN] at hi hj
  have ln' : X.env.scope.names.lookup n = some .local := by rw [← S.ok.es]; exact ln
  have ly' : X.env.scope.names.lookup y = some .local := by rw [← S.ok.es]; exact ly
  rw [S.ok.eK] at T hno hx
  refine gss_cons ⟨_, ps_try_as (i := i) (n := n) (x := x) (c := .ref Cc) (tb := fun W' => fun D' σ' H' => ∀ pn xe, Takes (X.tr pn xe) W' → PassesOwn (model X.prog X.w) X.A X.env xe → GSs (X.tr pn xe) body D' σ' H')
    (ts := fun a cls d => tSeq (tAsg (tXf a cls d Cc f (tVar i)) (gName j)) tNext) st1 st2 nd hi ln' ⟨gl_of S hg.1, hg.2.1, .inl (mg_of S hg.2.2)⟩ tk (fun W' pn xe t1 t2 => ⟨fun pins s σ H Q I q => bss.run pins s σ H Q I (q pn xe t1 t2)⟩)
    (fun a oe cls d pn hz hv => pss_cons (ps_set (X := X.suite a ((a, oe) :: pn)) nd hj (.inl ly') (pe_xf T hno hz hv (pe_var hi (.inl ln') hdn hcn) (hb _)) (hsw _) (.inr ly')) pss_nil), fun pn xe t1 t2 => ?_⟩
  refine h _ (S.tr t1 t2 fun ex G' L' F' σ' H' v d ht B x => ?_) F σ H A _ ⟨o2.nx, o2.rt, o2.bk, o2.ct⟩
  obtain ⟨dd, rfl, hl, hr⟩ := ht
  cases x with
  | low ha rd =>
    rename_i da yv
    refine ⟨true, hx, fun _ a hna => ?_, fun e => nomatch e⟩
    have hl2 : i < σ'.length := by rw [← B.env.length]; exact hl
    refine ⟨.ref a, ?_, rfl, rfl, da, [(f, yv)], yv, rfl, ha, by rw [List.lookup_cons, beq_self_eq_true], ?_⟩
    · rw [List.getElem?_set_self hl2]
    · show GSs X rest DD ((((σ'.set i (some (.ref a))).set j (some yv))).set i none) H'
      have e1 : ((σ'.set i (some (.ref a))).set j (some yv)).set i none = (σ'.set j (some yv)).set i none := by
        rw [List.set_comm _ _ (Ne.symm hij), List.set_comm _ _ (Ne.symm hij), List.set_set]
      rw [e1]
      exact hr X S F' _ H' ((B.set (i := j) rd).envOf ((B.set (i := j) rd).env.clear i)) DD o

/-! ### raise C(e) -/
def spLow (Cc : Addr) (f : Str) : Sp := fun vs H Q E => ∃ a y, vs = [.ref a, y] ∧ H a = some (exo a Cc none) ∧ ∀ dx, H dx = none → dx ≠ a → Q .non (upd (upd H dx (exd dx [(f, y)])) a (exo a Cc (some dx)))
structure ExcL (P : Program) (w : World) (K : PySem.W.Frag) (mg : Str → Option Value) (base : Heap) (x : Str) (Cc : Addr) (f : Str) (j : Nat) : Prop where
  oex : OexC K Cc
  init : ∃ (fI : Addr) (fd : FuncData) (ps : List Str), PySem.W.findIn K (.ref Cc) "__init__" = some (some (.ref fI)) ∧ PySem.W.typeIn K (.ref fI) = some (.type "function") ∧ FnOk P w K mg base (L2.CX P w) j fI fd ps (spLow Cc f) ∧ Binds K fd ps []
  m : mg x = some (.ref Cc)
theorem passes_none {X : Cx} : Passes (L2.CX X.prog X.w) X (fun _ _ _ => False) := fun _ _ _ _ _ _ _ h => by
  obtain ⟨_, _, _, _, _, _, _, _, _, _, _, _, z⟩ := h
  exact z.elim
theorem low_ok {P : Program} {w : World} {K : PySem.W.Frag} {mg : Str → Option Value} {base : Heap} {qual : Str} {st : Stmt} {fI Cc : Addr} {fd : FuncData} {f : Str} {p1 p2 p3 p4 : Pos} (FF : Fun K "__init__" qual st fI fd) (S : FnScope ["self", f] ["self", f] (defScope st)) (oex : OexC K Cc) (hno : PySem.W.findIn K (.ref Cc) f = some none)
    (hb : defBody st = [.Assign [.Attribute (.Name "self" p1) f p2] (.Name f p3) p4]) (l1 : Vis (defScope st) "self") (l2 : Vis (defScope st) f) (hdf : (f == ("__debug__" : Str)) = false := by decide +kernel) (hcf : (f == ("__classdict__" : Str)) = false := by decide +kernel)
    (hsw : ∀ X : Cx, swapsWith (.Name f p3) (some (.Attribute (.Name "self" p1) f p2)) p4.line X.env = pure false := by intro _; rfl) : FnOk P w K mg base (L2.CX P w) 1 fI fd ["self", f] (spLow Cc f) := by
  refine FF.okX S (fun vs H Q E ⟨a, y, h, _⟩ => by rw [h]; rfl) (fun cdv A outer s H vs Q E hr h => ?_)
  obtain ⟨a, y, rfl, ha, hq⟩ := h
  rw [hb]
  refine ⟨_, pss_cons (ps_ost (X := cxOf (L2.CX P w) P w K mg base _ qual (defScope st) fI cdv A outer s H E) (pe_var (i := 0) rfl l1 (by decide) (by decide)) (pe_var (i := 1) rfl l2 hdf hcf) (hsw _)) pss_nil, ?_⟩
  refine ⟨y, rfl, .ref a, rfl, a, Cc, rfl, oex, hno, .inl ⟨ha, fun dx hd hne => hq dx hd hne⟩⟩
theorem run_raiseL {x f : Str} {p p2 : Pos} {e : Expr} {Cc : Addr} {j : Nat} (B : ExcL M.C.P M.C.w M.C.K M.C.mg M.C.base x Cc f j) (hc : M.C.cm = true) (hj : j + 1 ≤ M.C.k) (hg : GlC M.C x) (h : Ev M G L e fun d L1 => M.T (.low Cc f d) G L1)
    (hdb : (x == ("__debug__" : Str)) = false := by decide +kernel) (he : ∀ X : Cx, starEach [e] X.env = (false, eval e X.env) :: starEach [] X.env := by intro _; rfl) (hpl : ∀ X : Cx, (backTo p2 (starEach [] X.env)).any (·.1) = false := by intro _; rfl) :
    Run M G L (.Raise (some (.Call (.Name x p) [e] [] p2)) none pos :: rest) E := by
  intro X S F σ H A DD o
  obtain ⟨W, tk, hk⟩ := S.tk
  obtain ⟨oex, ⟨fI, fd, ps, iC, tI, ok, bd⟩, m⟩ := B
  rw [S.ok.eP, S.ok.ew, S.ok.eK, S.ok.em, S.ok.eb] at ok
  rw [S.ok.eK] at oex iC tI bd
  refine gss_cons ⟨_, ps_raise (S.ok.calm hc) tk (pmk_oex (pos := p2) oex iC tI ok (room_le S hc hj) bd (dvs := []) .nil passes_none (gl_of S hg) (mg_of S m) (pa_cons be pa_nil (he X)) hdb (he X) (hpl X)), ?_⟩
  refine h X S F σ H A _ fun d L1 v F1 H1 k1 A1 r1 s1 => ?_
  refine ⟨(show 1 ≤ 1000 by decide), fun a ha => ⟨a, v, rfl, upd_same, fun dx hdx hne => ⟨rfl, dx, [(f, v)], upd_same, by rw [upd_ne hne, upd_same], by rw [upd_ne hne] at hdx; exact hdx, ?_⟩⟩⟩
  have h1 : H1 dx = none := by rw [upd_ne hne] at hdx; exact hdx
  have e1 : upd (del (upd (upd (upd H1 a (exo a Cc none)) dx (exd dx [(f, v)])) a (exo a Cc (some dx))) a) dx (.xd [(f, v)]) = upd H1 dx (.xd [(f, v)]) := by
    funext b
    by_cases eb : b = dx
    · subst eb; rw [upd_same, upd_same]
    · rw [upd_ne eb, upd_ne eb]
      by_cases ea : b = a
      · subst ea; rw [del_same, ha]
      · rw [del_ne ea, upd_ne ea, upd_ne eb, upd_ne ea]
  rw [e1]
  exact hk _ G L1 F1 σ _ _ _ k1 (A1.junk h1) (.low upd_same r1)

/-! ### tuple * int -/
theorem op_mulT {ds : List D} {k : Int} (h0 : ds ≠ []) (h1 : 2 ≤ k) (h2 : k ≤ 1000) (h3 : ds.length ≤ 1000) (h : K (.tup (List.replicate k.toNat ds).flatten) L) : Op2 M G L (binaryOp .Mult) (.tup ds) (.int k) K := by
  intro X S F σ H v u A r1 r2 Q q
  obtain ⟨p, vs, rfl, e1, e2⟩ := tup_get A r1
  cases r2
  have rr : ∀ n : Nat, RepA M.C.K F (List.replicate n ds).flatten (List.replicate n vs).flatten := by
    intro n
    induction n with
    | zero => exact .nil
    | succ n ih => rw [List.replicate_succ, List.replicate_succ, List.flatten_cons, List.flatten_cons]; exact e2.append ih
  refine ⟨_, op_repT, p, k, vs, rfl, rfl, by rw [← S.ok.eK]; exact e1, fun e => h0 ?_, h1, h2, by rw [← e2.length]; exact h3, fun q' hq => ?_⟩
  · subst e; cases e2; rfl
  · obtain ⟨A2, s2⟩ := A.ice (o := .tup (List.replicate k.toNat vs).flatten) hq
    exact q _ L _ _ _ h A2 (.tup upd_same ((rr _).mono s2)) s2
end
end TL

namespace TL
open PySem L2 PySem.Spec PyProof.Rows
section
variable {M : Mode} {G : List (Option D)} {L : Led} {K : D → Led → Prop} {pos : Pos} {rest : List Stmt} {E : TD}
/-! ### xs[lo::st] of a list -/
def pickL {α : Type} (xs : List α) (lo st : Int) : List α := (sliceRange (sliceBounds (some lo) none (some st) xs.length).1 (sliceBounds (some lo) none (some st) xs.length).2.1 (sliceBounds (some lo) none (some st) xs.length).2.2).filterMap (xs[·]?)
theorem RepA.pick {Kk : PySem.W.Frag} {F : Hp} {ds : List D} {vs : List V} (h : RepA Kk F ds vs) (is : List Nat) : RepA Kk F (is.filterMap (ds[·]?)) (is.filterMap (vs[·]?)) := by
  induction is with
  | nil => exact .nil
  | cons i is ih =>
    cases e : ds[i]? with
    | none =>
      have e2 : vs[i]? = none := by
        rw [List.getElem?_eq_none_iff] at e ⊢
        rw [← h.length]; exact e
      rw [List.filterMap_cons_none e, List.filterMap_cons_none e2]
      exact ih
    | some d =>
      obtain ⟨v, hv, r⟩ := h.get e
      rw [List.filterMap_cons_some e, List.filterMap_cons_some hv]
      exact .cons r ih
theorem vals_pick {vs : List V} {us : List Value} (h : Vals vs us) (is : List Nat) : Vals (is.filterMap (vs[·]?)) (is.filterMap (us[·]?)) := by
  induction is with
  | nil => exact .nil
  | cons i is ih =>
    cases e : vs[i]? with
    | none =>
      have e2 : us[i]? = none := by
        rw [List.getElem?_eq_none_iff] at e ⊢
        have := Paired.length h
        omega
      rw [List.filterMap_cons_none e, List.filterMap_cons_none e2]
      exact ih
    | some d =>
      obtain ⟨v, hv, r⟩ := h.get e
      rw [List.filterMap_cons_some e, List.filterMap_cons_some hv]
      exact .cons r ih
def tPickL (K : PySem.W.Frag) (lo st : Int) (te : TE) : TE := fun σ H Q => te σ H fun x H1 => ∃ a xs, x = .ref a ∧ SqL K H1 a xs ∧ (pickL xs lo st).length ≤ sizeLine ∧ ∀ p, H1 p = none → Q (.ref p) (upd H1 p (.lst (pickL xs lo st)))
theorem pe_pickL {X : Cx} {e : Expr} {te : TE} {j k : Nat} {lo st : Int} {p1 p2 p3 pos : Pos} (he : PE X e te) (h0 : st ≠ 0) : PE X (.Subscript e (.Slice (some (.Constant (.int lo) j p1)) none (some (.Constant (.int st) k p2)) p3) pos) (tPickL X.K lo st te) := by
  refine ⟨fun pins s σ H Q I h => ?_⟩
  refine Subscript_ (thn (he.run pins s σ H _ I h) fun v s1 ⟨x, H1, I1, r1, q1⟩ => ?_)
  obtain ⟨a, xs, ex, hx, hlen, q⟩ := q1
  subst ex
  cases r1
  have hlo : PO X (some (.Constant (.int lo) j p1)) (tPart (tC (.int lo))) := po_some pe_int
  have hst : PO X (some (.Constant (.int st) k p2)) (tPart (tC (.int st))) := po_some pe_int
  refine wpAny_Slice (thn (hlo.run pins s1 σ H1 (fun o H2 => o = some lo ∧ H2 = H1) I1 ⟨lo, rfl, rfl, rfl⟩) fun vl s2 ⟨l, H2, I2, pl, el, e2⟩ => ?_)
  subst el e2
  refine thn (po_none.run pins s2 σ H2 (fun o H3 => o = none ∧ H3 = H2) I2 ⟨rfl, rfl⟩) fun vu s3 ⟨u, H3, I3, pu, eu, e3⟩ => ?_
  subst eu e3
  refine thn (hst.run pins s3 σ H3 (fun o H4 => o = some st ∧ H4 = H3) I3 ⟨st, rfl, rfl, rfl⟩) fun vs s4 ⟨o, H4, I4, ps, eo, e4⟩ => ?_
  subst eo e4
  have I5 : Inv X pins σ H4 { s4 with heap := s4.heap.push { cls := .type "slice", data := .fields #[vl, vu, vs] } } := I4.kept (t' := s4.toks) fun b ob q => Heap.get?_push_of_some _ q
  obtain ⟨its, r, ht, hz⟩ := I5.list hx
  have hl := r.length
  show wpAny (model X.prog X.w) X.A (subscriptTail e (.Slice (some (.Constant (.int lo) j p1)) none (some (.Constant (.int st) k p2)) p3) (.ref a) (.ref s4.heap.objs.size)) (EP X pins σ Q) X.xe { s4 with heap := s4.heap.push { cls := .type "slice", data := .fields #[vl, vu, vs] } }
  refine tail_any (ops := [.ref a, .ref s4.heap.objs.size]) ht.isList.typeIs (PySem.slot_list_getitem.lookup) ?_ (by with_unfolding_all rfl)
  refine wpAny_getItem_list_slice ht.isList (Heap.IsSliceOf.new _ vl vu vs) pl pu ps (fun z => h0 (Option.some.inj z)) ?_ (by rw [List.size_toArray]; omega)
  have e1 : slicePick its.toArray (some lo) none (some st) = (pickL its lo st).toArray := by
    unfold slicePick pickL
    simp
  rw [e1]
  refine ⟨.ref _, _, I5.laid (t' := s4.toks) (o := .lst (pickL xs lo st)) (fun b ob q => Heap.get?_push_of_some _ q) (Nat.le_refl _) ?_, rfl, q _ (I5.hok.fresh (Nat.le_refl _))⟩
  refine ⟨hlen, _, 0, ?_, Heap.get?_push_size _ rfl⟩
  unfold pickL
  rw [← hl]
  exact vals_pick r _
theorem ev_pick {e : Expr} {j k : Nat} {lo st : Int} {p1 p2 p3 : Pos} (h : Ev M G L e fun x L1 => ∃ ds, IsL L1 x ds ∧ (pickL ds lo st).length ≤ sizeLine ∧ ∀ p, K (.ref p) ((p, .lst (pickL ds lo st)) :: L1)) (h0 : st ≠ 0 := by decide) :
    Ev M G L (.Subscript e (.Slice (some (.Constant (.int lo) j p1)) none (some (.Constant (.int st) k p2)) p3) pos) K := by
  intro X S F σ H A Q q
  refine ⟨_, pe_pickL be h0, ?_⟩
  refine h X S F σ H A _ fun x L1 v F1 H1 k1 A1 r1 s1 => ?_
  obtain ⟨ds, hx, hlen, hk⟩ := k1
  obtain ⟨p, vs, rfl, h1, h2⟩ := hx.get A1 r1
  have rp : RepA M.C.K F1 (pickL ds lo st) (pickL vs lo st) := by
    unfold pickL
    rw [← h2.length]
    exact h2.pick _
  refine ⟨p, vs, rfl, SqL.of h1, by rw [← rp.length]; exact hlen, fun p' hp' => ?_⟩
  exact q _ _ _ F1 _ (hk p') (A1.new hp' (.lst upd_same rp)) (.v _) s1

/-! ### dict(zip(xs, ys)) -/
def tDZ (K : PySem.W.Frag) (ta : TA) : TE := fun σ H Q => ta σ H fun vs H1 => ∃ (a b : Addr) (ks : List Key) (ys : List V), vs = [.ref a, .ref b] ∧ SqL K H1 a (ks.map kV) ∧ SqL K H1 b ys ∧ ks.length = ys.length ∧ ∀ p, H1 p = none → Q (.ref p) (upd H1 p (.dK (mergeK [] (ks.zip ys))))
theorem kv_zip : ∀ {ks : List Key} {ys : List V} {us : List Value}, Vals ys us → KV (ks.zip ys) (ks.zip us)
  | [], _, _, _ => .nil
  | _ :: _, _, _, .nil => .nil
  | k :: ks, _, _, .cons r t => .cons ⟨rfl, r⟩ (kv_zip t)
theorem pe_dictzip {X : Cx} {e1 e2 : Expr} {ta : TA} {p p2 p3 pos : Pos} (hc : X.calm = true) (hg : Gl X "dict") (hm : X.mg "dict" = none) (hg2 : Gl X "zip") (hm2 : X.mg "zip" = none) (ha : PA X [e1, e2] ta)
    (hs0 : starEach [.Call (.Name "zip" p2) [e1, e2] [] p3] X.env = (false, eval (.Call (.Name "zip" p2) [e1, e2] [] p3) X.env) :: starEach [] X.env) (hs : starEach [e1, e2] X.env = (false, eval e1 X.env) :: starEach [e2] X.env) (hpl : (backTo p3 (starEach [e2] X.env)).any (·.1) = false) :
    PE X (.Call (.Name "dict" p) [.Call (.Name "zip" p2) [e1, e2] [] p3] [] pos) (tDZ X.K ta) := by
  refine ⟨fun pins s σ H Q I h => ?_⟩
  refine Call_ (ld_blt I hg hm PyProof.Rows.boot_dict (PyProof.Rows.callWith_type1 ?_ hs0 rfl))
  rw [hs0]
  refine Calls.spliced_cons ?_
  refine wpAny_mono (Q := fun v s1 => wpAny (model X.prog X.w) X.A (call (.type "dict") [v]) (EP X pins σ Q) X.xe s1) ?_ (fun v s1 hv => ?_) (fun _ _ x => x)
  · refine wpAny_mono (Call_ (ld_blt I hg2 hm2 PyProof.Rows.boot_zip (PyProof.Rows.callWith_type1 (Q := fun v s1 => wpAny (model X.prog X.w) X.A (call (.type "dict") [v]) (EP X pins σ Q) X.xe s1) (thn (ha.run p3 pins s σ H _ I h) fun us s1 ⟨vs, H1, I1, r1, q1⟩ => ?_) hs hpl))) (fun _ _ x => x) (fun _ _ x => x)
    obtain ⟨a, b, ks, ys, ex, hqx, hqy, hl, q⟩ := q1
    subst ex
    cases r1 with
    | cons r rr =>
      cases rr with
      | cons r' rr =>
        cases rr
        cases r
        cases r'
        obtain ⟨its, rv, pl1, hz1⟩ := I1.list hqx
        obtain ⟨its2, rv2, pl2, hz2⟩ := I1.list hqy
        refine call_zip_2 pl1.isList pl2.isList fun h' hz hTI hTO h1 h2 hsz hk => ?_
        have I2 : Inv X pins σ H1 { s1 with heap := h' } := I1.kept (t' := s1.toks) hk
        have P := PairArg.zip (prog := X.prog) (w := X.w) _ _ _ _ _ a b (PySem.W.ktu_apart s1.heap.objs.size a b pl1.lt pl2.lt) its.toArray its2.toArray
        have l1 := rv.length
        have l2 := rv2.length
        rw [List.length_map] at l1
        have hmn : min its.toArray.size its2.toArray.size = ks.length := by
          rw [List.size_toArray, List.size_toArray, ← l1, ← l2, hl, Nat.min_self]
        have hnb : ∀ z ∈ [s1.heap.objs.size + 4, s1.heap.objs.size + 3, s1.heap.objs.size, s1.heap.objs.size + 1], s1.heap.objs.size ≤ z := fun z hz' => by
          simp only [List.mem_cons, List.not_mem_nil, or_false] at hz'
          omega
        refine call_dict_pairs (s := { s1 with heap := h' }) (knd := mixKind X.prog X.w) (kvs := ks.zip its2) P (I.ok.hd hc) ⟨hz, hTI, ⟨_, _, hTO⟩, h1, h2, pl1.isList.at fun o e => hk _ o e, pl2.isList.at fun o e => hk _ o e⟩ ⟨?_, fun i key v ⟨g1, g2⟩ => ?_⟩ ?_ fun h'' tk hd' hk' => ?_
        · rw [hmn, List.length_zip, ← l2, hl, Nat.min_self]
        · have g1' : its[i]? = some key := by simpa using g1
          have g2' : its2[i]? = some v := by simpa using g2
          have hi : i < ks.length := by
            have := (List.getElem?_eq_some_iff.mp g1').1
            omega
          have ek : ks[i]? = some ks[i] := List.getElem?_eq_getElem hi
          obtain ⟨u, hu, rk⟩ := rv.get (i := i) (x := kV ks[i]) (by rw [List.getElem?_map, ek]; rfl)
          rw [g1'] at hu
          cases hu
          exact ⟨ks[i], by rw [List.getElem?_zip_eq_some]; exact ⟨ek, g2'⟩, kV_is rk⟩
        · rw [hmn]; rw [List.length_map] at hz1; exact hz1
        · have hbig : (h'.objs.size == sysModules) = false := beq_eq_false_iff_ne.mpr (Nat.ne_of_gt I2.big)
          have rel : KV (mergeK [] (ks.zip ys)) (merged [] (ks.zip its2)) := KV.merge (kv_zip rv2) .nil
          have hlen : (mergeK [] (ks.zip ys)).length ≤ sizeLine := by
            refine Nat.le_trans (length_mergeK _ []) ?_
            rw [List.length_nil, Nat.zero_add, List.length_zip, hl, Nat.min_self]
            exact hz2
          refine ⟨.ref h'.objs.size, _, I1.laid (a := h'.objs.size) (o := .dK (mergeK [] (ks.zip ys))) (t' := tk) (fun c o e => hk' c o (fun hm => ?_) (hk c o e)) (by rw [hsz]; exact Nat.le_add_right _ _) ⟨hlen, hbig, _, rel, hd'⟩, rfl, q _ (I1.hok.fresh (by rw [hsz]; exact Nat.le_add_right _ _))⟩
          exact absurd (Heap.lt_size e) (Nat.not_lt.mpr (hnb c hm))
  · exact Calls.spliced_nil hv
theorem RepK.zip {Kk : PySem.W.Frag} {F : Hp} : ∀ {ks : List Key} {es : List D} {ys : List V}, RepA Kk F es ys → RepK Kk F (ks.zip es) (ks.zip ys)
  | [], _, _, _ => .nil
  | _ :: _, _, _, .nil => .nil
  | k :: ks, _, _, .cons r t => .cons r (RepK.zip t)
theorem ev_dictzip {e1 e2 : Expr} {p p2 p3 : Pos} (hc : M.C.cm = true) (hg : GlC M.C "dict") (hm : M.C.mg "dict" = none) (hg2 : GlC M.C "zip") (hm2 : M.C.mg "zip" = none)
    (h : Ev M G L e1 fun x L1 => Ev M G L1 e2 fun y L2 => ∃ (ks : List Key) (ds : List D), IsL L2 x (ks.map fun k => .v (kV k)) ∧ IsL L2 y ds ∧ ks.length = ds.length ∧ ∀ l, K (.ref l) ((l, .dK (dispE (ks.zip ds))) :: L2))
    (hs0 : ∀ X : Cx, starEach [.Call (.Name "zip" p2) [e1, e2] [] p3] X.env = (false, eval (.Call (.Name "zip" p2) [e1, e2] [] p3) X.env) :: starEach [] X.env := by intro _; rfl) (hs : ∀ X : Cx, starEach [e1, e2] X.env = (false, eval e1 X.env) :: starEach [e2] X.env := by intro _; rfl)
    (hs2 : ∀ X : Cx, starEach [e2] X.env = (false, eval e2 X.env) :: starEach [] X.env := by intro _; rfl) (hpl : ∀ X : Cx, (backTo p3 (starEach [e2] X.env)).any (·.1) = false := by intro _; rfl) : Ev M G L (.Call (.Name "dict" p) [.Call (.Name "zip" p2) [e1, e2] [] p3] [] pos) K := by
  intro X S F σ H A Q q
  refine ⟨_, pe_dictzip (S.ok.calm hc) (gl_of S hg) (mg_of S hm) (gl_of S hg2) (mg_of S hm2) (pa_cons be (pa_cons be pa_nil (hs2 X)) (hs X)) (hs0 X) (hs X) (hpl X), ?_⟩
  refine h X S F σ H A _ fun x L1 v F1 H1 k1 A1 r1 s1 => ?_
  refine k1 X S F1 σ H1 A1 _ fun y L2 u F2 H2 k2 A2 r2 s2 => ?_
  obtain ⟨ks, ds, hx, hy, hl, hk⟩ := k2
  obtain ⟨a, vs, rfl, a1, a2⟩ := hx.get A2 (r1.mono s2)
  obtain ⟨b, us, rfl, b1, b2⟩ := hy.get A2 r2
  have ev : vs = ks.map kV := by
    have : (ks.map fun k => (.v (kV k) : D)) = (ks.map kV).map D.v := by simp
    rw [this] at a2
    exact a2.flats
  subst ev
  refine ⟨a, b, ks, us, rfl, SqL.of a1, SqL.of b1, by rw [hl]; exact b2.length, fun l hl' => ?_⟩
  exact q _ _ _ F2 _ (hk l) (A2.new hl' (.dK upd_same ((RepK.zip b2).fold .nil))) (.v _) (s1.trans s2)
/-! ### a, b = e, f, local names -/
theorem sw_par {env : Env} {x y : Str} {px py pt pt2 : Pos} {kt k2 : Nat} {a b : Expr} (hk : env.blockKind = .function) (hx : env.kindOf x = some .local) (hy : env.kindOf y = some .local) (hl : (py.line == px.line) = true) (hn : x ≠ y)
    (h1 : ([a, b].any fun | .Starred .. => true | _ => false) = false) (h2 : [a, b].all (foldedForSure 8) = false) (h3 : [a, b].all (constantsAlone 8) = false) :
    swappedStores [.Tuple [.Name x px, .Name y py] kt pt] (.Tuple [a, b] k2 pt2) env = pure (some [x, y]) := by
  have hl' : py.line = px.line := beq_iff_eq.mp hl
  have hn' : (y == x) = false := beq_eq_false_iff_ne.mpr (Ne.symm hn)
  have q1 : (Expr.Name x px).pos = px := rfl
  unfold swappedStores
  simp only [hk, List.filterMap_cons, List.filterMap_nil, hx, hy, List.head?_cons, Option.map_some, Option.getD_some, q1, hl', beq_self_eq_true, Bool.and_self, if_true, List.eraseDups_cons, List.filter_cons, List.filter_nil, hn', Bool.not_false, List.eraseDups_nil, h2, h3, List.length_cons, List.length_nil]
  rw [if_neg (by decide)]
  refine (if_neg (fun z => Bool.false_ne_true (h1.symm.trans z))).trans ?_
  rfl
/-- a, b = e, f -/
theorem run_par {x y : Str} {px py pt pt2 : Pos} {kt k2 : Nat} {a b : Expr} (hc : M.C.cm = true) (hx : M.C.sc.names.lookup x = some .local) (hy : M.C.sc.names.lookup y = some .local) (hk : M.C.sc.kind = .function) (hn : x ∈ M.C.N) (hm : y ∈ M.C.N) (hxy : x ≠ y) (hl : (py.line == px.line) = true)
    (h : Ev M G L a fun d L1 => Ev M G L1 b fun e L2 => ∃ G1 G2, Put M.C.N G x (some d) G1 ∧ Put M.C.N G1 y (some e) G2 ∧ Run M G2 L2 rest E)
    (h1 : ([a, b].any fun | .Starred .. => true | _ => false) = false := by rfl) (h2 : [a, b].all (foldedForSure 8) = false := by rfl) (h3 : [a, b].all (constantsAlone 8) = false := by rfl)
    (hs1 : ∀ X : Cx, starEach [a, b] X.env = (false, eval a X.env) :: starEach [b] X.env := by intro _; rfl) (hs2 : ∀ X : Cx, starEach [b] X.env = (false, eval b X.env) :: starEach [] X.env := by intro _; rfl)
    (hs : ∀ X : Cx, swapsWithSole [.Tuple [.Name x px, .Name y py] kt pt] (.Tuple [a, b] k2 pt2) pos.line X.env = pure false := by intro _; rfl) : Run M G L (.Assign [.Tuple [.Name x px, .Name y py] kt pt] (.Tuple [a, b] k2 pt2) pos :: rest) E := by
  intro X S F σ H A D o
  have nd : X.N.Nodup := by rw [← S.ok.eN]; exact S.ok.nd
  obtain ⟨i, hi⟩ := List.getElem?_of_mem hn
  obtain ⟨j, hj⟩ := List.getElem?_of_mem hm
  rw [S.ok.eN] at hi hj
  have lx : X.env.scope.names.lookup x = some .local := by rw [← S.ok.es]; exact hx
  have ly : X.env.scope.names.lookup y = some .local := by rw [← S.ok.es]; exact hy
  have kk : X.env.blockKind = .function := by
    unfold Env.blockKind
    rw [← S.ok.es, hk]
    rfl
  have hij : i ≠ j := fun e => hxy (by rw [e, hj] at hi; exact (Option.some.inj hi).symm)
  refine gss_cons ⟨_, ps_par (S.ok.calm hc) nd hi hj hij lx ly (pa_cons be (pa_cons be pa_nil (hs2 X)) (hs1 X)) (sw_par kk lx ly hl hxy h1 h2 h3) (hs X), ?_⟩
  refine h X S F σ H A _ fun d L1 v F1 H1 k1 A1 r1 s1 => ?_
  refine k1 X S F1 σ H1 A1 _ fun e L2 w F2 H2 k2 A2 r2 s2 => ?_
  obtain ⟨G1, G2, p1, p2, hr⟩ := k2
  obtain ⟨i', hi', rfl⟩ := p1.ix
  obtain ⟨j', hj', rfl⟩ := p2.ix
  rw [S.ok.eN] at hi' hj'
  have e1 : i' = i := nodup_ix nd hi' hi
  have e2 : j' = j := nodup_ix nd hj' hj
  subst e1 e2
  exact ⟨v, w, rfl, hr X S F2 _ H2 ((A2.set (r1.mono s2)).set r2) D o⟩
end
end TL

namespace TL
open PySem L2 PySem.Spec PyProof.Rows
/-- names of the module that stand for values -/
structure GVal (mg : Str → Option Value) (x : Str) (v : V) : Prop where
  ex : ∃ u, mg x = some u ∧ RelV v u
structure GTup (K : PySem.W.Frag) (mg : Str → Option Value) (x : Str) (vs : List V) : Prop where
  ex : ∃ p, mg x = some (.ref p) ∧ ∀ F, SqT K F p vs
section
variable {M : Mode} {G : List (Option D)} {L : Led} {K : D → Led → Prop} {pos : Pos}
theorem ev_gval {x : Str} {v : V} (B : GVal M.C.mg x v) (hg : GlC M.C x) (h : K (.v v) L) (hd : (x == ("__debug__" : Str)) = false := by decide +kernel) : Ev M G L (.Name x pos) K := by
  obtain ⟨u, hm, r⟩ := B.ex
  exact ev_glob hg hm r (fun F => .v v) h hd
theorem ev_gtup {x : Str} {vs : List V} (B : GTup M.C.K M.C.mg x vs) (hg : GlC M.C x) (h : K (.ctup (vs.map D.v)) L) (hd : (x == ("__debug__" : Str)) = false := by decide +kernel) : Ev M G L (.Name x pos) K := by
  obtain ⟨p, hm, r⟩ := B.ex
  exact ev_glob (v := .ref p) (u := .ref p) hg hm rfl (fun F => .ctup (r F) (RepA.of_flats vs)) h hd
theorem tst_bool {op : BoolOp} {es : List Expr} {KB : Bool → Led → Prop} (h : TstW M G L (.BoolOp op es pos) KB) : Tst M G L (.BoolOp op es pos) KB := tst_w h
end
theorem ix_dictR {X : Cx} (hu : X.A.units + 1 < cLine) : IxR X (fun x y H Q => ∃ a v, x = .ref a ∧ DGet H a y (some v) ∧ Q v H) := by
  intro value slice pins s σ H x y v u Q I rx ry h hs
  obtain ⟨a, w, rfl, g, q⟩ := h
  obtain rfl : v = Value.ref a := rx
  refine tail_any (ops := [Value.ref a, u]) (dict_typeIs I g) PySem.F.slot_dict_getitem.lookup (d_getItem hu I g ry fun w' s3 I3 rw' => ⟨w, H, I3, rw', q⟩) hs
theorem ix_K {M : Mode} {G : List (Option D)} {L : Led} {K : D → Led → Prop} {x : D} {kvs : List (Key × D)} {k : Key} {d : D} (hc : M.C.cm = true) (hx : IsK L x kvs) (hv : valD kvs k = some d) (h : K d L) : IxV M G L x (.v (kV k)) K := by
  intro X S F σ H v u A r1 r2 Q q
  cases r2
  obtain ⟨p, ws, rfl, h1, h2⟩ := hx.get A r1
  obtain ⟨w, e, rw'⟩ := (h2.val k).1 d hv
  exact ⟨_, ix_dictR (sit_hu S hc), p, w, rfl, .inl ⟨ws, k, h1, rfl, e.symm⟩, q d L w F H h A rw' (Same.refl _)⟩
theorem run_ret0 {M : Mode} {G : List (Option D)} {L : Led} {pos : Pos} {rest : List Stmt} {E : TD} {e : Expr} (h : Ev M G L e fun d _ => E.rt d []) : Run M G L (.Return (some e) pos :: rest) E :=
  run_ret (ev_drop (h.imp fun d L' k => ⟨[], List.nil_sublist _, k⟩))
theorem run_retN0 {M : Mode} {G : List (Option D)} {L : Led} {pos : Pos} {rest : List Stmt} {E : TD} (h : E.rt .non []) : Run M G L (.Return none pos :: rest) E := run_drop (List.nil_sublist _) (run_retN h)
theorem run_raiseD {M : Mode} {G : List (Option D)} {L : Led} {pos p p2 : Pos} {rest : List Stmt} {E : TD} {x : Str} {Cc : Addr} (B : ExcC M.C.K M.C.mg x Cc) (hc : M.C.cm = true) (hg : GlC M.C x) (h : M.T (.own Cc) G []) (hdb : (x == ("__debug__" : Str)) = false := by decide +kernel) :
    Run M G L (.Raise (some (.Call (.Name x p) [] [] p2)) none pos :: rest) E := run_drop (List.nil_sublist _) (run_raise0 B hc hg h hdb)
theorem run_raiseLD {M : Mode} {G : List (Option D)} {L : Led} {pos p p2 : Pos} {rest : List Stmt} {E : TD} {x f : Str} {e : Expr} {Cc : Addr} {j : Nat} (B : ExcL M.C.P M.C.w M.C.K M.C.mg M.C.base x Cc f j) (hc : M.C.cm = true) (hj : j + 1 ≤ M.C.k) (hg : GlC M.C x)
    (h : Ev M G L e fun d _ => M.T (.low Cc f d) G []) (hdb : (x == ("__debug__" : Str)) = false := by decide +kernel) (he : ∀ X : Cx, starEach [e] X.env = (false, eval e X.env) :: starEach [] X.env := by intro _; rfl) (hpl : ∀ X : Cx, (backTo p2 (starEach [] X.env)).any (·.1) = false := by intro _; rfl) :
    Run M G L (.Raise (some (.Call (.Name x p) [e] [] p2)) none pos :: rest) E := run_raiseL B hc hj hg (ev_drop (h.imp fun d L' k => ⟨[], List.nil_sublist _, k⟩)) hdb he hpl
theorem calls0 {M : Mode} {G : List (Option D)} {L1 : Led} {K : D → Led → Prop} {sp : Prm} {ds : List D} (h : sp ds [] (fun d L' => K d (L' ++ L1)) (fun ex L' => M.T ex G (L' ++ L1))) : Calls M G sp ds L1 K := ⟨[], L1, List.Perm.refl _, fun L' => L' ++ L1, fun _ => List.Perm.refl _, h⟩
/-- the key that a flat value is -/
def keyOf : V → Key
  | .int i => Sum.inl i
  | .str s => Sum.inr s
  | _ => Sum.inl 0
theorem keyOf_kV (k : Key) : keyOf (kV k) = k := by cases k <;> rfl
theorem valD_map (kvs : List (Key × V)) (k : Key) : valD (kvs.map fun kv => (kv.1, D.v kv.2)) k = (valV kvs k).map D.v := by
  unfold valD valV
  rw [List.find?_map, Option.map_map, Option.map_map]
  rfl
theorem andn_t {A B : Prop} (h : A) : ∃ k : Bool, D.bl (!false) = D.bl k ∧ (k = true → A) ∧ (k = false → B) := ⟨true, rfl, fun _ => h, fun e => nomatch e⟩
theorem andn_f {A B : Prop} (h : B) : ∃ k : Bool, D.bl (!true) = D.bl k ∧ (k = true → A) ∧ (k = false → B) := ⟨false, rfl, fun e => (nomatch e), fun _ => h⟩
theorem orn_t {A B : Prop} (h : B) : ∃ k : Bool, D.bl (!false) = D.bl k ∧ (k = false → A) ∧ (k = true → B) := ⟨true, rfl, fun e => (nomatch e), fun _ => h⟩
theorem orn_f {A B : Prop} (h : A) : ∃ k : Bool, D.bl (!true) = D.bl k ∧ (k = false → A) ∧ (k = true → B) := ⟨false, rfl, fun _ => h, fun e => nomatch e⟩
theorem tandn_t {A B : Prop} (h : A) : ((!false) = true → A) ∧ ((!false) = false → B) := ⟨fun _ => h, fun e => nomatch e⟩
theorem tandn_f {A B : Prop} (h : B) : ((!true) = true → A) ∧ ((!true) = false → B) := ⟨fun e => (nomatch e), fun _ => h⟩
theorem torn_t {A B : Prop} (h : B) : ((!false) = false → A) ∧ ((!false) = true → B) := ⟨fun e => (nomatch e), fun _ => h⟩
theorem torn_f {A B : Prop} (h : A) : ((!true) = false → A) ∧ ((!true) = true → B) := ⟨fun _ => h, fun e => nomatch e⟩
theorem and_t {A B : Prop} (h : A) : ∃ k : Bool, D.bl true = D.bl k ∧ (k = true → A) ∧ (k = false → B) := ⟨true, rfl, fun _ => h, fun e => nomatch e⟩
theorem and_f {A B : Prop} (h : B) : ∃ k : Bool, D.bl false = D.bl k ∧ (k = true → A) ∧ (k = false → B) := ⟨false, rfl, fun e => (nomatch e), fun _ => h⟩
theorem or_t {A B : Prop} (h : B) : ∃ k : Bool, D.bl true = D.bl k ∧ (k = false → A) ∧ (k = true → B) := ⟨true, rfl, fun e => (nomatch e), fun _ => h⟩
theorem or_f {A B : Prop} (h : A) : ∃ k : Bool, D.bl false = D.bl k ∧ (k = false → A) ∧ (k = true → B) := ⟨false, rfl, fun _ => h, fun e => nomatch e⟩
theorem not_t {A : Bool → Prop} (h : A false) : ∃ k : Bool, D.bl true = D.bl k ∧ A (!k) := ⟨true, rfl, h⟩
theorem not_f {A : Bool → Prop} (h : A true) : ∃ k : Bool, D.bl false = D.bl k ∧ A (!k) := ⟨false, rfl, h⟩
theorem tand_t {A B : Prop} (h : A) : (true = true → A) ∧ (true = false → B) := ⟨fun _ => h, fun e => nomatch e⟩
theorem tand_f {A B : Prop} (h : B) : (false = true → A) ∧ (false = false → B) := ⟨fun e => (nomatch e), fun _ => h⟩
theorem tor_t {A B : Prop} (h : B) : (true = false → A) ∧ (true = true → B) := ⟨fun e => (nomatch e), fun _ => h⟩
theorem tor_f {A B : Prop} (h : A) : (false = false → A) ∧ (false = true → B) := ⟨fun _ => h, fun e => nomatch e⟩
/-- ints, bools, texts, None -/
def scalV : V → Bool
  | .int _ => true
  | .bl _ => true
  | .str _ => true
  | .non => true
  | _ => false
theorem scal_cases {x : V} (h : scalV x = true) : (∃ i, x = .int i) ∨ (∃ b, x = .bl b) ∨ (∃ z, x = .str z) ∨ x = .non := by
  cases x with
  | int i => exact .inl ⟨i, rfl⟩
  | bl b => exact .inr (.inl ⟨b, rfl⟩)
  | str z => exact .inr (.inr (.inl ⟨z, rfl⟩))
  | non => exact .inr (.inr (.inr rfl))
  | _ => cases h
/-! ### comprehensions over a list that is known as xs.map g -/
section
variable {M : Mode} {G : List (Option D)} {K : D → Led → Prop} {α : Type}
theorem take_map {β : Type} {xs : List α} {g : α → β} {i : Nat} {d : β} (h : (xs.map g)[i]? = some d) : ∃ x, xs[i]? = some x ∧ d = g x ∧ x ∈ xs ∧ i < xs.length ∧ xs.take (i + 1) = xs.take i ++ [x] := by
  rw [List.getElem?_map] at h
  cases e : xs[i]? with
  | none => rw [e] at h; cases h
  | some x =>
    rw [e] at h
    refine ⟨x, rfl, (Option.some.inj h).symm, List.mem_of_getElem? e, (List.getElem?_eq_some_iff.mp e).1, ?_⟩
    rw [List.take_succ, e]; rfl
theorem lc_map (xs : List α) (g f : α → D) (p : α → Bool) {vs : List Nat} {scope : Scope} {elt tg : Expr} {ifs : List Expr} {src : Led} {items : List D} {L1 : Led} (he : items = xs.map g) (hsz : xs.length < sizeLine) (hsrc : ∀ s ∈ src, s ∈ L1)
    (turn : ∀ F1 Dl x acc, x ∈ xs → TgtN ((M.fix F1).blk scope) (wipeG G vs) ((Dl, .lst acc) :: L1) vs tg (g x) fun G2 => TstI ((M.fix F1).blk scope) G2 ((Dl, .lst acc) :: L1) ifs fun b L2 =>
      b = p x ∧ ((Dl, OW.lst acc) :: L1).Sublist L2 ∧ (p x = true → Ev ((M.fix F1).blk scope) G2 L2 elt fun y L3 => y = f x ∧ ((Dl, OW.lst acc) :: L1).Sublist L3))
    (hk : ∀ Dl, K (.ref Dl) ((Dl, .lst ((xs.filter p).map f)) :: L1)) : LcInv M G vs scope elt tg ifs src items L1 K := by
  subst he
  refine ⟨fun i acc L' => i ≤ xs.length ∧ L' = L1 ∧ acc = ((xs.take i).filter p).map f, ⟨Nat.zero_le _, rfl, rfl⟩, fun i acc L' ⟨h1, h2, h3⟩ => ⟨by rw [h2]; exact hsrc, ?_⟩, fun F1 Dl i d acc L' hd ⟨h1, h2, h3⟩ => ?_, fun acc L' ⟨h1, h2, h3⟩ Dl => ?_⟩
  · rw [h3, List.length_map]
    exact Nat.lt_of_le_of_lt (Nat.le_trans (List.length_filter_le _ _) (by rw [List.length_take]; omega)) hsz
  · subst h2
    obtain ⟨x, hx, rfl, hm, hlt, tk⟩ := take_map hd
    intro X S F σ H v A r Q q
    refine turn F1 Dl x acc hm X S F σ H v A r Q fun G' σ' k A' w => q G' σ' ?_ A' w
    have step : ∀ {b : Bool} {L2 : Led}, (b = p x ∧ ((Dl, OW.lst acc) :: L').Sublist L2 ∧ (p x = true → Ev ((M.fix F1).blk scope) G' L2 elt fun y L3 => y = f x ∧ ((Dl, OW.lst acc) :: L').Sublist L3)) →
        ((b = true → Ev ((M.fix F1).blk scope) G' L2 elt fun y L3 => ∃ L4 : Led, ((Dl, OW.lst acc) :: L4).Sublist L3 ∧ i + 1 ≤ xs.length ∧ L4 = L' ∧ acc ++ [y] = ((xs.take (i + 1)).filter p).map f) ∧
          (b = false → ∃ L4 : Led, ((Dl, OW.lst acc) :: L4).Sublist L2 ∧ i + 1 ≤ xs.length ∧ L4 = L' ∧ acc = ((xs.take (i + 1)).filter p).map f)) := by
      rintro b L2 ⟨rfl, s2, he⟩
      refine ⟨fun hb => (he hb).imp fun y L3 ⟨ey, s3⟩ => ⟨L', s3, hlt, rfl, ?_⟩, fun hb => ⟨L', s2, hlt, rfl, ?_⟩⟩
      · rw [tk, List.filter_append, List.map_append, h3, List.filter_cons, if_pos hb, ey]
        rfl
      · rw [tk, List.filter_append, List.map_append, h3, List.filter_cons, if_neg (by rw [hb]; decide)]
        simp
    match ifs, k with
    | [], k => exact step k
    | [c], k => exact fun X S F σ H A Q q => k X S F σ H A Q fun b L2 F2 H2 kb => q b L2 F2 H2 (step kb)
  · subst h2
    rw [List.length_map, List.take_length] at h3
    rw [h3]
    exact hk Dl
/-- no ifs -/
theorem lc_all (xs : List α) (g f : α → D) {vs : List Nat} {scope : Scope} {elt tg : Expr} {src : Led} {items : List D} {L1 : Led} (he : items = xs.map g) (hsz : xs.length < sizeLine) (hsrc : ∀ s ∈ src, s ∈ L1)
    (turn : ∀ F1 Dl x acc, x ∈ xs → TgtN ((M.fix F1).blk scope) (wipeG G vs) ((Dl, .lst acc) :: L1) vs tg (g x) fun G2 => Ev ((M.fix F1).blk scope) G2 ((Dl, .lst acc) :: L1) elt fun y L3 => y = f x ∧ ((Dl, OW.lst acc) :: L1).Sublist L3)
    (hk : ∀ Dl, K (.ref Dl) ((Dl, .lst (xs.map f)) :: L1)) : LcInv M G vs scope elt tg [] src items L1 K := by
  refine lc_map xs g f (fun _ => true) he hsz hsrc (fun F1 Dl x acc hx X S F σ H v A r Q q => turn F1 Dl x acc hx X S F σ H v A r Q fun G' σ' k A' w => q G' σ' ⟨rfl, List.Sublist.refl _, fun _ => k⟩ A' w) fun Dl => ?_
  have e : xs.filter (fun _ => true) = xs := List.filter_eq_self.mpr fun _ _ => rfl
  rw [e]
  exact hk Dl
theorem all_bl (p : α → Bool) (xs : List α) : (xs.map fun x => D.bl (p x)).all isBl = true := by simp [isBl]
theorem all_boolD (p : α → Bool) (xs : List α) : (xs.map fun x => D.bl (p x)).all boolD = xs.all p := by
  rw [List.all_map]
  rfl
theorem any_boolD (p : α → Bool) (xs : List α) : (xs.map fun x => D.bl (p x)).any boolD = xs.any p := by
  rw [List.any_map]
  rfl
theorem dispE_snoc (l : List (Key × D)) (a : Key × D) : dispE (l ++ [a]) = putE (dispE l) a.1 a.2 := by
  unfold dispE
  rw [List.foldl_append]
  rfl
theorem putE_length (l : List (Key × D)) (k : Key) (d : D) : (putE l k d).length ≤ l.length + 1 := by
  unfold putE
  split
  · rw [List.length_map]; exact Nat.le_succ _
  · simp
theorem dispE_length (l : List (Key × D)) : (dispE l).length ≤ l.length := by
  have go : ∀ (l acc : List (Key × D)), (l.foldl (fun acc kv => putE acc kv.1 kv.2) acc).length ≤ acc.length + l.length := by
    intro l
    induction l with
    | nil => intro acc; exact Nat.le_refl _
    | cons a l ih =>
      intro acc
      have h1 := ih (putE acc a.1 a.2)
      have h2 := putE_length acc a.1 a.2
      simp only [List.foldl_cons, List.length_cons]
      omega
  have := go l []
  simpa [dispE] using this
theorem putE_new {l : List (Key × D)} {k : Key} {d : D} (h : k ∉ l.map (·.1)) : putE l k d = l ++ [(k, d)] := by
  unfold putE
  rw [if_neg]
  intro hh
  obtain ⟨x, hx, e⟩ := List.any_eq_true.mp hh
  exact h (List.mem_map.mpr ⟨x, hx, of_decide_eq_true e⟩)
theorem dispE_nodup : ∀ {l : List (Key × D)}, (l.map (·.1)).Nodup → dispE l = l := by
  have go : ∀ (l acc : List (Key × D)), ((acc ++ l).map (·.1)).Nodup → l.foldl (fun acc kv => putE acc kv.1 kv.2) acc = acc ++ l := by
    intro l
    induction l with
    | nil => intro acc _; simp
    | cons a l ih =>
      intro acc h
      have hk : a.1 ∉ acc.map (·.1) := fun hm => by
        rw [List.map_append] at h
        exact (List.nodup_append.mp h).2.2 _ hm _ (by simp) rfl
      rw [List.foldl_cons, putE_new hk, ih]
      · simp
      · simpa using h
  intro l h
  exact go l [] h
theorem dc_map (xs : List α) (g : α → D) (kv : α → Key × D) (p : α → Bool) {vs : List Nat} {scope : Scope} {kx vx tg : Expr} {ifs : List Expr} {src : Led} {items : List D} {L1 : Led} (he : items = xs.map g) (hsz : xs.length < sizeLine) (hsrc : ∀ s ∈ src, s ∈ L1)
    (turn : ∀ F1 Dl x acc, x ∈ xs → TgtN ((M.fix F1).blk scope) (wipeG G vs) ((Dl, .dK acc) :: L1) vs tg (g x) fun G2 => TstI ((M.fix F1).blk scope) G2 ((Dl, .dK acc) :: L1) ifs fun b L2 =>
      b = p x ∧ ((Dl, OW.dK acc) :: L1).Sublist L2 ∧ (p x = true → Ev ((M.fix F1).blk scope) G2 L2 kx fun y L3 => Ev ((M.fix F1).blk scope) G2 L3 vx fun z L4 => y = .v (kV (kv x).1) ∧ z = (kv x).2 ∧ ((Dl, OW.dK acc) :: L1).Sublist L4))
    (hk : ∀ Dl, K (.ref Dl) ((Dl, .dK (dispE ((xs.filter p).map kv))) :: L1)) : DcInv M G vs scope kx vx tg ifs src items L1 K := by
  subst he
  refine ⟨fun i acc L' => i ≤ xs.length ∧ L' = L1 ∧ acc = dispE (((xs.take i).filter p).map kv), ⟨Nat.zero_le _, rfl, rfl⟩, fun i acc L' ⟨h1, h2, h3⟩ => ⟨by rw [h2]; exact hsrc, ?_⟩, fun F1 Dl i d acc L' hd ⟨h1, h2, h3⟩ => ?_, fun acc L' ⟨h1, h2, h3⟩ Dl => ?_⟩
  · rw [h3]
    refine Nat.lt_of_le_of_lt (dispE_length _) ?_
    rw [List.length_map]
    exact Nat.lt_of_le_of_lt (Nat.le_trans (List.length_filter_le _ _) (by rw [List.length_take]; omega)) hsz
  · subst h2
    obtain ⟨x, hx, rfl, hm, hlt, tk⟩ := take_map hd
    intro X S F σ H v A r Q q
    refine turn F1 Dl x acc hm X S F σ H v A r Q fun G' σ' k A' w => q G' σ' ?_ A' w
    have step : ∀ {b : Bool} {L2 : Led}, (b = p x ∧ ((Dl, OW.dK acc) :: L').Sublist L2 ∧ (p x = true → Ev ((M.fix F1).blk scope) G' L2 kx fun y L3 => Ev ((M.fix F1).blk scope) G' L3 vx fun z L4 => y = .v (kV (kv x).1) ∧ z = (kv x).2 ∧ ((Dl, OW.dK acc) :: L').Sublist L4)) →
        ((b = true → Ev ((M.fix F1).blk scope) G' L2 kx fun y L3 => Ev ((M.fix F1).blk scope) G' L3 vx fun z L4 => ∃ (k : Key) (L5 : Led), y = .v (kV k) ∧ ((Dl, OW.dK acc) :: L5).Sublist L4 ∧ i + 1 ≤ xs.length ∧ L5 = L' ∧ putE acc k z = dispE (((xs.take (i + 1)).filter p).map kv)) ∧
          (b = false → ∃ L5 : Led, ((Dl, OW.dK acc) :: L5).Sublist L2 ∧ i + 1 ≤ xs.length ∧ L5 = L' ∧ acc = dispE (((xs.take (i + 1)).filter p).map kv))) := by
      rintro b L2 ⟨rfl, s2, he⟩
      refine ⟨fun hb => (he hb).imp fun y L3 h3' => h3'.imp fun z L4 ⟨ey, ez, s3⟩ => ⟨(kv x).1, L', ey, s3, hlt, rfl, ?_⟩, fun hb => ⟨L', s2, hlt, rfl, ?_⟩⟩
      · rw [tk, List.filter_append, List.map_append, List.filter_cons, if_pos hb, ez, h3]
        exact (dispE_snoc _ _).symm
      · rw [tk, List.filter_append, List.map_append, h3, List.filter_cons, if_neg (by rw [hb]; decide)]
        simp
    match ifs, k with
    | [], k => exact step k
    | [c], k => exact fun X S F σ H A Q q => k X S F σ H A Q fun b L2 F2 H2 kb => q b L2 F2 H2 (step kb)
  · subst h2
    rw [List.length_map, List.take_length] at h3
    rw [h3]
    exact hk Dl
end
/-! ### slices -/
theorem cut_from (xs : List D) (k : Nat) : cutD xs (some (k : Int)) none = xs.drop k := by
  unfold cutD
  have h1 : HT.sIx xs.length 0 (some (k : Int)) = min k xs.length := by
    unfold HT.sIx
    simp
    omega
  have h2 : HT.sIx xs.length xs.length none = xs.length := by
    unfold HT.sIx
    simp
  rw [h1, h2]
  by_cases h : k ≤ xs.length
  · rw [Nat.min_eq_left h, List.take_of_length_le (by rw [List.length_drop]; omega)]
  · rw [Nat.min_eq_right (by omega), List.drop_of_length_le (by omega), List.drop_of_length_le (by omega), List.take_nil]
theorem cut_to (xs : List D) (k : Nat) : cutD xs none (some (k : Int)) = xs.take k := by
  unfold cutD
  have h1 : HT.sIx xs.length 0 none = 0 := by
    unfold HT.sIx
    simp
  have h2 : HT.sIx xs.length xs.length (some (k : Int)) = min k xs.length := by
    unfold HT.sIx
    simp
    omega
  rw [h1, h2, List.drop_zero, Nat.sub_zero, List.take_eq_take_iff]
  omega
theorem zipD_map {α β : Type} (xs : List α) (ys : List β) (f : α → D) (g : β → D) : zipD (xs.map f) (ys.map g) = (xs.zip ys).map fun p => .tup [f p.1, g p.2] := by
  unfold zipD
  rw [List.zip, List.zipWith_map, List.map_zipWith]
/-- a op b op' c, as a test -/
theorem tst_chain2 {M : Mode} {G : List (Option D)} {L : Led} {pos : Pos} {KB : Bool → Led → Prop} {a b c : Expr} {op op' : CmpOp} (h : Ev M G L a fun x L1 => Ev M G L1 b fun y L2 => Op2 M G L2 (compareOp op) x y fun d L3 => ∃ k : Bool, d = .bl k ∧
      (k = true → Ev M G L3 c fun z L4 => Op2 M G L4 (compareOp op') y z fun d L5 => ∃ k : Bool, d = .bl k ∧ KB k L5) ∧ (k = false → KB false L3)) (hm : lastMarks [op, op'] [b, c] = false := by with_unfolding_all rfl) : Tst M G L (.Compare a [op, op'] [b, c] pos) KB := by
  intro X S F σ H A Q q
  refine ⟨_, pt_chain bop bop be be be hm, ?_⟩
  refine h X S F σ H A _ fun x L1 v F1 H1 k1 A1 r1 s1 => ?_
  refine k1 X S F1 σ H1 A1 _ fun y L2 u F2 H2 k2 A2 r2 s2 => ?_
  refine k2 X S F2 σ H2 v u A2 (r1.mono s2) r2 _ fun d L3 w F3 H3 k3 A3 r3 s3 => ?_
  obtain ⟨k, rfl, ht, hf⟩ := k3
  cases r3
  refine ⟨k, rfl, ?_⟩
  cases k with
  | true =>
    rw [if_pos rfl]
    refine ht rfl X S F3 σ H3 A3 _ fun z L4 w4 F4 H4 k4 A4 r4 s4 => ?_
    refine k4 X S F4 σ H4 u w4 A4 (r2.mono (s3.trans s4)) r4 _ fun d L5 w5 F5 H5 k5 A5 r5 s5 => ?_
    obtain ⟨k', rfl, hk'⟩ := k5
    cases r5
    exact ⟨k', rfl, q _ L5 F5 H5 hk' A5 ((((s1.trans s2).trans s3).trans s4).trans s5)⟩
  | false =>
    rw [if_neg Bool.false_ne_true]
    exact ⟨false, rfl, q _ L3 F3 H3 (hf rfl) A3 ((s1.trans s2).trans s3)⟩
end TL

namespace TL
open PySem L2 PySem.Spec PyProof.Rows
theorem at_nat {α : Type} {xs : List α} {z : Int} {j : Nat} {v : α} (e : z = (j : Int)) (h : xs[j]? = some v) : atI xs z = some v := by
  rw [e]
  exact atI_nat h
section
variable {M : Mode} {G : List (Option D)} {L : Led}
theorem evp_n {K : Option Int → Led → Prop} (h : K none L) : EvP M G L none K := h
theorem evp_i {i : Int} {j : Nat} {pos : Pos} {K : Option Int → Led → Prop} (h : K (some i) L) : EvP M G L (some (.Constant (.int i) j pos)) K := ev_int ⟨_, rfl, h⟩
theorem evp_s {e : Expr} {K : Option Int → Led → Prop} (h : Ev M G L e fun d L1 => ∃ i, d = .int i ∧ K (some i) L1) : EvP M G L (some e) K := h
end
end TL
namespace TL
open PySem L2 PySem.Spec PyProof.Rows
section
variable {M : Mode} {G : List (Option D)} {L : Led} {pos : Pos}
/-- xs[i] = .. -/
theorem tgt_sub {o i : Expr} {d : D} {K : List (Option D) → Led → Prop} (h : Ev M G L o fun x L1 => Ev M G L1 i fun y L2 => ∃ (l : Addr) (ds : List D) (k : Int) (j : Nat) (L3 : Led), x = .ref l ∧ y = .int k ∧ ixN ds.length k = some j ∧ Chg L2 l (.lst ds) (.lst (ds.set j d)) L3 ∧ K G L3)
    (ha : ∀ (X : Cx) v, assign (.Subscript o i pos) X.env v = (do
      let ov ← holding [v] (eval o X.env)
      let iv ← holding [v, ov] (eval i X.env)
      standAt pos
      holding [v, ov, iv] (setItem ov iv v)
      release [v, ov, iv] []) := by intro _ _; rfl) : Tgt M G L (.Subscript o i pos) d K := by
  intro X S F σ H v A r Q q
  refine ⟨_, pg_sub be be set_list (ha X), ?_⟩
  refine h X S F σ H A _ fun x L1 v1 F1 H1 k1 A1 r1 s1 => ?_
  refine k1 X S F1 σ H1 A1 _ fun y L2 u F2 H2 k2 A2 r2 s2 => ?_
  obtain ⟨l, ds, k, j, L3, rfl, rfl, hj, ch, hk⟩ := k2
  cases r2
  cases r1
  obtain ⟨ow, _, _⟩ := A2.own _ ch.mem
  cases ow with
  | lst e1 e2 =>
    refine ⟨l, _, k, j, rfl, rfl, e1, by rw [← e2.length]; exact hj, ?_⟩
    exact q G L3 F2 σ _ hk (A2.chg ch (.lst upd_same (e2.set j (r.mono (s1.trans s2))))) (s1.trans s2)
end
end TL
namespace TL
open PySem L2
section
variable {M : Mode} {G : List (Option D)} {L : Led} {pos : Pos} {rest : List Stmt} {E : TD}
theorem Run.mono {ss : List Stmt} {Q Q' : List (Option D) → Led → Prop} (k : ∀ G L, Q G L → Q' G L) (h : Run M G L ss { E with nx := Q }) : Run M G L ss { E with nx := Q' } :=
  fun X S F σ H A D o => h X S F σ H A D ⟨fun G L F σ H q => o.nx G L F σ H (k G L q), o.rt, o.bk, o.ct⟩
/-- an if, with a word for where its ways meet -/
theorem run_ifQ (Q : List (Option D) → Led → Prop) {c : Expr} {a b : List Stmt} (h : Tst M G L c fun k L1 => (k = true → Run M G L1 a { E with nx := Q }) ∧ (k = false → Run M G L1 b { E with nx := Q })) (kq : ∀ G' L', Q G' L' → Run M G' L' rest E) :
    Run M G L (.If c a b pos :: rest) E := by
  refine run_if fun X S F σ H A QQ qq => ?_
  exact h X S F σ H A QQ fun k L1 F1 H1 hk A1 s1 => qq k L1 F1 H1 ⟨fun e => (hk.1 e).mono kq, fun e => (hk.2 e).mono kq⟩ A1 s1
end
end TL

namespace TL
open PySem L2 PySem.Spec PyProof.Rows
section
variable {M : Mode} {G : List (Option D)} {L : Led} {K : D → Led → Prop} {pos : Pos}
/-! ### made and frozen at once -/
theorem op_frz {f : Value → Value → Sem Value} {x y : D} (h : Op2 M G L f x y fun d L1 => ∃ p o L2, d = .ref p ∧ Out L1 p o L2 ∧ K o.frz L2) : Op2 M G L f x y K := fun X S F σ H v u A r1 r2 Q q =>
  h X S F σ H v u A r1 r2 Q fun d L1 w F1 H1 ⟨p, o, L2, ed, ho, k⟩ A1 r1 s1 => by
    subst ed
    cases r1
    obtain ⟨F2, A2, s2, r2⟩ := A1.freeze ho
    exact q _ L2 _ F2 H1 k A2 r2 (s1.trans s2)
theorem op_catF {x y : D} {ds es : List D} (hx : IsL L x ds) (hy : IsL L y es) (hl : ds.length + es.length ≤ sizeLine) (h : K (.lst (ds ++ es)) L) : Op2 M G L (binaryOp .Add) x y K :=
  op_frz (op_catL hx hy hl fun p => ⟨p, _, _, rfl, .here, h⟩)
theorem sl_frz {x : D} {lo hi : Option Int} (h : SlV M G L x lo hi fun d L1 => ∃ p o L2, d = .ref p ∧ Out L1 p o L2 ∧ K o.frz L2) : SlV M G L x lo hi K := fun X S F σ H v A r1 Q q =>
  h X S F σ H v A r1 Q fun d L1 w F1 H1 ⟨p, o, L2, ed, ho, k⟩ A1 r1 s1 => by
    subst ed
    cases r1
    obtain ⟨F2, A2, s2, r2⟩ := A1.freeze ho
    exact q _ L2 _ F2 H1 k A2 r2 (s1.trans s2)
theorem sl_LF {x : D} {ds : List D} {lo hi : Option Int} (hx : IsL L x ds) (h : K (.lst (cutD ds lo hi)) L) : SlV M G L x lo hi K := sl_frz (sl_L hx fun p => ⟨p, _, _, rfl, .here, h⟩)
theorem ev_lstF {es : List Expr} (h : EvA M G L es fun ds L1 => ds.length ≤ sizeLine ∧ K (.lst ds) L1) : Ev M G L (.List es pos) K :=
  ev_frz (ev_lst fun X S F σ H A Q q => h X S F σ H A Q fun ds L1 vs F1 H1 ⟨h1, h2⟩ => q ds L1 vs F1 H1 ⟨h1, fun p => ⟨p, _, _, rfl, .here, h2⟩⟩)
theorem ev_dnewF (h : K (.dK []) L) : Ev M G L (.Dict [] [] pos) K := ev_frz (ev_dnew fun p => ⟨p, _, _, rfl, .here, h⟩)
/-- {k: v}, one entry -/
theorem ev_disp1 {k v : Expr} (h : ∀ p, Ev M G ((p, .dK []) :: L) k fun x L1 => Ev M G L1 v fun y L2 => ∃ (kk : Key), x = .v (kV kk) ∧ ∃ L', L2 = (p, .dK []) :: L' ∧ K (.dK [(kk, y)]) L') : Ev M G L (.Dict [some k] [v] pos) K := by
  refine ev_frz (ev_disp (fun p => ?_) (h15 := show 1 ≤ 15 by decide))
  show Ev M G _ k fun x L1 => Ev M G L1 v fun y L2 => _
  refine (h p).imp fun x L1 h1 => h1.imp fun y L2 ⟨kk, ex, L', eL, hk⟩ => ?_
  subst ex eL
  exact ⟨[(kk, y)], _, rfl, .here, (show 1 ≤ 15 by decide), p, _, _, rfl, .here, hk⟩
/-- a, b: own objects handed to a callee, on top of the ledger -/
theorem callsT {Lc R : Led} {sp : Prm} {ds : List D} (h : sp ds Lc (fun d L' => K d (L' ++ R)) (fun ex L' => M.T ex G (L' ++ R))) : Calls M G sp ds (Lc ++ R) K := ⟨Lc, R, List.Perm.refl _, fun L' => L' ++ R, fun _ => List.Perm.refl _, h⟩
theorem app_len (a b : Str) : (a ++ b).length = a.length + b.length := by
  show (a ++ b).cps.size = a.cps.size + b.cps.size
  show (a.cps ++ b.cps).size = _
  rw [Array.size_append]
end
end TL
namespace TL
open PySem L2
def Len (n : Nat) (a : Str) : Prop := a.length ≤ n
theorem len_lit {a : Str} : Len a.length a := Nat.le_refl _
theorem len_app {a b : Str} {n m : Nat} (h : Len n a) (g : Len m b) : Len (n + m) (a ++ b) := by
  unfold Len at *
  rw [app_len]
  omega
theorem op_addL {M : Mode} {G : List (Option D)} {L : Led} {K : D → Led → Prop} {i j : Str} {n m : Nat} (h : Len n i) (g : Len m j) (hs : n + m ≤ sizeLine) (k : K (.str (i ++ j)) L) : Op2 M G L (binaryOp .Add) (.str i) (.str j) K :=
  op_addS (Nat.le_trans (Nat.add_le_add h g) hs) k
end TL
namespace TL
open PySem L2
theorem strD_map (ls : List Str) : (ls.map D.str).map strD = ls := by
  rw [List.map_map]
  exact List.map_id _
theorem isStr_map (ls : List Str) : (ls.map D.str).all isStr = true := by
  rw [List.all_map]
  exact List.all_eq_true.mpr fun _ _ => rfl
theorem sum_len : ∀ (ls : List Str), (∀ x ∈ ls, x.length ≤ 1000) → (ls.map (·.length)).sum ≤ ls.length * 1000
  | [], _ => Nat.le_refl _
  | a :: l, h => by
    have h1 := h a List.mem_cons_self
    have h2 := sum_len l fun x hx => h x (List.mem_cons_of_mem _ hx)
    simp only [List.map_cons, List.sum_cons, List.length_cons]
    omega
/-- sep.join of a list of texts -/
theorem ev_joinL {M : Mode} {G : List (Option D)} {L : Led} {pos : Pos} {K : D → Led → Prop} {apos : Pos} {o e : Expr} (h : Ev M G L o fun x L1 => ∃ a, x = .str a ∧ Ev M G L1 e fun y L2 => ∃ ls : List Str, IsSq L2 y (ls.map D.str) ∧ (∀ x ∈ ls, x.length ≤ 1000) ∧ ls.length ≤ 1000 ∧ a.length ≤ 1000 ∧ K (.str (Txt.join a ls)) L2)
    (k : (Ev M G L o fun x L1 => ∃ a, x = .str a ∧ Ev M G L1 e fun y L2 => ∃ ds, IsSq L2 y ds ∧ ds.all isStr = true ∧ ((ds.map strD).map (·.length)).sum + (ds.map strD).length * a.length ≤ 16777216 ∧ K (.str (Txt.join a (ds.map strD))) L2) → Ev M G L (.Call (.Attribute o "join" apos) [e] [] pos) K) :
    Ev M G L (.Call (.Attribute o "join" apos) [e] [] pos) K := by
  refine k (h.imp fun x L1 ⟨a, ex, h1⟩ => ⟨a, ex, h1.imp fun y L2 ⟨ls, h2, h3, h4, h5, h6⟩ => ⟨_, h2, isStr_map ls, ?_, ?_⟩⟩)
  · rw [strD_map]
    have := sum_len ls h3
    have h7 : ls.length * a.length ≤ 1000 * 1000 := Nat.mul_le_mul h4 h5
    omega
  · rw [strD_map]
    exact h6
end TL

namespace TL
open PySem L2 PySem.Spec
/-! ### == of data at any depth -/
def flatPy : V → Option PyData
  | .non => some .none
  | .bl b => some (.bool b)
  | .int i => some (.int i)
  | .str z => some (.str z)
  | _ => none
mutual
inductive PyOf (L : Led) : D → PyData → Prop
  | v {x : V} {e : PyData} : flatPy x = some e → PyOf L (.v x) e
  | tup {ds : List D} {es : List PyData} : PyAll L ds es → PyOf L (.tup ds) (.tuple es)
  | lst {x : D} {ds : List D} {es : List PyData} : IsL L x ds → PyAll L ds es → PyOf L x (.list es)
inductive PyAll (L : Led) : List D → List PyData → Prop
  | nil : PyAll L [] []
  | cons {d : D} {ds : List D} {e : PyData} {es : List PyData} : PyOf L d e → PyAll L ds es → PyAll L (d :: ds) (e :: es)
end
section
variable {K : PySem.W.Frag} {H0 F0 F H : Hp} {G : List (Option D)} {L : Led} {σ : St}
mutual
theorem PyOf.dp (A : At K H0 F0 G L F σ H) : ∀ (e : PyData) (x : D) (v : V), PyOf L x e → Rep K F x v → Dp K H v e
  | .none, _, _, h, r => by
    cases h with
    | v q => cases r; rename_i x; cases x <;> first | cases q; exact .non | cases q
  | .bool b, _, _, h, r => by
    cases h with
    | v q => cases r; rename_i x; cases x <;> first | cases q; exact .bl _ | cases q
  | .int b, _, _, h, r => by
    cases h with
    | v q => cases r; rename_i x; cases x <;> first | cases q; exact .int _ | cases q
  | .str b, _, _, h, r => by
    cases h with
    | v q => cases r; rename_i x; cases x <;> first | cases q; exact .str _ | cases q
  | .list es, _, _, h, r => by
    cases h with
    | v q => rename_i x; cases x <;> cases q
    | lst i a =>
      obtain ⟨p, vs, rfl, h1, h2⟩ := i.get A r
      exact .lst (SqL.of h1) (PyOf.dpAll A es _ vs a h2)
  | .tuple es, _, _, h, r => by
    cases h with
    | v q => rename_i x; cases x <;> cases q
    | tup a =>
      obtain ⟨p, vs, rfl, h1, h2⟩ := tup_get A r
      exact .tup h1 (PyOf.dpAll A es _ vs a h2)
  | .dict es, _, _, h, r => by
    cases h with
    | v q => rename_i x; cases x <;> cases q
theorem PyOf.dpAll (A : At K H0 F0 G L F σ H) : ∀ (es : List PyData) (ds : List D) (vs : List V), PyAll L ds es → RepA K F ds vs → DpAll K H vs es
  | [], _, _, h, r => by cases h; cases r; exact .nil
  | e :: es, _, _, h, r => by
    cases h with
    | cons h1 h2 =>
      cases r with
      | cons r1 r2 => exact .cons (PyOf.dp A e _ _ h1 r1) (PyOf.dpAll A es _ _ h2 r2)
end
end
section
variable {M : Mode} {G : List (Option D)} {L : Led} {K : D → Led → Prop} {pos : Pos}
theorem sit_64 {X : Cx} (S : Sit M X) (hc : M.C.cm = true) : X.A.units + 64 < cLine := (S.ok.room hc).units
theorem op_eqP (hc : M.C.cm = true) {x y : D} {d e : PyData} (hx : PyOf L x d) (hy : PyOf L y e) (sd : SeqAt.shaped d = true) (se : SeqAt.shaped e = true) (h : K (.bl (PyData.eqv d e)) L) : Op2 M G L (compareOp .Eq) x y K := by
  intro X S F σ H v u A rx ry Q q
  refine ⟨_, op_eqD (sit_64 S hc), d, e, ?_, ?_, sd, se, q _ L _ F H h A (.v _) (Same.refl _)⟩
  · rw [← S.ok.eK]; exact PyOf.dp A d x v hx rx
  · rw [← S.ok.eK]; exact PyOf.dp A e y u hy ry
theorem op_neP (hc : M.C.cm = true) {x y : D} {d e : PyData} (hx : PyOf L x d) (hy : PyOf L y e) (sd : SeqAt.shaped d = true) (se : SeqAt.shaped e = true) (h : K (.bl (!PyData.eqv d e)) L) : Op2 M G L (compareOp .NotEq) x y K := by
  intro X S F σ H v u A rx ry Q q
  refine ⟨_, op_neD (sit_64 S hc), d, e, ?_, ?_, sd, se, q _ L _ F H h A (.v _) (Same.refl _)⟩
  · rw [← S.ok.eK]; exact PyOf.dp A d x v hx rx
  · rw [← S.ok.eK]; exact PyOf.dp A e y u hy ry
/-! ### f-strings -/
/-- a part's text -/
def FmD (d : D) (z : Str) : Prop := (d = .str z ∧ z.length ≤ sizeLine) ∨ ∃ i : Int, d = .int i ∧ i.natAbs.log2 < 1920 ∧ z = toString i
def tB2 {X : Cx} (e : Expr) : TE := fun σ H Q => GE X e σ H Q
theorem ev_fmt {e : Expr} (h : Ev M G L e fun d L1 => ∃ z, FmD d z ∧ K (.str z) L1) : Ev M G L (.FormattedValue e (-1) none pos) K := by
  intro X S F σ H A Q q
  refine ⟨_, pe_fmt be, ?_⟩
  refine h X S F σ H A _ fun d L1 v F1 H1 k1 A1 r1 s1 => ?_
  obtain ⟨z, hz, hk⟩ := k1
  rcases hz with ⟨rfl, hl⟩ | ⟨i, rfl, hl, rfl⟩
  · cases r1
    exact .inl ⟨z, rfl, hl, q _ L1 _ F1 H1 hk A1 (.v _) s1⟩
  · cases r1
    exact .inr ⟨i, rfl, hl, q _ L1 _ F1 H1 hk A1 (.v _) s1⟩
theorem ev_joined3 {a b c : Expr} (h : Ev M G L a fun x L1 => ∃ u : Str, x = .str u ∧ (Str.empty ++ u).length ≤ sizeLine ∧ Ev M G L1 b fun y L2 => ∃ v : Str, y = .str v ∧ (Str.empty ++ u ++ v).length ≤ sizeLine ∧
    Ev M G L2 c fun z L3 => ∃ t : Str, z = .str t ∧ (Str.empty ++ u ++ v ++ t).length ≤ sizeLine ∧ K (.str (Str.empty ++ u ++ v ++ t)) L3) : Ev M G L (.JoinedStr [a, b, c] pos) K := by
  intro X S F σ H A Q q
  refine ⟨_, pe_joined (.cons be (.cons be (.cons be .nil))), ?_⟩
  refine h X S F σ H A _ fun x L1 v1 F1 H1 k1 A1 r1 s1 => ?_
  obtain ⟨u, rfl, l1, k1⟩ := k1
  cases r1
  refine ⟨u, rfl, l1, ?_⟩
  refine k1 X S F1 σ H1 A1 _ fun y L2 v2 F2 H2 k2 A2 r2 s2 => ?_
  obtain ⟨v, rfl, l2, k2⟩ := k2
  cases r2
  refine ⟨v, rfl, l2, ?_⟩
  refine k2 X S F2 σ H2 A2 _ fun z L3 v3 F3 H3 k3 A3 r3 s3 => ?_
  obtain ⟨t, rfl, l3, k3⟩ := k3
  cases r3
  exact ⟨t, rfl, l3, q _ L3 _ F3 H3 k3 A3 (.v _) ((s1.trans s2).trans s3)⟩
end
end TL

namespace TL
open PySem L2 PySem.Spec
/-! ### enumerate of a tuple -/
def ItU (K : PySem.W.Frag) (a : Addr) : It where
  go := fun i H => ∃ (zs : List V) (z : V), SqT K H a zs ∧ zs[i]? = some z
  yld := fun i H v H' => ∃ T z, v = .ref T ∧ H T = none ∧ H' = upd H T (.tup [.int (i : Nat), z]) ∧ ∀ zs, SqT K H a zs → zs[i]? = some z
  stop := fun i H => ∃ zs : List V, SqT K H a zs ∧ zs.length ≤ i
def tnU (a e it : Addr) (i : Nat) (h : Heap) : Prop := (∃ old, IsEnum h e it ((i : Nat) : Int) old) ∧ h.IsTupleIter it a i ∧ e ≠ it
theorem apart_of {h : Heap} {a e it : Addr} {i : Nat} {vs : Array Value} (t : tnU a e it i h) (p : h.IsTuple a vs) : a ≠ it ∧ e ∉ [it, a] := by
  obtain ⟨⟨old, he⟩, ⟨o, ho, hc, hd⟩, hne⟩ := t
  obtain ⟨q, hq, hqc, n, hqd⟩ := p
  have n1 : a ≠ it := by
    rintro rfl
    rw [hq] at ho
    cases ho
    rw [hqd] at hd
    cases hd
  refine ⟨n1, fun hm => ?_⟩
  rcases List.mem_cons.mp hm with r | hm
  · exact hne r
  · have r := List.mem_singleton.mp hm
    subst r
    rw [he] at hq
    cases hq
    cases hqd
theorem turnU {P : Program} {w : World} {K : PySem.W.Frag} {elts : List Expr} {kk : Nat} {tp : Pos} (a e it : Addr) : Turn P w K (.Tuple elts kk tp) (ItU K a) [e, it] e (tnU a e it) where
  mem := List.mem_cons_self
  obj := by
    intro i h t b hb
    obtain ⟨⟨old, he⟩, ⟨o, ho, hc, hd⟩, _⟩ := t
    rcases List.mem_cons.mp hb with z | hb
    · subst z; exact ⟨_, he, fun v q => nomatch q⟩
    · rw [List.mem_singleton.mp hb]; exact ⟨o, ho, fun v q => by rw [hd] at q; cases q⟩
  keep := by
    intro i h h' t k
    obtain ⟨⟨old, he⟩, hi, hne⟩ := t
    exact ⟨⟨old, k e (by simp) _ he⟩, hi.at fun o q => k it (by simp) o q, hne⟩
  item := by
    intro X hP hw hK hc i pins s σ H E I hf t hg
    subst hP hw hK
    obtain ⟨zs, z, hq, hx⟩ := hg
    obtain ⟨its, rv, p, hz⟩ := I.tuple hq
    obtain ⟨u, hu, ru⟩ := rv.get hx
    obtain ⟨ha, hm⟩ := apart_of t p
    obtain ⟨⟨old, he⟩, hit, hne⟩ := t
    have hel := Heap.lt_size he
    have hil : it < s.heap.objs.size := by
      obtain ⟨_, q, _⟩ := hit
      exact Heap.lt_size q
    have dr := Draws.tuple (prog := X.prog) (w := X.w) (A := X.A.in1) (I.ok.hd hc) it a ha its.toArray
    have hlt : i < its.toArray.size := by
      obtain ⟨g, _⟩ := List.getElem?_eq_some_iff.mp hu
      simpa using g
    refine wpAny_pyNext_enum_itemD dr he ⟨hit, p⟩ hlt hne hm fun y h1 tk hy ho hst hT hsz hk => ?_
    have ey : y = u := by
      have hy' : its[i]? = some y := by simpa using hy
      rw [hu] at hy'
      exact (Option.some.inj hy').symm
    subst ey
    refine ⟨_, rfl, wpAny_letOwnedTupleGo_enum (s := { s with heap := h1, toks := tk + 1 }) ho fun h2 he2 sb => ?_⟩
    have hT2 := (sb.2 _ (Nat.ne_of_gt hel)).trans hT
    have fresh : ObjOk X.prog X.w (upd H s.heap.objs.size (.tup [.int (i : Nat), z])) h2 s.heap.objs.size (.tup [.int (i : Nat), z]) :=
      ⟨(by decide : 2 ≤ sizeLine), [.int i tk, y], .cons ⟨_, rfl⟩ (.cons ru .nil), ⟨_, hT2, rfl, _, rfl⟩⟩
    have I1 : Inv X pins σ (upd H s.heap.objs.size (.tup [.int (i : Nat), z])) { s with heap := h2, toks := tk + 1 } :=
      I.turnedNew (ch := [e, it]) (fun b ob hb q => (sb.2 b (fun c => hb (by simp [c]))).trans (hk b ob (fun c => hb (by simp [c])) (fun c => hb (by simp [c])) q)) hf (Nat.le_refl _) fresh
    refine ⟨.ref s.heap.objs.size, _, I1, rfl, ⟨_, z, rfl, I.hok.fresh (Nat.le_refl _), rfl, fun ys hy => ?_⟩, ⟨⟨y, ?_⟩, hst.1.at fun o q => (sb.2 it (Ne.symm hne)).trans q, hne⟩, fun b hb => ?_⟩
    · rw [I.tuple_inj hy hq]
      exact hx
    · have e1 : ((i + 1 : Nat) : Int) = (i : Int) + 1 := by omega
      rw [e1]
      exact he2
    · have hb' : b < s.heap.objs.size := by
        rcases List.mem_cons.mp hb with c | hb
        · rw [c]; exact hel
        · rw [List.mem_singleton.mp hb]; exact hil
      rw [upd_ne (Nat.ne_of_lt hb')]
      exact (hf b hb).1
  done := by
    intro X hP hw hK hc i pins s σ H E I hf t hg
    subst hP hw hK
    obtain ⟨zs, hq, hx⟩ := hg
    obtain ⟨its, rv, p, hz⟩ := I.tuple hq
    obtain ⟨ha, hm⟩ := apart_of t p
    obtain ⟨⟨old, he⟩, hit, hne⟩ := t
    have hl := rv.length
    obtain ⟨f0, f1, f2, f3, f4, f5⟩ := hf it (by simp)
    have dr : Draws X.prog X.w X.A.in1 it [it, a] i (fun _ _ => False) (fun j h => j = i ∧ h.IsTupleIter it a i ∧ h.IsTuple a its.toArray) := by
      refine ⟨fun j h t => ?_, fun j h h' t k => ?_, fun j s2 Q2 E2 hj t _ => absurd t.1 (Nat.ne_of_lt hj), fun s2 Q2 E2 t hE => ?_⟩
      · obtain ⟨o, ho, _⟩ := t.2.1
        exact ⟨o, ho⟩
      · exact ⟨t.1, t.2.1.at fun o q => k it (by simp) o q, t.2.2.at fun o q => k a (by simp) o q⟩
      · exact wpAny_nextOf_tuple_end (I.ok.hd hc) t.2.1 t.2.2 (by simp; omega) hE
    exact wpAny_pyNext_enum_endD dr he ⟨rfl, hit, p⟩ fun h1 eb => ⟨rfl, I.turned (t' := s.toks) (fun b o hb q => eb b o hb q) f0 f1 f3 f4 f5⟩
  self := fun A i s Q E t h => by
    obtain ⟨⟨_, he⟩, _⟩ := t
    exact wpAny_pyIter_enum he h
abbrev enO (i : Addr) : Obj := { cls := .type "enumerate", data := .fields #[.none, .bool false, .ref i, rawInt 0, .none, .none] }
set_option maxHeartbeats 1000000 in
theorem en_meets {u : Value} {ob : Obj} {HH : Heap → Prop} (B : Begins u ob HH) :
    Meets (Builtin.«enumerate.__new__» ⟨[.type "enumerate", u], []⟩) (fun _ R s => HH s.heap ∧ R (.ok (.ret (.ref (s.heap.push ob).objs.size))) { s with heap := (s.heap.push ob).push (enO s.heap.objs.size) }) :=
  .of_wp fun prog w A R s h => by
    obtain ⟨hp, g, d, tk, os⟩ := s
    obtain ⟨h1, h⟩ := h
    have hsub := sub_enumerate
    have q1 : ∀ {A2 : Around} {E2 Q2 : Value → Shared → Prop}, Q2 (.ref hp.objs.size) ⟨hp.push ob, g, d, tk, os⟩ → wpAny (model prog w) A2 (pyIter u) Q2 E2 ⟨hp, g, d, tk, os⟩ :=
      fun q => B.iter prog w _ _ ⟨hp, g, d, tk, os⟩ _ h1 q
    wp_walk using q1
    refine wpAny_stack_any fun st => wpAny_pure ?_
    split
    · rename_i c _ _ _ _ _
      cases (c == Value.type "enumerate")
      · wp_walk using q1
        exact ⟨_, rfl, h⟩
      · wp_walk using q1
        exact ⟨_, rfl, h⟩
    · wp_walk using q1
      exact ⟨_, rfl, h⟩
theorem en_call {prog : Program} {w : World} {A : Around} {E : Value → Shared → Prop} {s : Shared} {u : Value} {ob : Obj} {HH : Heap → Prop} {Q : Value → Shared → Prop} (B : Begins u ob HH) (h1 : HH s.heap)
    (h : ∀ h2, IsEnum h2 (s.heap.objs.size + 1) s.heap.objs.size 0 .none → h2.get? s.heap.objs.size = some ob → h2.objs.size = s.heap.objs.size + 2 → (∀ b o, s.heap.get? b = some o → h2.get? b = some o) → Q (.ref (s.heap.objs.size + 1)) { s with heap := h2 }) :
    wpAny (model prog w) A (call (.type "enumerate") [u]) Q E s := by
  refine callType_new F.called_enumerate (by decide) (F.typeCall_enumerate_1 _) (F.newCall_enumerate_1 _) (fun obj => F.args_object_init_2 obj _) F.entry_enumerate_new (en_meets B) ⟨h1, ?_⟩
  have z1 : (s.heap.push ob).objs.size = s.heap.objs.size + 1 := Heap.size_push ..
  have he : IsEnum ((s.heap.push ob).push (enO s.heap.objs.size)) (s.heap.objs.size + 1) s.heap.objs.size 0 .none := by
    have z2 := Heap.get?_push_size (s.heap.push ob) (o := enO s.heap.objs.size) rfl
    rw [z1] at z2
    exact z2
  show _ ∧ _
  rw [z1]
  exact ⟨⟨_, he, rfl⟩, h _ he (Heap.get?_push_of_some _ (Heap.get?_push_size _ B.free)) (by rw [Heap.size_push, z1]) fun b o x => Heap.get?_push_of_some _ (Heap.get?_push_of_some _ x)⟩
def iEnU (K : PySem.W.Frag) (ta : TA) : TI := fun σ H R => ta σ H fun vs H1 => ∃ a xs, vs = [.ref a] ∧ SqT K H1 a xs ∧ R (ItU K a) H1
theorem pi_enumU {X : Cx} {e : Expr} {ta : TA} {p pos tp : Pos} {elts : List Expr} {kk : Nat} (hg : Gl X "enumerate") (hm : X.mg "enumerate" = none) (ha : PA X [e] ta) (hs : starEach [e] X.env = [(false, eval e X.env)] := by rfl) :
    PI X (.Tuple elts kk tp) (.Call (.Name "enumerate" p) [e] [] pos) (iEnU X.K ta) := by
  refine ⟨fun pins s σ H R I h => ?_⟩
  refine PyProof.Rows.Call_ (ld_blt I hg hm PyProof.Rows.boot_enumerate (PyProof.Rows.callWith_type1 (thn (ha.run pos pins s σ H _ I h) fun us s1 ⟨vs, H1, I1, r1, q1⟩ => ?_) hs rfl))
  obtain ⟨a, xs, rfl, hq, q⟩ := q1
  cases r1 with
  | cons r rr =>
  cases rr
  cases r
  obtain ⟨its, rv, pt, hz⟩ := I1.tuple hq
  refine en_call (begins_tuple a its.toArray) pt fun h2 he hit hsz hk => wpAny_pyIter_enum he ?_
  have I2 : Inv X pins σ H1 { s1 with heap := h2 } := I1.kept (t' := s1.toks) hk
  refine ⟨s1.heap.objs.size + 1, [s1.heap.objs.size + 1, s1.heap.objs.size], _, _, H1, rfl, I2, turnU a (s1.heap.objs.size + 1) s1.heap.objs.size, ⟨⟨.none, he⟩, ⟨_, hit, rfl, rfl⟩, Nat.succ_ne_self _⟩, fun b hb => ?_, q⟩
  have hle : s1.heap.objs.size ≤ b := by
    rcases List.mem_cons.mp hb with z | hb
    · rw [z]; exact Nat.le_add_right _ _
    · rw [List.mem_singleton.mp hb]; exact Nat.le_refl _
  exact I1.fpOk hle (I1.hok.fresh hle)
section
variable {M : Mode} {G : List (Option D)} {L : Led} {pos : Pos}
theorem ei_enumT {elts : List Expr} {kk : Nat} {tpos p : Pos} {e : Expr} {K : Led → List D → Led → Prop} (hg : GlC M.C "enumerate") (hm : M.C.mg "enumerate" = none)
    (h : Ev M G L e fun d L1 => ∃ ds, d = .tup ds ∧ K [] (enumD ds) L1) (hs : ∀ X : Cx, starEach [e] X.env = [(false, eval e X.env)] := by intro _; rfl) : EvI M G L (.Tuple elts kk tpos) (.Call (.Name "enumerate" p) [e] [] pos) K := by
  intro X S F σ H A R q
  refine ⟨_, pi_enumU (gl_of S hg) (mg_of S hm) (pa_cons be pa_nil (hs X)) (hs X), ?_⟩
  refine h X S F σ H A _ fun d L1 v F1 H1 k1 A1 r1 s1 => ?_
  obtain ⟨ds, rfl, hk⟩ := k1
  obtain ⟨p, vs, rfl, h1, h2⟩ := tup_get A1 r1
  refine ⟨p, vs, rfl, by rw [← S.ok.eK]; exact h1, q _ _ _ L1 F1 H1 hk (fun G' L' F' σ' H' A' hs i => ⟨fun d hd' => ?_, fun hi => ?_⟩) A1 s1⟩
  · obtain ⟨x, hx, rfl⟩ := enum_get hd'
    obtain ⟨p', vs', e', h1', h2'⟩ := tup_get A' (r1.mono A'.ef)
    cases e'
    obtain ⟨w, hw, rw'⟩ := h2'.get hx
    have h1'' : SqT X.K H' p vs' := by rw [← S.ok.eK]; exact h1'
    refine ⟨⟨vs', w, h1'', hw⟩, fun x H2 ⟨T, y, e1, hT, e2, y2⟩ => ?_⟩
    subst e1 e2
    have e3 := y2 vs' h1''
    rw [hw] at e3
    cases e3
    obtain ⟨A2, s2⟩ := A'.ice (o := .tup [.int (i : Nat), w]) hT
    exact ⟨_, A2, .tup upd_same (.cons (.v _) (.cons (rw'.mono s2) .nil))⟩
  · obtain ⟨p', vs', e', h1', h2'⟩ := tup_get A' (r1.mono A'.ef)
    cases e'
    refine ⟨vs', by rw [← S.ok.eK]; exact h1', ?_⟩
    rw [← h2'.length]
    unfold enumD at hi
    simpa using hi
end
end TL

namespace TL
open PySem L2 PySem.Spec
section
variable {M : Mode} {G : List (Option D)} {K : D → Led → Prop} {sp : Prm} {ds : List D} {a b c d : Addr × OW} {R : Led}
/-- one own object handed to a callee, its place kept -/
theorem calls_1 (h : sp ds [a] (fun v L' => K v (L' ++ R)) (fun ex L' => M.T ex G (L' ++ R))) : Calls M G sp ds (a :: R) K :=
  ⟨[a], R, List.Perm.refl _, fun L' => L' ++ R, fun _ => List.Perm.refl _, h⟩
theorem calls_2 (h : sp ds [b] (fun v L' => K v (a :: (L' ++ R))) (fun ex L' => M.T ex G (a :: (L' ++ R)))) : Calls M G sp ds (a :: b :: R) K :=
  ⟨[b], a :: R, .swap _ _ _, fun L' => a :: (L' ++ R), fun _ => List.perm_middle, h⟩
theorem calls_3 (h : sp ds [c] (fun v L' => K v (a :: b :: (L' ++ R))) (fun ex L' => M.T ex G (a :: b :: (L' ++ R)))) : Calls M G sp ds (a :: b :: c :: R) K :=
  ⟨[c], a :: b :: R, (List.perm_middle (l₁ := [a, b])).symm, fun L' => a :: b :: (L' ++ R), fun L' => (List.perm_middle.trans (.cons _ List.perm_middle)), h⟩
theorem calls_4 (h : sp ds [d] (fun v L' => K v (a :: b :: c :: (L' ++ R))) (fun ex L' => M.T ex G (a :: b :: c :: (L' ++ R)))) : Calls M G sp ds (a :: b :: c :: d :: R) K :=
  ⟨[d], a :: b :: c :: R, (List.perm_middle (l₁ := [a, b, c])).symm, fun L' => a :: b :: c :: (L' ++ R), fun L' => (List.perm_middle.trans (.cons _ (List.perm_middle.trans (.cons _ List.perm_middle)))), h⟩
end
section
variable {M : Mode} {G : List (Option D)} {α : Type}
/-- a loop over items known as a map -/
theorem for_map (xs : List α) (g : α → D) {tg : Expr} {body : List Stmt} {E : TD} {src : Led} {items : List D} {L1 : Led} (he : items = xs.map g) (I : Nat → List (Option D) → Led → Prop) (h0 : I 0 G L1) (hs : ∀ i G' L', I i G' L' → ∀ s ∈ src, s ∈ L')
    (turn : ∀ F1 i x G' L', xs[i]? = some x → i < xs.length → I i G' L' → Tgt (M.fix F1) G' L' tg (g x) fun G2 L2 => Run (M.fix F1) G2 L2 body (E.turn (I (i + 1)) E.nx))
    (done : ∀ G' L', I xs.length G' L' → E.nx G' L') : ForInv M G tg body E src items L1 := by
  subst he
  refine ⟨I, h0, hs, fun F1 i d G' L' hd iv => ?_, fun G' L' iv => done G' L' (by rwa [List.length_map] at iv)⟩
  obtain ⟨x, hx, rfl, _, hlt, _⟩ := take_map hd
  exact turn F1 i x G' L' hx hlt iv
/-- .. the ledger's and the slots' word by the part that was walked -/
theorem for_pre (xs : List α) (g : α → D) {tg : Expr} {body : List Stmt} {E : TD} {src : Led} {items : List D} {L1 : Led} (he : items = xs.map g) (I : List α → List (Option D) → Led → Prop) (h0 : I [] G L1) (hs : ∀ p G' L', I p G' L' → ∀ s ∈ src, s ∈ L')
    (turn : ∀ F1 pre x suf G' L', xs = pre ++ x :: suf → I pre G' L' → Tgt (M.fix F1) G' L' tg (g x) fun G2 L2 => Run (M.fix F1) G2 L2 body (E.turn (I (pre ++ [x])) E.nx))
    (done : ∀ G' L', I xs G' L' → E.nx G' L') : ForInv M G tg body E src items L1 := by
  refine for_map xs g he (fun i G' L' => I (xs.take i) G' L') h0 (fun i G' L' iv => hs _ G' L' iv) (fun F1 i x G' L' hx hlt iv => ?_) fun G' L' iv => done G' L' (by rwa [List.take_length] at iv)
  have e1 : xs = xs.take i ++ x :: xs.drop (i + 1) := by
    have e2 : xs.drop i = x :: xs.drop (i + 1) := by
      rw [List.drop_eq_getElem_cons hlt, (List.getElem?_eq_some_iff.mp hx).2]
    rw [← e2, List.take_append_drop]
  have e3 : xs.take (i + 1) = xs.take i ++ [x] := by
    rw [List.take_succ, hx]
    rfl
  have t := turn F1 (xs.take i) x (xs.drop (i + 1)) G' L' e1 iv
  rw [← e3] at t
  exact t
end
section
variable {M : Mode} {G : List (Option D)} {K : D → Led → Prop} {α : Type}
theorem lc_inv (xs : List α) (g : α → D) {vs : List Nat} {scope : Scope} {elt tg : Expr} {ifs : List Expr} {src : Led} {items : List D} {L1 : Led} (he : items = xs.map g) (I : Nat → List D → Led → Prop) (h0 : I 0 [] L1)
    (hs : ∀ i acc L', I i acc L' → (∀ s ∈ src, s ∈ L') ∧ acc.length < sizeLine)
    (turn : ∀ F1 Dl i x acc L', xs[i]? = some x → i < xs.length → I i acc L' → TgtN ((M.fix F1).blk scope) (wipeG G vs) ((Dl, .lst acc) :: L') vs tg (g x) fun G2 => TstI ((M.fix F1).blk scope) G2 ((Dl, .lst acc) :: L') ifs fun b L2 =>
      (b = true → Ev ((M.fix F1).blk scope) G2 L2 elt fun y L3 => ∃ L4 : Led, ((Dl, OW.lst acc) :: L4).Sublist L3 ∧ I (i + 1) (acc ++ [y]) L4) ∧ (b = false → ∃ L4 : Led, ((Dl, OW.lst acc) :: L4).Sublist L2 ∧ I (i + 1) acc L4))
    (done : ∀ acc L', I xs.length acc L' → ∀ Dl, K (.ref Dl) ((Dl, .lst acc) :: L')) : LcInv M G vs scope elt tg ifs src items L1 K := by
  subst he
  refine ⟨I, h0, hs, fun F1 Dl i d acc L' hd iv => ?_, fun acc L' iv => done acc L' (by rwa [List.length_map] at iv)⟩
  obtain ⟨x, hx, rfl, _, hlt, _⟩ := take_map hd
  exact turn F1 Dl i x acc L' hx hlt iv
end
theorem rng0 (n : Nat) : rng 0 ((n : Nat) : Int).toNat = (List.range n).map fun i => .int ((i : Nat) : Int) := by
  unfold rng
  rw [Int.toNat_natCast]
  refine List.map_congr_left fun k _ => ?_
  rw [Int.zero_add]
section
variable {M : Mode} {G : List (Option D)} {L : Led} {K : D → Led → Prop} {pos : Pos}
theorem ev_fldN {e : Expr} {f : Str} {Cc : Addr} (n : NoAttr M.C.K Cc f) (c : Cls M.C.K Cc) (h : Ev M G L e fun x L1 => ∃ fs d, IsO L1 x Cc fs ∧ fs.lookup f = some d ∧ K d L1)
    (hb : ∀ X : Cx, attributeBase e f X.env (eval e X.env) = eval e X.env := by intro _; rfl) : Ev M G L (.Attribute e f pos) K := ev_fld c n h hb
theorem fld_of {x : D} {Cc : Addr} {f : Str} {fs : List (Str × D)} {d : D} {Q : D → Prop} (ho : IsO L x Cc fs) (hl : fs.lookup f = some d) (hk : Q d) : ∃ fs d, IsO L x Cc fs ∧ fs.lookup f = some d ∧ Q d := ⟨fs, d, ho, hl, hk⟩
theorem mth_of {x : D} {Cc : Addr} {m : Str} {fs : List (Str × D)} {Q : Prop} (ho : IsO L x Cc fs) (hl : fs.lookup m = none) (hq : Q) : ∃ fs, IsO L x Cc fs ∧ fs.lookup m = none ∧ Q := ⟨fs, ho, hl, hq⟩
end
end TL

namespace TL
open PySem L2 PySem.Spec
def pyV : V → PyData
  | .bl b => .bool b
  | .int i => .int i
  | .str z => .str z
  | _ => .none
def okV : V → Bool
  | .non => true
  | .bl _ => true
  | .int _ => true
  | .str z => PyData.canLay0 (.str z)
  | _ => false
theorem flat_ok {x : V} (h : okV x = true) : flatPy x = some (pyV x) := by
  cases x <;> first | rfl | cases h
theorem okV_can {x : V} (h : okV x = true) : (pyV x).canLay0 = true ∧ (pyV x).depth = 0 := by
  cases x <;> first | exact ⟨h, by simp [pyV, PyData.depth]⟩ | exact ⟨by simp [pyV, PyData.canLay0], by simp [pyV, PyData.depth]⟩ | cases h
theorem pyAll_flat {L : Led} : ∀ {xs : List V}, (∀ x ∈ xs, okV x = true) → PyAll L (xs.map D.v) (xs.map pyV)
  | [], _ => .nil
  | x :: xs, h => .cons (.v (flat_ok (h x List.mem_cons_self))) (pyAll_flat fun y hy => h y (List.mem_cons_of_mem _ hy))
theorem can_flat : ∀ {xs : List V}, (∀ x ∈ xs, okV x = true) → PyData.canLayAll0 (xs.map pyV) = true ∧ PyData.depthAll (xs.map pyV) = 0
  | [], _ => ⟨by simp [PyData.canLayAll0], by simp [PyData.depthAll]⟩
  | x :: xs, h => by
    obtain ⟨a, b⟩ := okV_can (h x List.mem_cons_self)
    obtain ⟨c, d⟩ := can_flat fun y hy => h y (List.mem_cons_of_mem _ hy)
    exact ⟨by simp [PyData.canLayAll0, a, c], by simp [PyData.depthAll, b, d]⟩
theorem shp_list {xs : List V} (h : ∀ x ∈ xs, okV x = true) : SeqAt.shaped (.list (xs.map pyV)) = true := by
  obtain ⟨a, b⟩ := can_flat h
  unfold SeqAt.shaped
  simp [PyData.canLay0, PyData.depth, a, b]
theorem shp_tup {xs : List V} (h : ∀ x ∈ xs, okV x = true) : SeqAt.shaped (.tuple (xs.map pyV)) = true := by
  obtain ⟨a, b⟩ := can_flat h
  unfold SeqAt.shaped
  simp [PyData.canLay0, PyData.depth, a, b]
section
variable {M : Mode} {G : List (Option D)} {L : Led} {K : D → Led → Prop} {pos : Pos}
/-- the same flat list twice -/
theorem op_neSame (hc : M.C.cm = true) {x y : D} {xs : List V} (hx : IsL L x (xs.map D.v)) (hy : IsL L y (xs.map D.v)) (h : ∀ z ∈ xs, okV z = true) (hk : K (.bl false) L) : Op2 M G L (compareOp .NotEq) x y K := by
  refine op_neP hc (.lst hx (pyAll_flat h)) (.lst hy (pyAll_flat h)) (shp_list h) (shp_list h) ?_
  have e : PyData.eqv (.list (xs.map pyV)) (.list (xs.map pyV)) = true := SeqAt.eqv_refl _ (SeqAt.canLay_of_shaped (shp_list h))
  rw [e]
  exact hk
theorem cv_listD (hc : M.C.cm = true) {x : D} {kvs : List (Key × D)} (hx : IsK L x kvs) (h : ∀ p, K (.ref p) ((p, .lst (keysD kvs)) :: L)) : CallV M G L (.type "list") [x] K := by
  intro X S F σ H vs A r Q q
  obtain ⟨v, rfl, rv⟩ := reps1 r
  obtain ⟨p, ws, rfl, h1, h2⟩ := hx.get A rv
  refine ⟨_, call_listD (S.ok.calm hc), p, ws, rfl, h1, fun l hl => ?_⟩
  have e : ∀ {kvs : List (Key × D)} {ws : List (Key × V)}, RepK M.C.K F kvs ws → RepA M.C.K F (keysD kvs) (ws.map fun kv => kV kv.1) := by
    intro kvs
    induction kvs with
    | nil => intro ws h; cases h; exact .nil
    | cons a kvs ih =>
      intro ws h
      cases h with
      | cons h1 h2 => exact .cons (.v _) (ih h2)
  exact q _ _ _ F _ (h l) (A.new hl (.lst upd_same (e h2))) (.v _) (Same.refl _)
end
/-! ### names, checked once for a def -/
def dbOk (N : List Str) : Bool := N.all fun x => !(x == ("__debug__" : Str)) && !(x == ("__classdict__" : Str))
def visL (sc : Scope) (V : List Str) : Bool := V.all fun x => visB sc x
theorem dbOk_mem {N : List Str} {x : Str} (h : dbOk N = true) (hx : x ∈ N) : (x == ("__debug__" : Str)) = false ∧ (x == ("__classdict__" : Str)) = false := by
  have := List.all_eq_true.mp h x hx
  simp only [Bool.and_eq_true, Bool.not_eq_true'] at this
  exact this
theorem visL_mem {sc : Scope} {V : List Str} {x : Str} (h : visL sc V = true) (hx : x ∈ V) : visB sc x = true := List.all_eq_true.mp h x hx
theorem run_with {M : Mode} {G : List (Option D)} {L : Led} {ss : List Stmt} {E : TD} {V : List Str} (h1 : dbOk M.C.N = true) (h2 : visL M.C.sc V = true) (h : dbOk M.C.N = true → visL M.C.sc V = true → Run M G L ss E) : Run M G L ss E := h h1 h2
structure BnOk (x : Str) : Prop where
  c : biNames.contains x = true
  d : (x == ("__debug__" : Str)) = false
  n : x ≠ "__name__"
theorem bn_len : BnOk "len" := ⟨by kernel_rfl, by kernel_rfl, by decide +kernel⟩
theorem bn_isinstance : BnOk "isinstance" := ⟨by kernel_rfl, by kernel_rfl, by decide +kernel⟩
theorem bn_int : BnOk "int" := ⟨by kernel_rfl, by kernel_rfl, by decide +kernel⟩
theorem bn_str : BnOk "str" := ⟨by kernel_rfl, by kernel_rfl, by decide +kernel⟩
theorem bn_all : BnOk "all" := ⟨by kernel_rfl, by kernel_rfl, by decide +kernel⟩
theorem bn_any : BnOk "any" := ⟨by kernel_rfl, by kernel_rfl, by decide +kernel⟩
theorem bn_min : BnOk "min" := ⟨by kernel_rfl, by kernel_rfl, by decide +kernel⟩
theorem bn_max : BnOk "max" := ⟨by kernel_rfl, by kernel_rfl, by decide +kernel⟩
theorem bn_tuple : BnOk "tuple" := ⟨by kernel_rfl, by kernel_rfl, by decide +kernel⟩
theorem bn_list : BnOk "list" := ⟨by kernel_rfl, by kernel_rfl, by decide +kernel⟩
theorem bn_dict : BnOk "dict" := ⟨by kernel_rfl, by kernel_rfl, by decide +kernel⟩
theorem bn_sum : BnOk "sum" := ⟨by kernel_rfl, by kernel_rfl, by decide +kernel⟩
theorem bn_sorted : BnOk "sorted" := ⟨by kernel_rfl, by kernel_rfl, by decide +kernel⟩
theorem bn_bool : BnOk "bool" := ⟨by kernel_rfl, by kernel_rfl, by decide +kernel⟩
section
variable {M : Mode} {G : List (Option D)} {L : Led} {K : D → Led → Prop} {pos : Pos}
theorem ev_nameV {x : Str} {d : D} (hl : Look M.C.N G x (some d)) (hd : dbOk M.C.N = true) (hv : visB M.C.sc x = true) (h : K d L) : Ev M G L (.Name x pos) K := by
  obtain ⟨i, h1, _⟩ := hl.ix
  obtain ⟨b, c⟩ := dbOk_mem hd (List.mem_of_getElem? h1)
  exact ev_name hl (vis_of hv) h b c
theorem ev_bltN {x : Str} {id : String} {p : Pos} {e : Expr} {es : List Expr} (b : BnOk x) (hg : GlC M.C x) (B : Bi M.C.mg) (hv : bootBuiltins x = some (.builtin id)) (h : EvA M G L (e :: es) fun ds L1 => CallV M G L1 (.builtin id) ds K)
    (he : ∀ X : Cx, starEach (e :: es) X.env = (false, eval e X.env) :: starEach es X.env := by intro _; rfl) (hpl : ∀ X : Cx, (backTo pos (starEach es X.env)).any (·.1) = false := by intro _; rfl) :
    Ev M G L (.Call (.Name x p) (e :: es) [] pos) K := ev_blt hg (Bi.h B b.c) hv h b.n b.d he hpl
theorem ev_bltyN {x : Str} {id : String} {p : Pos} {e : Expr} {es : List Expr} (b : BnOk x) (hg : GlC M.C x) (B : Bi M.C.mg) (hv : bootBuiltins x = some (.type id)) (h : EvA M G L (e :: es) fun ds L1 => CallV M G L1 (.type id) ds K)
    (he : ∀ X : Cx, starEach (e :: es) X.env = (false, eval e X.env) :: starEach es X.env := by intro _; rfl) (hpl : ∀ X : Cx, (backTo pos (starEach es X.env)).any (·.1) = false := by intro _; rfl) :
    Ev M G L (.Call (.Name x p) (e :: es) [] pos) K := ev_blty hg (Bi.h B b.c) hv h b.n b.d he hpl
theorem ev_tynN {x : Str} {id : String} (b : BnOk x) (hg : GlC M.C x) (B : Bi M.C.mg) (hv : bootBuiltins x = some (.type id)) (h : K (.v (.ty id)) L) : Ev M G L (.Name x pos) K := ev_tyn hg (Bi.h B b.c) hv h b.n b.d
end
end TL

namespace TL
open PySem L2 PySem.Spec
/-! ### handles: a block's parts by name, so that goals stay small -/
def pos0 : Pos := ⟨0, 0, 0, 0⟩
def pC : Stmt → Expr
  | .If t _ _ _ => t
  | .While t _ _ _ => t
  | _ => .Constant .none 0 pos0
def pA : Stmt → List Stmt
  | .If _ a _ _ => a
  | .For _ _ b _ _ => b
  | .While _ b _ _ => b
  | .Try b _ _ _ _ => b
  | _ => []
def pB : Stmt → List Stmt
  | .If _ _ b _ => b
  | _ => []
def pT : Stmt → Expr
  | .For t _ _ _ _ => t
  | _ => .Constant .none 0 pos0
def pI : Stmt → Expr
  | .For _ i _ _ _ => i
  | _ => .Constant .none 0 pos0
def pH : Stmt → List ExceptHandler
  | .Try _ h _ _ _ => h
  | _ => []
def pP : Stmt → Pos
  | .If _ _ _ p => p
  | .For _ _ _ _ p => p
  | .While _ _ _ p => p
  | .Try _ _ _ _ p => p
  | _ => pos0
def pL (l : List Stmt) (i : Nat) : Stmt := l.getD i (.Pass pos0)
theorem run_withB {M : Mode} {G : List (Option D)} {L : Led} {st : Stmt} {q : List Stmt} {E : TD} {V : List Str} (h1 : dbOk M.C.N = true) (h2 : visL M.C.sc V = true) (hb : defBody st = q) (h : dbOk M.C.N = true → visL M.C.sc V = true → Run M G L q E) : Run M G L (defBody st) E := by
  rw [hb]
  exact h h1 h2
section
variable {M : Mode} {G : List (Option D)} {L : Led} {K : D → Led → Prop} {pos : Pos}
/-! ### the rules with all that they ask written out, for `apply` -/
abbrev Star1 (e : Expr) (es : List Expr) : Prop := ∀ X : Cx, starEach (e :: es) X.env = (false, eval e X.env) :: starEach es X.env
abbrev Star2 (pos : Pos) (es : List Expr) : Prop := ∀ X : Cx, (backTo pos (starEach es X.env)).any (·.1) = false
theorem ev_bltA {x : Str} {id : String} {p : Pos} {e : Expr} {es : List Expr} (b : BnOk x) (hg : GlC M.C x) (B : Bi M.C.mg) (hv : bootBuiltins x = some (.builtin id)) (he : Star1 e es) (hpl : Star2 pos es) (h : EvA M G L (e :: es) fun ds L1 => CallV M G L1 (.builtin id) ds K) :
    Ev M G L (.Call (.Name x p) (e :: es) [] pos) K := ev_bltN b hg B hv h he hpl
theorem ev_bltyA {x : Str} {id : String} {p : Pos} {e : Expr} {es : List Expr} (b : BnOk x) (hg : GlC M.C x) (B : Bi M.C.mg) (hv : bootBuiltins x = some (.type id)) (he : Star1 e es) (hpl : Star2 pos es) (h : EvA M G L (e :: es) fun ds L1 => CallV M G L1 (.type id) ds K) :
    Ev M G L (.Call (.Name x p) (e :: es) [] pos) K := ev_bltyN b hg B hv h he hpl
theorem ev_callA {x : Str} {p : Pos} {e : Expr} {es : List Expr} {ps : List Str} {sp : Prm} {j : Nat} (B : Glob M.C.P M.C.w M.C.K M.C.mg M.C.base x ps sp j) (hc : M.C.cm = true) (hj : Nat.ble j M.C.k = true) (hg : GlC M.C x) (hdb : (x == ("__debug__" : Str)) = false) (he : Star1 e es) (hpl : Star2 pos es)
    (h : EvA M G L (e :: es) fun ds L1 => Calls M G sp ds L1 K) : Ev M G L (.Call (.Name x p) (e :: es) [] pos) K := ev_call B hc (Nat.le_of_ble_eq_true hj) hg h hdb he hpl
theorem ev_makeA {x : Str} {p : Pos} {e : Expr} {es : List Expr} {ps : List Str} {sp : Prm} {j : Nat} {Cc : Addr} (B : Cla M.C.P M.C.w M.C.K M.C.mg M.C.base x Cc ps sp j) (hc : M.C.cm = true) (hj : Nat.ble (j + 1) M.C.k = true) (hg : GlC M.C x) (hdb : (x == ("__debug__" : Str)) = false) (he : Star1 e es) (hpl : Star2 pos es)
    (h : EvA M G L (e :: es) fun ds L1 => ∀ l, Calls M G sp (.ref l :: ds) ((l, .ins Cc []) :: L1) fun d L' => d = .non ∧ K (.ref l) L') : Ev M G L (.Call (.Name x p) (e :: es) [] pos) K := ev_make B hc (Nat.le_of_ble_eq_true hj) hg h hdb he hpl
theorem ev_methA {Cc : Addr} {m : Str} {apos : Pos} {o e : Expr} {es : List Expr} {ps : List Str} {sp : Prm} {j : Nat} (B : Mth M.C.P M.C.w M.C.K M.C.mg M.C.base Cc m ps sp j) (c : Cls M.C.K Cc) (hc : M.C.cm = true) (hj : Nat.ble j M.C.k = true) (h1 : Star1 e es) (h2 : Star2 pos es)
    (ht : ∀ X : Cx, eval (.Call (.Attribute o m apos) (e :: es) [] pos) X.env = (eval o X.env >>= fun ov => standAt apos.atName >>= fun _ => holding [ov] (getMethod ov m (plOf o X)) >>= fun (f, first) => callWith pos f first (backTo pos (starEach (e :: es) X.env)) (backToKw pos (keywordEach [] X.env))))
    (h : Ev M G L o fun x L1 => ∃ fs, IsO L1 x Cc fs ∧ fs.lookup m = none ∧ EvA M G L1 (e :: es) fun ds L2 => Calls M G sp (x :: ds) L2 K) : Ev M G L (.Call (.Attribute o m apos) (e :: es) [] pos) K := ev_meth B c hc (Nat.le_of_ble_eq_true hj) h h1 h2 ht
theorem ev_meth0A {Cc : Addr} {m : Str} {apos : Pos} {o : Expr} {ps : List Str} {sp : Prm} {j : Nat} (B : Mth M.C.P M.C.w M.C.K M.C.mg M.C.base Cc m ps sp j) (c : Cls M.C.K Cc) (hc : M.C.cm = true) (hj : Nat.ble j M.C.k = true)
    (ht : ∀ X : Cx, eval (.Call (.Attribute o m apos) [] [] pos) X.env = (eval o X.env >>= fun ov => standAt apos.atName >>= fun _ => holding [ov] (getMethod ov m (plOf o X)) >>= fun (f, first) => callWith pos f first (backTo pos (starEach [] X.env)) (backToKw pos (keywordEach [] X.env))))
    (h : Ev M G L o fun x L1 => ∃ fs, IsO L1 x Cc fs ∧ fs.lookup m = none ∧ Calls M G sp [x] L1 K) : Ev M G L (.Call (.Attribute o m apos) [] [] pos) K := ev_meth0 B c hc (Nat.le_of_ble_eq_true hj) h ht
theorem ev_fldA {e : Expr} {f : Str} {Cc : Addr} (n : NoAttr M.C.K Cc f) (c : Cls M.C.K Cc) (hb : ∀ X : Cx, attributeBase e f X.env (eval e X.env) = eval e X.env) (h : Ev M G L e fun x L1 => ∃ fs d, IsO L1 x Cc fs ∧ fs.lookup f = some d ∧ K d L1) :
    Ev M G L (.Attribute e f pos) K := ev_fldN n c h hb
theorem ev_gvalA {x : Str} {v : V} (B : GVal M.C.mg x v) (hg : GlC M.C x) (hd : (x == ("__debug__" : Str)) = false) (h : K (.v v) L) : Ev M G L (.Name x pos) K := ev_gval B hg h hd
theorem ev_gtupA {x : Str} {vs : List V} (B : GTup M.C.K M.C.mg x vs) (hg : GlC M.C x) (hd : (x == ("__debug__" : Str)) = false) (h : K (.ctup (vs.map D.v)) L) : Ev M G L (.Name x pos) K := ev_gtup B hg h hd
end
end TL

namespace TL
open PySem L2 PySem.Spec
section
variable {M : Mode} {G : List (Option D)} {L : Led} {K : D → Led → Prop} {pos : Pos}
theorem dinN_R {X : Cx} : OpR X (compareOp .In) (fun y x H Q => y = .non ∧ ∃ a kvs, x = .ref a ∧ Rd H a (.dK kvs) ∧ Q (.bl false) H) := by
  intro pins s σ H x y v u Q I rx ry h
  obtain ⟨rfl, a, kvs, rfl, g, q⟩ := h
  cases ry
  cases rx
  exact d_inNone I g fun s2 I2 => ⟨.bl _, H, I2, rfl, q⟩
theorem dniN_R {X : Cx} : OpR X (compareOp .NotIn) (fun y x H Q => y = .non ∧ ∃ a kvs, x = .ref a ∧ Rd H a (.dK kvs) ∧ Q (.bl true) H) := by
  intro pins s σ H x y v u Q I rx ry h
  obtain ⟨rfl, a, kvs, rfl, g, q⟩ := h
  cases ry
  cases rx
  exact d_notInNone I g fun s2 I2 => ⟨.bl _, H, I2, rfl, q⟩
/-- None in a dict -/
theorem op_inKn {y : D} {kvs : List (Key × D)} (hy : IsK L y kvs) (h : K (.bl false) L) : Op2 M G L (compareOp .In) .non y K := by
  intro X S F σ H v u a rx ry Q q
  cases rx
  obtain ⟨p, ws, rfl, h1, h2⟩ := hy.get a ry
  exact ⟨_, dinN_R, rfl, p, ws, rfl, h1, q _ L _ F H h a (.v _) (Same.refl _)⟩
theorem op_niKn {y : D} {kvs : List (Key × D)} (hy : IsK L y kvs) (h : K (.bl true) L) : Op2 M G L (compareOp .NotIn) .non y K := by
  intro X S F σ H v u a rx ry Q q
  cases rx
  obtain ⟨p, ws, rfl, h1, h2⟩ := hy.get a ry
  exact ⟨_, dniN_R, rfl, p, ws, rfl, h1, q _ L _ F H h a (.v _) (Same.refl _)⟩
theorem RepK.keys {Kk : PySem.W.Frag} {F : Hp} : ∀ {kvs : List (Key × D)} {ws : List (Key × V)}, RepK Kk F kvs ws → kvs.map (·.1) = ws.map (·.1)
  | _, _, .nil => rfl
  | _, _, .cons r t => by
    rw [List.map_cons, List.map_cons, RepK.keys t]
/-- sorted(a dict with whole numbers for keys) -/
theorem cv_sortedDI (hc : M.C.cm = true) {x : D} {kvs : List (Key × D)} {ks : List Int} (hx : IsK L x kvs) (hk : kvs.map (·.1) = ks.map Sum.inl) (hl : ks.length < 64)
    (h : ∀ (ys : List Int) (p : Addr), ys.Perm ks → ys.Pairwise (· ≤ ·) → K (.ref p) ((p, .lst (ys.map D.int)) :: L)) : CallV M G L (.builtin "sorted") [x] K := by
  intro X S F σ H vs A r Q q
  obtain ⟨v, rfl, rv⟩ := reps1 r
  obtain ⟨p, ws, rfl, h1, h2⟩ := hx.get A rv
  refine ⟨_, call_sortedDI (S.ok.calm hc), p, ws, ks, rfl, h1, by rw [← h2.keys]; exact hk, hl, fun ys l hp hs hl2 => ?_⟩
  have e : ys.map D.int = (ys.map V.int).map D.v := by rw [List.map_map]; rfl
  refine q _ _ _ F _ (h ys l hp hs) (A.new hl2 (.lst upd_same ?_)) (.v _) (Same.refl _)
  rw [e]
  exact RepA.of_flats _
/-- sorted(a list of whole numbers) -/
theorem cv_sortedL {x : D} {ns : List Int} (hx : IsL L x (ns.map D.int))
    (h : ∀ (ys : List Int) (p : Addr), ys.Perm ns → ys.Pairwise (· ≤ ·) → K (.ref p) ((p, .lst (ys.map D.int)) :: L)) : CallV M G L (.builtin "sorted") [x] K := by
  intro X S F σ H vs A r Q q
  obtain ⟨v, rfl, rv⟩ := reps1 r
  obtain ⟨p, ws, rfl, h1, h2⟩ := hx.get A rv
  have e : ∀ zs : List Int, zs.map D.int = (zs.map V.int).map D.v := fun zs => by rw [List.map_map]; rfl
  have e2 : ws = ns.map V.int := by
    rw [e] at h2
    exact h2.flats
  subst e2
  refine ⟨_, cr_sortedI, p, ns, rfl, SqL.of h1, fun ys l hp hs hl2 => ?_⟩
  refine q _ _ _ F _ (h ys l hp hs) (A.new hl2 (.lst upd_same ?_)) (.v _) (Same.refl _)
  rw [e]
  exact RepA.of_flats _
end
section
variable {M : Mode} {G : List (Option D)} {L : Led} {K : D → Led → Prop} {pos : Pos}
/-- {k: v}, one entry, an own dict -/
theorem ev_dnew1 {k v : Expr} (h : ∀ p, Ev M G ((p, .dK []) :: L) k fun x L1 => Ev M G L1 v fun y L2 => ∃ (kk : Key), x = .v (kV kk) ∧ ∃ L', L2 = (p, .dK []) :: L' ∧ K (.ref p) ((p, .dK [(kk, y)]) :: L')) : Ev M G L (.Dict [some k] [v] pos) K := by
  refine ev_disp (fun p => ?_) (h15 := show 1 ≤ 15 by decide)
  show Ev M G _ k fun x L1 => Ev M G L1 v fun y L2 => _
  refine (h p).imp fun x L1 h1 => h1.imp fun y L2 ⟨kk, ex, L', eL, hk⟩ => ?_
  subst ex eL
  exact ⟨[(kk, y)], _, rfl, .here, (show 1 ≤ 15 by decide), hk⟩
end
end TL

namespace TL
open PySem L2 PySem.Spec
section
variable {X : Cx}
/-- y = {k: v for ..}, y a local name -/
theorem ps_setDc {i : Nat} {y : Str} {py : Pos} {kx vx tg iter : Expr} {ifs : List Expr} {scope : Scope} {own : List (Str × Nat)} {pos sp2 : Pos} {wi : TI} {g : TG} {tt : TT} {tk tv : TE} (hc : X.calm = true) (nd : X.N.Nodup) (hy : X.N[i]? = some y) (ly : X.env.scope.names.lookup y = some .local)
    (sw : swapsWith (.DictComp kx vx [⟨tg, iter, ifs, 0⟩] scope pos) (some (.Name y py)) sp2.line X.env = pure true) (hi : PI X tg iter wi) (ok : BlkOk X.N X.env.scope scope own)
    (pg : ∀ (s : Shared) (H : Hp) (C : Addr) (cl : List (Str × Addr)) (fp : List Addr), PG (X.blk s H scope (compEnvC scope cl C X.env) fp) tg g) (pt : ∀ (s : Shared) (H : Hp) (C : Addr) (cl : List (Str × Addr)) (fp : List Addr), PTs (X.blk s H scope (compEnvC scope cl C X.env) fp) ifs tt)
    (pk : ∀ (s : Shared) (H : Hp) (C : Addr) (cl : List (Str × Addr)) (fp : List Addr), PE (X.blk s H scope (compEnvC scope cl C X.env) fp) kx tk)
    (pv : ∀ (s : Shared) (H : Hp) (C : Addr) (cl : List (Str × Addr)) (fp : List Addr), PE (X.blk s H scope (compEnvC scope cl C X.env) fp) vx tv) (fs : ∀ x, foldedSetIterable iter X.env x = pure x) :
    PS X (.Assign [.Name y py] (.DictComp kx vx [⟨tg, iter, ifs, 0⟩] scope pos) sp2) (tAsg (tDc wi g tt tk tv (own.map (·.2))) (gName i)) := by
  constructor
  intro pins s σ H D I h
  rw [exec_Assign_Name_used _ _ _ _ sw]
  refine wpAny_bind (wpAny_standAt (wpAny_bind ?_))
  have h2 : tDc wi g tt tk tv (own.map (·.2)) σ H (fun x H1 => gName i x σ H1 D.nx) := h
  have core := dc_core (use := some (assign (.Name y py) X.env)) (Qf := fun _ s2 => SP X pins D .next s2) (pos := pos) (pos' := firstIterPos [⟨tg, iter, ifs, 0⟩] pos) hc nd I hi ok pg pt pk pv fs h2 fun L C s2 m H2 I2 q hn f => by
    show wpAny _ _ (assign (.Name y py) X.env (.ref L)) _ _ _
    refine wpAny_assign_Name (store_ok2 (v := V.ref L) I2 nd hy (.inl ly) rfl (fun s3 I3 ⟨a, sb, ha⟩ => ?_) (.inr ly))
    obtain ⟨f0, f1, f2, f3, f4, f5⟩ := f
    have ne : C ≠ a := by
      rcases ha with z | z
      · rw [z]; exact f1
      · intro e
        exact f4 y a z e.symm
    exact ⟨m, hn.sameBut sb ne, fun h3 sb3 => ⟨_, H2, I3.turned (t' := s3.toks) (fun b o hb e => (sb3.2 b hb).trans e) f0 f1 f3 f4 f5, q⟩⟩
  exact wpAny_bind (thn core fun _ s2 hq => wpAny_pure (wpAny_pure hq))
theorem sw_dc {kx vx : Expr} {gs : List Comprehension} {scope : Scope} {pos py : Pos} {y : Str} {l : Nat} {env : Env} (hk : env.scope.kind = .function) (hy : env.scope.names.lookup y = some .local) (hl : (py.line == pos.line) = true)
    (ha : (scope.names.any fun (n, k) => n == y && (k == .local || k == .cell)) = false) : swapsWith (.DictComp kx vx gs scope pos) (some (.Name y py)) l env = pure true := by
  have k1 : env.kindOf y = some .local := hy
  have k2 : env.blockKind = .function := by
    unfold Env.blockKind
    rw [hk]
    rfl
  unfold swapsWith
  simp only [k1, k2, ha, Expr.pos, hl]
  rfl
end
section
variable {M : Mode} {G : List (Option D)} {L : Led} {pos : Pos} {E : TD}
/-- x = {..}, the name a local -/
theorem run_setdc {x : Str} {p : Pos} {kx vx tg iter : Expr} {ifs : List Expr} {scope : Scope} {rest : List Stmt} {spos : Pos} (own : List (Str × Nat)) (hc : M.C.cm = true) (hx : M.C.sc.names.lookup x = some .local) (hn : x ∈ M.C.N) (ok : blkC M.C.N M.C.sc scope own = true)
    (h : EvI M G L tg iter fun src items L1 => DcInv M G (own.map (·.2)) scope kx vx tg ifs src items L1 fun d L2 => ∃ G', Put M.C.N G x (some d) G' ∧ Run M G' L2 rest E)
    (hkind : M.C.sc.kind = .function) (hl : (p.line == pos.line) = true) (ha : (scope.names.any fun (n, k) => n == x && (k == .local || k == .cell)) = false)
    (hs : ∀ (X : Cx) x, foldedSetIterable iter X.env x = pure x := by intro _ _; rfl) : Run M G L (.Assign [.Name x p] (.DictComp kx vx [⟨tg, iter, ifs, 0⟩] scope pos) spos :: rest) E := by
  intro X S F σ H A D o
  obtain ⟨i, hi⟩ := List.getElem?_of_mem hn
  have nd : X.N.Nodup := by rw [← S.ok.eN]; exact S.ok.nd
  have lx : X.env.scope.names.lookup x = some .local := by rw [← S.ok.es]; exact hx
  rw [S.ok.eN] at hi
  refine gss_cons ⟨_, ps_setDc (i := i) (S.ok.calm hc) nd hi lx (sw_dc (by rw [← S.ok.es]; exact hkind) lx hl ha) bi (by rw [← S.ok.eN, ← S.ok.es]; exact blkOk_by ok) gB_ok tB_ok eB_ok eB_ok (hs X), ?_⟩
  refine dc_go S hc A (h X S F σ H A) fun d L2 v F2 H2 k2 A2 r2 s2 => ?_
  obtain ⟨G', hp, hr⟩ := k2
  obtain ⟨j, hj, rfl⟩ := hp.ix
  rw [S.ok.eN] at hj
  have e : j = i := nodup_ix nd hj hi
  subst e
  exact hr X S F2 _ H2 (A2.set r2) D o
end
theorem sw_cellD {kx vx : Expr} {gs : List Comprehension} {scope : Scope} {pos py : Pos} {y : Str} {l : Nat} {env : Env} (hy : env.scope.names.lookup y = some .cell) : swapsWith (.DictComp kx vx gs scope pos) (some (.Name y py)) l env = pure false := by
  have k1 : env.kindOf y = some .cell := hy
  unfold swapsWith
  simp only [k1]
  show pure (env.blockKind == .function && false && _ && _) = _
  rw [Bool.and_false]
  rfl
theorem sw_cellL {e : Expr} {gs : List Comprehension} {scope : Scope} {pos py : Pos} {y : Str} {l : Nat} {env : Env} (hy : env.scope.names.lookup y = some .cell) : swapsWith (.ListComp e gs scope pos) (some (.Name y py)) l env = pure false := by
  have k1 : env.kindOf y = some .cell := hy
  unfold swapsWith
  simp only [k1]
  show pure (env.blockKind == .function && false && _ && _) = _
  rw [Bool.and_false]
  rfl
section
variable {M : Mode} {G : List (Option D)} {L : Led} {pos : Pos} {rest : List Stmt} {E : TD}
/-- x = e, the name a cell of the def (a comprehension within reads it) -/
theorem run_setC {x : Str} {p : Pos} {e : Expr} (hx : M.C.sc.names.lookup x = some .cell) (hd : M.C.df x = true) (hn : x ∈ M.C.N) (h : Ev M G L e fun d L1 => ∃ G', Put M.C.N G x (some d) G' ∧ Run M G' L1 rest E)
    (hs : ∀ env : Env, env.scope.names.lookup x = some .cell → swapsWith e (some (.Name x p)) pos.line env = pure false) :
    Run M G L (.Assign [.Name x p] e pos :: rest) E := by
  intro X S F σ H A D o
  obtain ⟨hl, hf⟩ := (Loc'.loc (M := M) (.inr ⟨hx, hd⟩) S)
  obtain ⟨i, hi⟩ := List.getElem?_of_mem hn
  have nd : X.N.Nodup := by rw [← S.ok.eN]; exact S.ok.nd
  rw [S.ok.eN] at hi
  refine gss_cons ⟨_, ps_set (i := i) nd hi hl be (hs X.env (by rw [← S.ok.es]; exact hx)) hf, ?_⟩
  refine h X S F σ H A _ fun d L1 v F1 H1 k1 A1 r1 s1 => ?_
  obtain ⟨G', hp, hr⟩ := k1
  obtain ⟨j, hj, rfl⟩ := hp.ix
  rw [S.ok.eN] at hj
  have e : j = i := nodup_ix nd hj hi
  subst e
  exact hr X S F1 _ H1 (A1.set r1) D o
end
end TL

namespace TL
open PySem L2 PySem.Spec
section
variable {K : PySem.W.Frag} {H0 F0 F F' H H' : Hp} {G G' : List (Option D)} {L L' L1 L2 : Led} {σ σ' : St}
/-- an entry of the ledger told in other words -/
theorem At.redo {l : Addr} {o o' : OW} (a : At K H0 F0 G L F σ H) (c : Chg L l o o' L') (x : OwnAt K F H l o → OwnAt K F H l o') : At K H0 F0 G L' F σ H := by
  obtain ⟨y, f1, f2⟩ := a.own _ c.mem
  refine ⟨a.ef, a.eh, a.fh, a.nf, fun q hq => ?_, by rw [c.keys]; exact a.nd, a.env⟩
  rcases c.of_mem a.nd q hq with rfl | ⟨hq, ne⟩
  · exact ⟨x y, f1, f2⟩
  · exact a.own q hq
def subR (p : Addr) (t : D) : D → D
  | .v (.ref a) => if a = p then t else .v (.ref a)
  | d => d
theorem Rep.subR {p : Addr} {t d : D} {v : V} (ht : Rep K F t (.ref p)) (h : Rep K F d v) : Rep K F (TL.subR p t d) v := by
  cases h with
  | v =>
    cases v with
    | ref a =>
      show Rep K F (if a = p then t else .v (.ref a)) (.ref a)
      by_cases e : a = p
      · rw [if_pos e, e]; exact ht
      · rw [if_neg e]; exact .v _
    | _ => exact .v _
  | tup h1 h2 => exact .tup h1 h2
  | ctup h1 h2 => exact .ctup h1 h2
  | lst h1 h2 => exact .lst h1 h2
  | sq h1 h2 => exact .sq h1 h2
  | dK h1 h2 => exact .dK h1 h2
  | dT h1 h2 => exact .dT h1 h2
  | ob h1 h2 => exact .ob h1 h2
theorem RepK.subR {p : Addr} {t : D} (ht : Rep K F t (.ref p)) : ∀ {kvs : List (Key × D)} {ws : List (Key × V)}, RepK K F kvs ws → RepK K F (kvs.map fun kv => (kv.1, TL.subR p t kv.2)) ws
  | _, _, .nil => .nil
  | _, _, .cons r s => .cons (Rep.subR ht r) (RepK.subR ht s)
theorem RepT.subR {p : Addr} {t : D} (ht : Rep K F t (.ref p)) : ∀ {kvs : List (List Key × D)} {ws : List (List Key × V)}, RepT K F kvs ws → RepT K F (kvs.map fun kv => (kv.1, TL.subR p t kv.2)) ws
  | _, _, .nil => .nil
  | _, _, .cons r s => .cons (Rep.subR ht r) (RepT.subR ht s)
theorem RepA.subR {p : Addr} {t : D} (ht : Rep K F t (.ref p)) : ∀ {ds : List D} {vs : List V}, RepA K F ds vs → RepA K F (ds.map (TL.subR p t)) vs
  | _, _, .nil => .nil
  | _, _, .cons r s => .cons (Rep.subR ht r) (RepA.subR ht s)
end
section
variable {M : Mode} {G : List (Option D)} {L L1 L2 : Led} {ss : List Stmt} {E : TD}
/-- an own object within an own dict frozen -/
theorem run_frzInK {pd pf : Addr} {o : OW} {kvs : List (Key × D)} (ho : Out L pd o L1) (hc : Chg L1 pf (.dK kvs) (.dK (kvs.map fun kv => (kv.1, subR pd o.frz kv.2))) L2) (h : Run M G L2 ss E) : Run M G L ss E := by
  intro X S F σ H A D oo
  obtain ⟨F2, A2, s2, r2⟩ := A.freeze ho
  refine h X S F2 σ H (A2.redo hc fun y => ?_) D oo
  cases y with
  | dK e1 e2 => exact .dK e1 (RepK.subR r2 e2)
/-- .. within an own list -/
theorem run_frzInL {pd pf : Addr} {o : OW} {ds : List D} (ho : Out L pd o L1) (hc : Chg L1 pf (.lst ds) (.lst (ds.map (subR pd o.frz))) L2) (h : Run M G L2 ss E) : Run M G L ss E := by
  intro X S F σ H A D oo
  obtain ⟨F2, A2, s2, r2⟩ := A.freeze ho
  refine h X S F2 σ H (A2.redo hc fun y => ?_) D oo
  cases y with
  | lst e1 e2 => exact .lst e1 (RepA.subR r2 e2)
end
end TL

namespace TL
open PySem L2 PySem.Spec
/-! ### dicts with tuples for keys -/
def kD (k : List Key) : List D := k.map fun x => D.v (kV x)
theorem kD_vals {K : PySem.W.Frag} {F : Hp} {k : List Key} {vs : List V} (r : RepA K F (kD k) vs) : vs = k.map kV := by
  have e : kD k = (k.map kV).map D.v := by
    unfold kD
    rw [List.map_map]
    rfl
  rw [e] at r
  exact r.flats
section
variable {M : Mode} {G : List (Option D)} {L : Led} {K : D → Led → Prop} {pos : Pos}
theorem keyT {Kk : PySem.W.Frag} {H0 F0 F H : Hp} {σ : St} {k : List Key} {u : V} (A : At Kk H0 F0 G L F σ H) (r : Rep Kk F (.tup (kD k)) u) : ∃ b, u = .ref b ∧ H b = some (.tup (k.map kV)) := by
  obtain ⟨b, vs, rfl, h1, h2⟩ := tup_at A r
  rw [kD_vals h2] at h1
  exact ⟨b, rfl, h1⟩
theorem ev_dnewT (h : ∀ p, K (.ref p) ((p, .dT []) :: L)) : Ev M G L (.Dict [] [] pos) K := fun X S F σ H A Q q =>
  ⟨_, pe_dnewT, fun p hp => q _ _ _ F _ (h p) (A.new hp (.dT upd_same .nil)) (.v _) (Same.refl _)⟩
theorem run_dputT {rest : List Stmt} {E : TD} {o i e : Expr} {p : Pos} (hc : M.C.cm = true) (h : Ev M G L e fun d L1 => Ev M G L1 o fun x L2 => Ev M G L2 i fun y L3 => ∃ l kvs k L4, x = .ref l ∧ y = .tup (kD k) ∧ Chg L3 l (.dT kvs) (.dT (putE kvs k d)) L4 ∧ kvs.length < sizeLine ∧ Run M G L4 rest E)
    (hs : ∀ X : Cx, swapsWith e (some (.Subscript o i p)) pos.line X.env = pure false := by intro _; rfl) : Run M G L (.Assign [.Subscript o i p] e pos :: rest) E := by
  intro X S F σ H A D o2
  refine gss_cons ⟨_, ps_dput (sit_hu S hc) be be be (hs X), ?_⟩
  refine h X S F σ H A _ fun d L1 v F1 H1 k1 A1 r1 s1 => ?_
  refine k1 X S F1 σ H1 A1 _ fun x L2 u F2 H2 k2 A2 r2 s2 => ?_
  refine k2 X S F2 σ H2 A2 _ fun y L3 z F3 H3 k3 A3 r3 s3 => ?_
  obtain ⟨l, kvs, k, L4, rfl, rfl, ch, hl, hr⟩ := k3
  cases r2
  obtain ⟨b, rfl, hb⟩ := keyT A3 r3
  obtain ⟨ow, _, _⟩ := A3.own _ ch.mem
  cases ow with
  | dT e1 e2 =>
    refine ⟨l, _, rfl, DPut.t e1 hb (by rw [← e2.length]; exact hl), ?_⟩
    exact hr X S F3 σ _ (A3.chg ch (.dT upd_same (e2.put k (r1.mono (s2.trans s3))))) D o2
theorem ix_KT (hc : M.C.cm = true) {x : D} {kvs : List (List Key × D)} {k : List Key} {d : D} (hx : IsTT L x kvs) (hv : valD kvs k = some d) (h : K d L) : IxV M G L x (.tup (kD k)) K := by
  intro X S F σ H v u A rx ry Q q
  obtain ⟨b, rfl, hb⟩ := keyT A ry
  obtain ⟨p, ws, rfl, h1, h2⟩ := hx.get A rx
  obtain ⟨w, e, rw'⟩ := (h2.val k).1 d hv
  exact ⟨_, ix_dictR (sit_hu S hc), p, w, rfl, .inr ⟨ws, k, b, h1, rfl, hb, e.symm⟩, q d L w F H h A rw' (Same.refl _)⟩
theorem op_inKT (hc : M.C.cm = true) {y : D} {kvs : List (List Key × D)} {k : List Key} (hy : IsTT L y kvs) (h : K (.bl (valD kvs k).isSome) L) : Op2 M G L (compareOp .In) (.tup (kD k)) y K := by
  intro X S F σ H v u A rx ry Q q
  obtain ⟨b, rfl, hb⟩ := keyT A rx
  obtain ⟨p, ws, rfl, h1, h2⟩ := hy.get A ry
  refine ⟨_, din_R (sit_hu S hc), p, valV ws k, rfl, .inr ⟨ws, k, b, h1, rfl, hb, rfl⟩, ?_⟩
  rw [h2.isSome]
  exact q _ L _ F H h A (.v _) (Same.refl _)
theorem op_niKT (hc : M.C.cm = true) {y : D} {kvs : List (List Key × D)} {k : List Key} (hy : IsTT L y kvs) (h : K (.bl (!(valD kvs k).isSome)) L) : Op2 M G L (compareOp .NotIn) (.tup (kD k)) y K := by
  intro X S F σ H v u A rx ry Q q
  obtain ⟨b, rfl, hb⟩ := keyT A rx
  obtain ⟨p, ws, rfl, h1, h2⟩ := hy.get A ry
  refine ⟨_, dni_R (sit_hu S hc), p, valV ws k, rfl, .inr ⟨ws, k, b, h1, rfl, hb, rfl⟩, ?_⟩
  rw [h2.isSome]
  exact q _ L _ F H h A (.v _) (Same.refl _)
theorem ev_get1T {apos : Pos} {o e : Expr} (hc : M.C.cm = true) (h : Ev M G L o fun x L1 => ∃ kvs, IsTT L1 x kvs ∧ Ev M G L1 e fun y L2 => ∃ k, IsTT L2 x kvs ∧ y = .tup (kD k) ∧ K ((valD kvs k).getD .non) L2)
    (m : ∀ X : Cx, M1 X o "get" apos e pos) : Ev M G L (.Call (.Attribute o "get" apos) [e] [] pos) K := by
  intro X S F σ H A Q q
  refine ⟨_, pe_dget1 (sit_hu S hc) be be (m X), ?_⟩
  refine h X S F σ H A _ fun x L1 v F1 H1 k1 A1 r1 s1 => ?_
  obtain ⟨kvs, hx, k1⟩ := k1
  obtain ⟨p, ws, rfl, h1, h2⟩ := hx.get A1 r1
  refine ⟨p, rfl, .inr ⟨ws, h1⟩, ?_⟩
  refine k1 X S F1 σ H1 A1 _ fun y L2 u F2 H2 k2 A2 r2 s2 => ?_
  obtain ⟨k, hx2, rfl, hk⟩ := k2
  obtain ⟨b, rfl, hb⟩ := keyT A2 r2
  obtain ⟨p', ws', e', h3, h4⟩ := hx2.get A2 (r1.mono s2)
  cases e'
  refine ⟨valV ws' k, .inr ⟨ws', k, b, h3, rfl, hb, rfl⟩, ?_⟩
  refine q _ L2 _ F2 H2 hk A2 ?_ (s1.trans s2)
  obtain ⟨z1, z2⟩ := h4.val k
  cases e : valD kvs k with
  | none => rw [z2 e]; exact .v _
  | some d => obtain ⟨w, ew, rw'⟩ := z1 d e; rw [ew]; exact rw'
theorem ev_get2T {apos : Pos} {o e f : Expr} (hc : M.C.cm = true) (h : Ev M G L o fun x L1 => ∃ kvs, IsTT L1 x kvs ∧ Ev M G L1 e fun y L2 => Ev M G L2 f fun z L3 => ∃ k, IsTT L3 x kvs ∧ y = .tup (kD k) ∧ K ((valD kvs k).getD z) L3)
    (m : ∀ X : Cx, M2 X o "get" apos e f pos) : Ev M G L (.Call (.Attribute o "get" apos) [e, f] [] pos) K := by
  intro X S F σ H A Q q
  refine ⟨_, pe_dget2 (sit_hu S hc) be be be (m X), ?_⟩
  refine h X S F σ H A _ fun x L1 v F1 H1 k1 A1 r1 s1 => ?_
  obtain ⟨kvs, hx, k1⟩ := k1
  obtain ⟨p, ws, rfl, h1, h2⟩ := hx.get A1 r1
  refine ⟨p, rfl, .inr ⟨ws, h1⟩, ?_⟩
  refine k1 X S F1 σ H1 A1 _ fun y L2 u F2 H2 k2 A2 r2 s2 => ?_
  refine k2 X S F2 σ H2 A2 _ fun z L3 t F3 H3 k3 A3 r3 s3 => ?_
  obtain ⟨k, hx2, rfl, hk⟩ := k3
  obtain ⟨b, rfl, hb⟩ := keyT A3 (r2.mono s3)
  obtain ⟨p', ws', e', h3, h4⟩ := hx2.get A3 (r1.mono (s2.trans s3))
  cases e'
  refine ⟨valV ws' k, .inr ⟨ws', k, b, h3, rfl, hb, rfl⟩, ?_⟩
  refine q _ L3 _ F3 H3 hk A3 ?_ ((s1.trans s2).trans s3)
  obtain ⟨z1, z2⟩ := h4.val k
  cases e : valD kvs k with
  | none => rw [z2 e]; exact r3
  | some d => obtain ⟨w, ew, rw'⟩ := z1 d e; rw [ew]; exact rw'
end
end TL

namespace TL
open PySem L2 PySem.Spec
/-! ### [.. for a in xs for b in ys], data that stand still -/
section
variable {M : Mode} {G : List (Option D)} {L : Led} {K : D → Led → Prop} {pos : Pos}
def iB (X : Cx) (scope : Scope) (tg iter : Expr) : TI := fun σ' H' R => ∀ s H C cl fp, GI (X.blk s H scope (compEnvC scope cl C X.env) fp) tg iter σ' H' R
theorem iB_ok {X : Cx} {scope : Scope} {tg iter : Expr} (s : Shared) (H : Hp) (C : Addr) (cl : List (Str × Addr)) (fp : List Addr) : PI (X.blk s H scope (compEnvC scope cl C X.env) fp) tg iter (iB X scope tg iter) :=
  ⟨fun pins s2 σ2 H2 R I h => bi.run pins s2 σ2 H2 R I (h s H C cl fp)⟩
def Lc2Turn {α β : Type} (M : Mode) (G : List (Option D)) (vs vs1 : List Nat) (scope : Scope) (elt tg tg1 iter1 : Expr) (L1 : Led) (xs : List α) (ys : α → List β) (g : α → D) (g1 f : α → β → D) : Prop :=
  ∀ F1 Dl x acc, x ∈ xs → TgtN ((M.fix F1).blk scope) (wipeG G vs) ((Dl, .lst acc) :: L1) vs tg (g x) fun G2 => EvI ((M.fix F1).blk scope) G2 ((Dl, .lst acc) :: L1) tg1 iter1 fun src1 items1 L2 => L2 = (Dl, OW.lst acc) :: L1 ∧ (∀ s ∈ src1, s ∈ L1) ∧ items1 = (ys x).map (g1 x) ∧
    ∀ F2 y acc2, y ∈ ys x → TgtN (((M.fix F1).blk scope).fix F2) (wipeG G2 vs1) ((Dl, .lst acc2) :: L1) vs1 tg1 (g1 x y) fun G3 => Ev (((M.fix F1).blk scope).fix F2) G3 ((Dl, .lst acc2) :: L1) elt fun d L3 => d = f x y ∧ ((Dl, OW.lst acc2) :: L1).Sublist L3
def Lc2Inv (M : Mode) (G : List (Option D)) (vs vs1 : List Nat) (scope : Scope) (elt tg tg1 iter1 : Expr) (src : Led) (items : List D) (L1 : Led) (K : D → Led → Prop) : Prop :=
  ∃ (α β : Type) (xs : List α) (ys : α → List β) (g : α → D) (g1 f : α → β → D), items = xs.map g ∧ (∀ s ∈ src, s ∈ L1) ∧ (xs.flatMap ys).length < sizeLine ∧ Lc2Turn M G vs vs1 scope elt tg tg1 iter1 L1 xs ys g g1 f ∧ ∀ Dl, K (.ref Dl) ((Dl, .lst (xs.flatMap fun x => (ys x).map (f x))) :: L1)
theorem flat_len {α β : Type} {xs : List α} {ys : α → List β} {f : α → β → D} : (xs.flatMap fun x => (ys x).map (f x)).length = (xs.flatMap ys).length := by
  induction xs with
  | nil => rfl
  | cons x xs ih => rw [List.flatMap_cons, List.flatMap_cons, List.length_append, List.length_append, ih, List.length_map]
theorem pre_le {α β : Type} {xs : List α} {ys : α → List β} {i : Nat} : ((xs.take i).flatMap ys).length ≤ (xs.flatMap ys).length := by
  have e : xs = xs.take i ++ xs.drop i := (List.take_append_drop i xs).symm
  rw [show (xs.flatMap ys) = ((xs.take i ++ xs.drop i).flatMap ys) by rw [← e], List.flatMap_append, List.length_append]
  omega
theorem lc2_go {X : Cx} {elt tg iter tg1 iter1 : Expr} {scope : Scope} {vs vs1 : List Nat} {σ : St} {H F : Hp} {Q : VK} (S : Sit M X) (A : M.at G L F σ H)
    (h : EvI1 M G X F σ H tg iter fun src items L1 => Lc2Inv M G vs vs1 scope elt tg tg1 iter1 src items L1 K) (q : Post M G F σ K Q) :
    tLc2 (GI X tg iter) (gB X scope tg) (tB X scope []) (iB X scope tg1 iter1) (gB X scope tg1) (tB X scope []) (eB X scope elt) vs vs1 σ H Q := by
  refine h _ fun J src items L1 F1 H1 k1 go1 A1 s1 Dl hD => ?_
  obtain ⟨α, β, xs, ys, g, g1, f, rfl, hsrc, hsz, turn, done⟩ := k1
  have S1 := S.fix A1
  have A1' : (M.fix F1).at G ((Dl, .lst []) :: L1) F1 σ (upd H1 Dl (.lst [])) := A1.fixed.new hD (.lst upd_same .nil)
  refine ⟨fun i m H' => m = xs.length - i ∧ i ≤ xs.length ∧ ∃ F', (M.fix F1).at G ((Dl, .lst ((xs.take i).flatMap fun x => (ys x).map (f x))) :: L1) F' σ H', ⟨xs.length, by simp, Nat.zero_le _, F1, A1'⟩, ?_⟩
  rintro i m H' ⟨rfl, hi, F', A'⟩
  obtain ⟨q1, q2⟩ := go1 G _ F' σ H' A' (fun s hs => List.mem_cons_of_mem _ (hsrc s hs)) i
  by_cases hlt : i < xs.length
  · have hx : xs[i]? = some xs[i] := List.getElem?_eq_getElem hlt
    have hm : xs[i] ∈ xs := List.getElem_mem hlt
    generalize xs[i] = x at hx hm
    have htk : xs.take (i + 1) = xs.take i ++ [x] := by rw [List.take_succ, hx]; rfl
    obtain ⟨gg, yl⟩ := q1 (g x) (by rw [List.getElem?_map, hx]; rfl)
    refine .inr ⟨gg, fun H2 => ∃ F', (M.fix F1).at G ((Dl, .lst ((xs.take (i + 1)).flatMap fun x => (ys x).map (f x))) :: L1) F' σ H2, fun H2 ⟨F2, A2⟩ => ⟨xs.length - (i + 1), by omega, rfl, hlt, F2, A2⟩, fun v H2 y s0 Hz C cl fp => ?_⟩
    obtain ⟨F2, A2, r2⟩ := yl v H2 y
    have A2w : ((M.fix F1).blk scope).at (wipeG G vs) ((Dl, .lst ((xs.take i).flatMap fun x => (ys x).map (f x))) :: L1) F2 (wipe σ vs) H2 := A2.envOf (wipe_rep A2.env _)
    refine turn F1 Dl x _ hm _ S1.blk F2 _ H2 v A2w r2 _ fun G3 σ3 k3 A3 hw => ?_
    refine ⟨hw.trans (wipe_wipe σ), fun s1' Hz1 C1 cl1 fp1 => ?_⟩
    refine ⟨_, pts_nil, ?_⟩
    unfold tYes
    dsimp only
    rw [if_pos rfl]
    intro s2' Hz2 C2 cl2 fp2
    -- the inner walk
    refine k3 _ S1.blk F2 σ3 H2 A3 _ fun J1 src1 items1 L2 F3 H3 k4 go2 A4 s4 => ?_
    obtain ⟨rfl, hsrc1, rfl, inner⟩ := k4
    have back : ∀ {L5 : Led} {F5 H5 : Hp}, (((M.fix F1).blk scope).fix F3).at G3 L5 F5 σ3 H5 → Same F3 F5 → (M.fix F1).at G L5 F5 σ H5 := fun {L5 F5 H5} B s =>
      let B2 : ((M.fix F1).blk scope).at G3 L5 F5 σ3 H5 := A4.unfix B
      ⟨B2.ef, B2.eh, B2.fh, B2.nf, B2.own, B2.nd, A2.env.mono (s4.trans s)⟩
    refine ⟨fun j k H' => k = (ys x).length - j ∧ j ≤ (ys x).length ∧ ∃ F', (((M.fix F1).blk scope).fix F3).at G3 ((Dl, .lst (((xs.take i).flatMap fun x => (ys x).map (f x)) ++ ((ys x).take j).map (f x))) :: L1) F' σ3 H', ⟨(ys x).length, by simp, Nat.zero_le _, F3, by simpa using A4.fixed⟩, ?_⟩
    rintro j k H' ⟨rfl, hj, F', A5⟩
    obtain ⟨p1, p2⟩ := go2 G3 _ F' σ3 H' A5 (fun s hs => List.mem_cons_of_mem _ (hsrc1 s hs)) j
    by_cases hjl : j < (ys x).length
    · have hy : (ys x)[j]? = some (ys x)[j] := List.getElem?_eq_getElem hjl
      have hym : (ys x)[j] ∈ ys x := List.getElem_mem hjl
      generalize (ys x)[j] = y2 at hy hym
      have hty : (ys x).take (j + 1) = (ys x).take j ++ [y2] := by rw [List.take_succ, hy]; rfl
      obtain ⟨gj, yj⟩ := p1 (g1 x y2) (by rw [List.getElem?_map, hy]; rfl)
      refine .inr ⟨gj, fun H6 => ∃ F', (((M.fix F1).blk scope).fix F3).at G3 ((Dl, .lst (((xs.take i).flatMap fun x => (ys x).map (f x)) ++ ((ys x).take (j + 1)).map (f x))) :: L1) F' σ3 H6, fun H6 ⟨F6, A6⟩ => ⟨(ys x).length - (j + 1), by omega, rfl, hjl, F6, A6⟩, fun v6 H6 y6 s6 Hz6 C6 cl6 fp6 => ?_⟩
      obtain ⟨F6, A6, r6⟩ := yj v6 H6 y6
      have S6 := (S1.blk (scope := scope) (s := s6) (H := Hz6) (C := C6) (cl := cl6) (fp := fp6)).fix A4
      have A6w : (((M.fix F1).blk scope).fix F3).at (wipeG G3 vs1) ((Dl, .lst (((xs.take i).flatMap fun x => (ys x).map (f x)) ++ ((ys x).take j).map (f x))) :: L1) F6 (wipe σ3 vs1) H6 := A6.envOf (wipe_rep A6.env _)
      refine inner F3 y2 _ hym _ S6 F6 _ H6 v6 A6w r6 _ fun G7 σ7 k7 A7 hw7 => ?_
      refine ⟨hw7.trans (wipe_wipe σ3), fun s7 Hz7 C7 cl7 fp7 => ?_⟩
      refine ⟨_, pts_nil, ?_⟩
      unfold tYes
      dsimp only
      rw [if_pos rfl]
      intro s8 Hz8 C8 cl8 fp8
      have S8 := (S1.blk (scope := scope) (s := s8) (H := Hz8) (C := C8) (cl := cl8) (fp := fp8)).fix A4
      refine k7 _ S8 F6 σ7 H6 A7 _ fun z L9 w9 F9 H9 k9 A9 r9 s9 => ?_
      obtain ⟨rfl, sub⟩ := k9
      have A10 : (((M.fix F1).blk scope).fix F3).at G3 L9 F9 σ3 H9 := ⟨A9.ef, A9.eh, A9.fh, A9.nf, A9.own, A9.nd, A6.env.mono s9⟩
      have A11 := A10.drop sub
      obtain ⟨ow, _, _⟩ := A11.own _ List.mem_cons_self
      cases ow with
      | lst e1 e2 =>
        rename_i ws
        refine ⟨ws, e1, ?_, F9, ?_⟩
        · rw [← e2.length, List.length_append, flat_len, List.length_map, List.length_take]
          have b1 : (((xs.take (i + 1)).flatMap ys).length) ≤ _ := pre_le (xs := xs) (ys := ys) (i := i + 1)
          rw [htk, List.flatMap_append, List.length_append] at b1
          simp only [List.flatMap_cons, List.flatMap_nil, List.append_nil] at b1
          omega
        · have A12 := A11.chg (o' := .lst ((((xs.take i).flatMap fun x => (ys x).map (f x)) ++ ((ys x).take j).map (f x)) ++ [f x y2])) .here (.lst (l := Dl) upd_same (e2.snoc r9))
          rw [hty, List.map_append, ← List.append_assoc]
          exact A12
    · have e : j = (ys x).length := by omega
      subst e
      refine .inl ⟨p2 (by rw [List.length_map]; exact Nat.le_refl _), F', ?_⟩
      have B := back A5 A5.ef
      rw [List.take_length] at B
      rw [htk, List.flatMap_append]
      simpa using B
  · have e : i = xs.length := by omega
    subst e
    rw [List.take_length] at A'
    exact .inl ⟨q2 (by rw [List.length_map]; exact Nat.le_refl _), q _ _ _ F' H' (done Dl) (A1.unfix A') (.v _) (s1.trans A'.ef)⟩
theorem ev_lc2 {elt tg iter tg1 iter1 : Expr} {scope : Scope} (own : List (Str × Nat)) (vs1 : List Nat) (hc : M.C.cm = true) (ok : blkC M.C.N M.C.sc scope own = true) (hv : ∀ i ∈ vs1, i ∈ own.map (·.2))
    (h : EvI M G L tg iter fun src items L1 => Lc2Inv M G (own.map (·.2)) vs1 scope elt tg tg1 iter1 src items L1 K)
    (hs : ∀ (X : Cx) x, foldedSetIterable iter X.env x = pure x := by intro _ _; rfl) (hs1 : ∀ env x, foldedSetIterable iter1 env x = pure x := by intro _ _; rfl) : Ev M G L (.ListComp elt [⟨tg, iter, [], 0⟩, ⟨tg1, iter1, [], 0⟩] scope pos) K := by
  intro X S F σ H A Q q
  refine ⟨_, pe_lc2 (S.ok.calm hc) (by rw [← S.ok.eN]; exact S.ok.nd) bi (by rw [← S.ok.eN, ← S.ok.es]; exact blkOk_by ok) hv gB_ok tB_ok iB_ok gB_ok tB_ok eB_ok (hs X) hs1, ?_⟩
  exact lc2_go S A (h X S F σ H A) q
end
end TL

namespace TL
open PySem L2 PySem.Spec PySem.W PyProof.Rows
/-! ### != of two dicts with tuples for keys -/
section
variable {prog : Program} {w : World} {K : Type} [DecidableEq K] {knd : HeapKind prog w K} {A : Around} {E : Value → Shared → Prop} {s : Shared}
/-- a loop that counts up -/
theorem upto {β : Type} {n : Nat} {f : Nat → β → Sem (ForInStep β)} {Q : β → Shared → Prop} {b0 : β} (I : Nat → β → Shared → Prop) (stop : ∀ b s, I n b s → Q b s)
    (step : ∀ i b s, i < n → I i b s → wpAny (model prog w) A (f i b) (fun r s' => match r with | .yield b' => I (i + 1) b' s' | .done b' => Q b' s') E s) (h0 : I 0 b0 s) : wpAny (model prog w) A (forIn [0:n] b0 f) Q E s := by
  have go : ∀ (m i : Nat) (b : β) (s : Shared), i + m = n → I i b s → wpAny (model prog w) A (forIn (List.range' i m) b f) Q E s := by
    intro m
    induction m with
    | zero =>
      intro i b s hi h
      rw [List.range'_zero, List.forIn_nil]
      exact wpAny_pure (stop b s (hi ▸ h))
    | succ m ih =>
      intro i b s hi h
      rw [List.range'_succ, List.forIn_cons]
      refine wpAny_bind (wpAny_mono (step i b s (by omega) h) (fun r s' hr => ?_) fun _ _ x => x)
      cases r with
      | done b' => exact wpAny_pure hr
      | yield b' => exact ih (i + 1) b' s' (by omega) hr
  have e : forIn [0:n] b0 f = forIn (List.range' 0 n) b0 f := by
    rw [Std.Legacy.Range.forIn_eq_forIn_range']
    simp [Std.Legacy.Range.size]
  rw [e]
  exact go n 0 b0 s (Nat.zero_add n) h0
/-- two tables; e says of each place of the first whether the second has its key with a like value -/
theorem pairsH {nm : String} {a b : Addr} {ka kb : List (K × Addr × Value)} {Q : Bool → Shared → Prop} (e : Nat → Bool) (hu : knd.room A) (na : ¬ (a == sysModules) = true) (nb : ¬ (b == sysModules) = true)
    (ta : s.heap.DictOfH knd a ka) (tb : s.heap.DictOfH knd b kb) (he : ∀ i x, ka[i]? = some x → (atKey kb x.1 = none ∧ e i = false) ∨ ∃ p, atKey kb x.1 = some p ∧ SeqAt.EqAt A s x.2.2 p.2 (e i))
    (q1 : ka.length ≠ kb.length → Q false s) (q2 : ka.length = kb.length → (∃ i, i < ka.length ∧ e i = false) → Q false s) (q3 : ka.length = kb.length → (∀ i, i < ka.length → e i = true) → Q true s) : wpAny (model prog w) A (Builtin.Dict.samePairs nm a b) Q E s := by
  obtain ⟨oa, ea, pa, ga, _, xa, la, ia, _⟩ := ta
  obtain ⟨ob, eb, pb, gb, _, xb, lb, ib, ub⟩ := tb
  have za := size_of_entries la
  have zb := size_of_entries lb
  unfold Builtin.Dict.samePairs Builtin.Dict.showsAll
  simp only [if_neg na, if_neg nb]
  apply wpAny_bind; apply wpAny_pure
  apply wpAny_bind; apply wpAny_pure
  apply wpAny_bind
  apply wpAny_dictEntries ga xa
  apply wpAny_bind
  apply wpAny_dictEntries gb xb
  by_cases z : ea.size = eb.size
  · have zk : ka.length = kb.length := by omega
    rw [if_neg (by simp [z])]
    apply wpAny_bind
    apply wpAny_dictEpoch ga xa
    apply wpAny_bind
    refine upto (fun i r s' => s' = s ∧ r = (none, ()) ∧ ∀ j, j < i → e j = true) ?_ ?_ ⟨rfl, rfl, fun _ h => absurd h (Nat.not_lt_zero _)⟩
    · rintro r s' ⟨rfl, rfl, h⟩
      exact wpAny_pure (q3 zk fun i hi => h i (by omega))
    · rintro i r s' hi ⟨rfl, rfl, h⟩
      have hl : i < ka.length := by omega
      have hx : ka[i]? = some ka[i] := List.getElem?_eq_getElem hl
      have hc := he i _ hx
      generalize ka[i] = x at hx hc
      have key := ia x (List.mem_of_getElem? hx)
      apply wpAny_bind
      apply wpAny_dictEntries ga xa
      rw [entry_at la i, hx]
      apply wpAny_bind
      apply wpAny_holding
      apply wpAny_bind
      refine wpAny_dictFind_heap hu key gb xb lb ib ub (fun no => ?_) fun j p hj => ?_
      · rcases hc with ⟨_, f⟩ | ⟨p, f, _⟩
        · exact wpAny_pure (wpAny_pure (wpAny_pure (q2 zk ⟨i, hl, f⟩)))
        · rw [atKey_none_of_get no] at f
          cases f
      · rcases hc with ⟨f, _⟩ | ⟨p', f, g⟩
        · rw [atKey_of_get ub hj] at f
          cases f
        · rw [atKey_of_get ub hj] at f
          cases f
          apply wpAny_bind
          apply wpAny_dictEntries gb xb
          rw [entry_at lb j, hj]
          apply wpAny_holding
          apply g prog w
          cases hb : e i with
          | false => exact wpAny_pure (wpAny_pure (q2 zk ⟨i, hl, hb⟩))
          | true =>
            apply wpAny_bind
            apply wpAny_dictEpoch ga xa
            simp only [bne_self_eq_false, Bool.false_eq_true, if_false]
            refine wpAny_pure ⟨rfl, rfl, fun j hj => ?_⟩
            rcases Nat.lt_or_ge j i with h1 | h1
            · exact h j h1
            · rw [show j = i by omega]
              exact hb
  · rw [if_pos (by simpa using z)]
    exact wpAny_bind (wpAny_rule (wpAny_pure (q1 (by omega))))
end
/-- whether a dict's place has its like in another one -/
def likeT (ls : List (List Key × V)) (p : List Key × V) : Bool := match valV ls p.1 with
  | some v => eqV p.2 v
  | none => false
theorem likeT_at {A : Around} {s : Shared} {H : Hp} {ls ks : List (List Key × V)} {xb xa : List (List Key × Addr × Value)} (rb : KT H ls xb) (ra : KT H ks xa) (fl : ∀ p ∈ ls, flatV p.2 = true) (fk : ∀ p ∈ ks, flatV p.2 = true) (i : Nat) (x : List Key × Addr × Value)
    (hx : xa[i]? = some x) : (atKey xb x.1 = none ∧ likeT ls (ks.getD i ([], .non)) = false) ∨ ∃ p, atKey xb x.1 = some p ∧ SeqAt.EqAt A s x.2.2 p.2 (likeT ls (ks.getD i ([], .non))) := by
  obtain ⟨p, hp, h1, _, h3⟩ : ∃ p, ks[i]? = some p ∧ p.1 = x.1 ∧ H x.2.1 = some (.tup (p.1.map kV)) ∧ RelV p.2 x.2.2 := by
    induction ra generalizing i with
    | nil => simp at hx
    | @cons p q ps qs h t ih =>
      cases i with
      | zero => cases hx; exact ⟨p, rfl, h⟩
      | succ i => exact ih (fun p hp => fk p (List.mem_cons_of_mem _ hp)) i hx
  rw [List.getD_eq_getElem?_getD, hp, Option.getD_some]
  have fp := fk p (List.mem_of_getElem? hp)
  have rr := rb.val p.1
  unfold likeT
  rw [← h1]
  cases hv : valV ls p.1 with
  | none =>
    rw [hv] at rr
    have := rr.none_of
    rw [Option.map_eq_none_iff] at this
    exact .inl ⟨this, rfl⟩
  | some v =>
    rw [hv] at rr
    obtain ⟨y, hy, ry⟩ := rr.some_of
    obtain ⟨z, hz, rfl⟩ := Option.map_eq_some_iff.mp hy
    unfold valV at hv
    obtain ⟨t, ht, rfl⟩ := Option.map_eq_some_iff.mp hv
    exact .inr ⟨z, hz, eqAt_V h3 ry fp (fl t (List.mem_of_find?_eq_some ht))⟩
def subT (ls ks : List (List Key × V)) : Bool := ks.all (likeT ls)
theorem subT_false {ls ks : List (List Key × V)} {i : Nat} (hi : i < ks.length) (h : likeT ls (ks.getD i ([], .non)) = false) : subT ls ks = false := by
  rw [List.getD_eq_getElem?_getD, List.getElem?_eq_getElem hi, Option.getD_some] at h
  exact List.all_eq_false.mpr ⟨_, List.getElem_mem hi, by rw [h]; exact Bool.false_ne_true⟩
theorem subT_true {ls ks : List (List Key × V)} (h : ∀ i, i < ks.length → likeT ls (ks.getD i ([], .non)) = true) : subT ls ks = true := by
  refine List.all_eq_true.mpr fun p hp => ?_
  obtain ⟨i, hi, e⟩ := List.mem_iff_getElem.mp hp
  have := h i hi
  rw [List.getD_eq_getElem?_getD, List.getElem?_eq_getElem hi, Option.getD_some, e] at this
  exact this
def rNeT : R2 := fun x y H Q => ∃ a b ks ls, x = .ref a ∧ y = .ref b ∧ Rd H a (.dT ks) ∧ Rd H b (.dT ls) ∧ (∀ p ∈ ks, flatV p.2 = true) ∧ (∀ p ∈ ls, flatV p.2 = true) ∧ Q (.bl (!(ks.length == ls.length && subT ls ks))) H
theorem op_ne_dictT {X : Cx} (hu : X.A.units + 1 < cLine) : OpR X (compareOp .NotEq) rNeT := by
  intro pins s σ H x y v u Q I rx ry h
  obtain ⟨a, b, ks, ls, rfl, rfl, ea, eb, fk, fl, q⟩ := h
  cases rx
  cases ry
  obtain ⟨_, ya, xa, ra, da⟩ := dt_rd I.hok ea
  obtain ⟨_, yb, xb, rb, db⟩ := dt_rd I.hok eb
  have na := Paired.length ra
  have nb := Paired.length rb
  refine wpAny_richCompare_same_room (op := .NotEq) da.typeIs db.typeIs F.slot_dict_ne (wpAny_call_entry F.slot_dict_ne da.typeIs F.entry_dict_ne ?_ (F.args_dict_ne_2 _ _)) (by omega)
  change wpAny _ _ (Builtin.Dict.dictSlotArgs "__ne__" _ >>= _) _ _ s
  apply wpAny_bind
  unfold Builtin.Dict.dictSlotArgs
  apply wpAny_bind
  apply wpAny_notOrdered_dict da.typeIs
  apply wpAny_pure
  apply wpAny_bind
  refine wpAny_isInstance (T := "dict") db.typeIs F.sub_dict_dict ?_
  simp only [Bool.not_true, Bool.false_eq_true, if_false]
  apply wpAny_bind; apply wpAny_pure
  apply wpAny_bind; apply wpAny_pure
  apply wpAny_bind
  refine pairsH (fun i => likeT ls (ks.getD i ([], .non))) (tupleKind_room_in1 hu) (by rw [ya]; decide) (by rw [yb]; decide) da db (fun i x hx => likeT_at rb ra fl fk i x hx) (fun hn => ?_) (fun hn hx => ?_) (fun hn hx => ?_)
  · refine wpAny_pure ⟨_, rfl, (fun z => nomatch z), fin_bl I q ?_⟩
    rw [na, nb]
    simp [hn]
  · refine wpAny_pure ⟨_, rfl, (fun z => nomatch z), fin_bl I q ?_⟩
    obtain ⟨i, hi, hf⟩ := hx
    rw [subT_false (by omega) hf, Bool.and_false]
    rfl
  · refine wpAny_pure ⟨_, rfl, (fun z => nomatch z), fin_bl I q ?_⟩
    rw [subT_true (fun i hi => hx i (by omega)), na, nb, hn]
    simp
abbrev vT {κ : Type} (us : List (κ × V)) : List (κ × D) := us.map fun e => (e.1, .v e.2)
theorem repT_v {Kk : PySem.W.Frag} {F : Hp} : ∀ {us : List (List Key × V)} {ws : List (List Key × V)}, RepT Kk F (vT us) ws → ws = us
  | [], _, r => by cases r; rfl
  | (k, v) :: us, _, r => by
    cases r with
    | cons r1 r2 =>
      cases r1
      rw [repT_v r2]
section
variable {M : Mode} {G : List (Option D)} {L : Led} {K : D → Led → Prop} {pos : Pos}
theorem op_neT (hc : M.C.cm = true) {x y : D} {ks ls : List (List Key × V)} (hx : IsTT L x (vT ks)) (hy : IsTT L y (vT ls)) (fk : ∀ p ∈ ks, flatV p.2 = true) (fl : ∀ p ∈ ls, flatV p.2 = true) (h : K (.bl (!(ks.length == ls.length && subT ls ks))) L) : Op2 M G L (compareOp .NotEq) x y K := by
  intro X S F σ H v u A rx ry Q q
  obtain ⟨p, ws, rfl, h1, h2⟩ := hx.get A rx
  obtain ⟨p', ws', rfl, h3, h4⟩ := hy.get A ry
  rw [repT_v h2] at h1
  rw [repT_v h4] at h3
  exact ⟨_, op_ne_dictT (sit_hu S hc), p, p', ks, ls, rfl, rfl, h1, h3, fk, fl, q _ L _ F H h A (.v _) (Same.refl _)⟩
/-- the least and the greatest of a list of numbers -/
theorem cv_maxL (hc : M.C.cm = true) {x : D} {ns : List Int} (hx : IsL L x (ns.map D.int)) (hn : 0 < ns.length) (h : ∀ m, m ∈ ns → (∀ y ∈ ns, y ≤ m) → K (.int m) L) : CallV M G L (.builtin "max") [x] K := by
  intro X S F σ H vs A r Q q
  obtain ⟨v, rfl, rv⟩ := reps1 r
  obtain ⟨p, ws, rfl, h1, h2⟩ := hx.get A rv
  have e : ws = ns.map V.int := by
    have e2 : ns.map D.int = (ns.map V.int).map D.v := by rw [List.map_map]; rfl
    rw [e2] at h2
    exact h2.flats
  subst e
  exact ⟨_, cr_max (S.ok.calm hc), p, ns, rfl, .inl (.inl h1), hn, fun m h3 h4 => q _ L _ F H (h m h3 h4) A (.v _) (Same.refl _)⟩
theorem cv_minL (hc : M.C.cm = true) {x : D} {ns : List Int} (hx : IsL L x (ns.map D.int)) (hn : 0 < ns.length) (h : ∀ m, m ∈ ns → (∀ y ∈ ns, m ≤ y) → K (.int m) L) : CallV M G L (.builtin "min") [x] K := by
  intro X S F σ H vs A r Q q
  obtain ⟨v, rfl, rv⟩ := reps1 r
  obtain ⟨p, ws, rfl, h1, h2⟩ := hx.get A rv
  have e : ws = ns.map V.int := by
    have e2 : ns.map D.int = (ns.map V.int).map D.v := by rw [List.map_map]; rfl
    rw [e2] at h2
    exact h2.flats
  subst e
  exact ⟨_, cr_min (S.ok.calm hc), p, ns, rfl, .inl (.inl h1), hn, fun m h3 h4 => q _ L _ F H (h m h3 h4) A (.v _) (Same.refl _)⟩
end
end TL

namespace TL
open PySem L2 PySem.Spec
open PyProof.Rows hiding St
/-! ### {k: v for ..}, the keys tuples -/
/-- d[k] = v, d a dict of either kind, as a comprehension puts it -/
theorem set_put {X : Cx} {pins : List (Addr × Obj)} {σ : St} {H : Hp} {s : Shared} {E : Value → Shared → Prop} {D : Addr} {kvs : List (List Key × V)} {k : List Key} {b : Addr} {v : V} {r : Value} {Q : Unit → Shared → Prop} (hu : X.A.units < cLine) (I : Inv X pins σ H s) (hD : H D = some (.dT kvs))
    (hz : kvs.length < sizeLine) (hb : H b = some (.tup (k.map kV))) (rv : RelV v r) (h : ∀ s', Inv X pins σ (upd H D (.dT (putK kvs k v))) s' → Q () s') : wpAny (model X.prog X.w) X.A (dictSet D (.ref b) r) Q E s := by
  obtain ⟨z, nd, xs, rel, dd⟩ := dt_of I.hok hD
  have lx := Paired.length rel
  have lk := length_putK kvs k v
  refine wpAny_dictSet_heap (hsz := by omega) hu (key_of I.hok hb) dd fun h1 ⟨ob, es, ep, e1, e2, e3, e4, _, e5⟩ hs => h _ ?_
  refine d_write I (by rw [hD]; trivial) hs ⟨ob, e1⟩ ⟨by omega, nd, _, (rel.put k hb rv).keeps fun c ys ec => ?_, ob, es, ep, e1, e2, e3, e4, e5⟩
  have : c ≠ D := fun q => by rw [q, hD] at ec; cases ec
  rw [upd_ne this]
  exact ec
section
variable {X : Cx}
abbrev BlX (X : Cx) (scope : Scope) (s : Shared) (H : Hp) (C : Addr) (cl : List (Str × Addr)) (fp : List Addr) : Cx := X.blk s H scope (compEnvC scope cl C X.env) fp
structure DParts (X : Cx) (scope : Scope) (tg : Expr) (ifs : List Expr) (kx vx : Expr) (g : TG) (tt : TT) (tk tv : TE) : Prop where
  g : ∀ s H C cl fp, PG (BlX X scope s H C cl fp) tg g
  t : ∀ s H C cl fp, PTs (BlX X scope s H C cl fp) ifs tt
  k : ∀ s H C cl fp, PE (BlX X scope s H C cl fp) kx tk
  v : ∀ s H C cl fp, PE (BlX X scope s H C cl fp) vx tv
def tDct (wi : TI) (g : TG) (tt : TT) (tk tv : TE) (vs : List Nat) : TE := fun σ H Q => wi σ H fun J H1 => ∀ D, H1 D = none → ∃ (W : Nat → Nat → Hp → Prop) (m0 : Nat), W 0 m0 (upd H1 D (.dT [])) ∧ ∀ i m H, W i m H →
  (J.stop i H ∧ Q (.ref D) H) ∨ (J.go i H ∧ ∃ Nx : Hp → Prop, (∀ H', Nx H' → ∃ m', m' < m ∧ W (i + 1) m' H') ∧ ∀ x H', J.yld i H x H' → g x (wipe σ vs) H' fun σ2 H2 => wipe σ2 vs = wipe σ vs ∧ tt σ2 H2 fun b H3 =>
    if b = true then tk σ2 H3 fun y H4 => tv σ2 H4 fun z H5 => ∃ kvs k c, y = .ref c ∧ H5 c = some (.tup (k.map kV)) ∧ H5 D = some (.dT kvs) ∧ kvs.length < sizeLine ∧ Nx (upd H5 D (.dT (putK kvs k z))) else Nx H3)
/-- the block itself, its frame and the new dict laid -/
theorem dct_loop {s3 s4 : Shared} {σ : St} {H3 : Hp} {kx vx tg iter : Expr} {ifs : List Expr} {scope : Scope} {own : List (Str × Nat)} {pos : Pos} {g : TG} {tt : TT} {tk tv : TE} {it D : Addr} {ce : Env} {cl : List (Str × Addr)} {C : Addr} {fp : List Addr} {R : Result → Shared → Prop} {J : It} {tn : Nat → Heap → Prop} {Qd : Hp → Prop}
    (hc : X.calm = true) (hu : X.A.units < cLine) (ps : DParts X scope tg ifs kx vx g tt tk tv) (T : Turn X.prog X.w X.K tg J fp it tn) (hce : compEnvC scope cl C X.env = ce) (W : Nat → Nat → Hp → Prop) (m0 : Nat)
    (I : Inv (X.blk s3 H3 scope ce fp) [] (wipe σ (own.map (·.2))) H3 s4) (st : tn 0 s4.heap) (nfp : ∀ b ∈ fp, H3 b = none) (w0 : W 0 m0 H3)
    (turn : ∀ i m H, W i m H → (J.stop i H ∧ Qd H) ∨ (J.go i H ∧ ∃ Nx : Hp → Prop, (∀ H', Nx H' → ∃ m', m' < m ∧ W (i + 1) m' H') ∧ ∀ x H', J.yld i H x H' → g x (wipe σ (own.map (·.2))) H' fun σ2 H2 => wipe σ2 (own.map (·.2)) = wipe σ (own.map (·.2)) ∧ tt σ2 H2 fun b H3 =>
      if b = true then tk σ2 H3 fun y H4 => tv σ2 H4 fun z H5 => ∃ kvs k c, y = .ref c ∧ H5 c = some (.tup (k.map kV)) ∧ H5 D = some (.dT kvs) ∧ kvs.length < sizeLine ∧ Nx (upd H5 D (.dT (putK kvs k z))) else Nx H3))
    (out : ∀ s' H', Inv (X.blk s3 H3 scope ce fp) [] (wipe σ (own.map (·.2))) H' s' → Qd H' → R (.ok .next) s') :
    codeAny (model X.prog X.w) X.A (.compLoop (.DictComp kx vx [⟨tg, iter, ifs, 0⟩] scope pos) 0 (.ref it) (.ref D) ce) R s4 := by
  subst hce
  have still : ∀ {σ' : St} {H' : Hp} {s' : Shared}, Inv (BlX X scope s3 H3 C cl fp) [] σ' H' s' → (∀ b ∈ fp, H' b = none) → ∀ b ∈ fp, FpOk (BlX X scope s3 H3 C cl fp) [] H' b := by
    intro σ' H' s' I' hn b hb
    obtain ⟨e1, e2⟩ := I'.ok.exf b hb
    exact ⟨hn b hb, e1, I'.ok.exfs b hb, .inl hb, e2, fun p hp => (nomatch hp)⟩
  refine compLoop_anyD (fun n s' => ∃ i H', W i n H' ∧ Inv (BlX X scope s3 H3 C cl fp) [] (wipe σ (own.map (·.2))) H' s' ∧ tn i s'.heap ∧ ∀ b ∈ fp, H' b = none) ?_ m0 ⟨0, H3, w0, I, st, nfp⟩
  rintro n s5 ⟨i, H5, w5, I5, t5, n5⟩
  rcases turn i n H5 w5 with ⟨stop, qd⟩ | ⟨go, Nx, hNx, step⟩
  · refine thnF (T.done (BlX X scope s3 H3 C cl fp) rfl rfl rfl hc i [] s5 _ H5 (fun _ _ => False) I5 (still I5 n5) t5 stop) ?_
    rintro r s6 ⟨rfl, I6⟩
    exact out s6 H5 I6 qd
  · refine thnF (T.item (BlX X scope s3 H3 C cl fp) rfl rfl rfl hc i [] s5 _ H5 (fun _ _ => False) I5 (still I5 n5) t5 go) ?_
    rintro r s6 ⟨u, rfl, h6⟩
    refine thnF h6 ?_
    rintro _ s7 ⟨x, H7, I7, r7, y7, t7, n7⟩
    refine thnF ((ps.g s3 H3 C cl fp).run _ s7 _ H7 x u _ (I7.pinned (still I7 n7) (T.obj _ _ t7)) r7 (step x H7 y7)) ?_
    rintro _ s8 ⟨σ8, H8, I8, w8, q8⟩
    refine thnF ((ps.t s3 H3 C cl fp).run _ s8 σ8 H8 _ I8 q8) ?_
    rintro b s9 ⟨H9, I9, q9⟩
    have nxt : ∀ {s' : Shared} {H' : Hp}, Nx H' → Inv (BlX X scope s3 H3 C cl fp) ([] ++ pinsAt fp s7.heap) σ8 H' s' → ∃ m, m < n ∧ ∃ i H', W i m H' ∧ Inv (BlX X scope s3 H3 C cl fp) [] (wipe σ (own.map (·.2))) H' s' ∧ tn i s'.heap ∧ ∀ b ∈ fp, H' b = none := by
      intro s' H' nx I'
      obtain ⟨m', hm, w'⟩ := hNx H' nx
      have hold : ∀ b ∈ fp, ∀ o, s7.heap.get? b = some o → s'.heap.get? b = some o ∧ H' b = none := by
        intro b hb o e
        obtain ⟨z1, z2, _⟩ := I'.pin (b, o) (List.mem_append_right _ (List.mem_append_right _ (mem_pinsAt hb e)))
        exact ⟨z1, z2⟩
      refine ⟨m', hm, i + 1, H', w', ?_, T.keep _ _ _ t7 fun b hb o e => (hold b hb o e).1, ?_⟩
      · refine (I'.unpinned (pins := [])).weak (by rw [← w8, wipe_length]) ?_
        intro j v e
        rw [← w8] at e
        exact (wipe_some e).1
      · intro b hb
        obtain ⟨o, e, _⟩ := T.obj _ _ t7 b hb
        exact (hold b hb o e).2
    by_cases hb : b = true
    · rw [if_pos hb] at q9 ⊢
      refine thnF ((ps.k s3 H3 C cl fp).run _ s9 σ8 H9 _ I9 q9) ?_
      rintro zk s10 ⟨yk, HA, IA, rA, qA⟩
      refine thnF ((ps.v s3 H3 C cl fp).run _ s10 σ8 HA _ IA qA) ?_
      rintro zv s11 ⟨yv, HB, IB, rB, kvs, k, c, rfl, hk, hD, hz, nx⟩
      cases rA
      exact set_put (X := BlX X scope s3 H3 C cl fp) hu IB hD hz hk rB fun s12 IC => nxt nx IC
    · rw [if_neg hb] at q9 ⊢
      exact nxt q9 I9
theorem dct_core {pins : List (Addr × Obj)} {s : Shared} {σ : St} {H : Hp} {Q : VK} {kx vx tg iter : Expr} {ifs : List Expr} {scope : Scope} {own : List (Str × Nat)} {pos pos2 : Pos} {wi : TI} {g : TG} {tt : TT} {tk tv : TE} {use : Option (Value → Sem Unit)} {Qf : Value → Shared → Prop} (hc : X.calm = true) (hu : X.A.units < cLine) (nd : X.N.Nodup) (I : Inv X pins σ H s) (hi : PI X tg iter wi) (ok : BlkOk X.N X.env.scope scope own) (ps : DParts X scope tg ifs kx vx g tt tk tv)
    (hs : ∀ x, foldedSetIterable iter X.env x = pure x) (h : tDct wi g tt tk tv (own.map (·.2)) σ H Q)
    (last : ∀ D C s' m H', Inv X pins σ H' s' → Q (.ref D) H' → s'.heap.Ns C m → FpOk X pins H' C → compPost (model X.prog X.w) X.A X.xe use Qf (.ref D) C (.ok .next) s') :
    wpAny (model X.prog X.w) X.A (comprehension (.DictComp kx vx [⟨tg, iter, ifs, 0⟩] scope pos) scope X.env pos2 newDict false (eval iter X.env) use) Qf X.xe s := by
  have cells : ∀ y ∈ scope.names, y.2 = .free → ∃ c, X.env.cells.lookup y.1 = some c := by
    intro y hy e
    refine I.ok.has _ ?_
    exact ok.free y hy e
  refine wpAny_comprehension_free (use := use) rfl hs (closure_ok cells) ok.kind (fun y hy e => e ▸ ok.uniq y hy) (thn (hi.run pins s σ H _ I h) ?_)
  intro xv s1 hx
  refine thn hx ?_
  rintro _ s2 ⟨it, fp, tn, J, H2, rfl, I2, T, t2, f2, q⟩
  refine wpAny_newObj_type (newEnv_comp ?_)
  have fresh : H2 s2.heap.objs.size = none := I2.hok.fresh (Nat.le_refl _)
  obtain ⟨W, m0, w0, turn⟩ := q _ fresh
  have I3 : Inv X pins σ (upd H2 s2.heap.objs.size (.dT [])) { s2 with heap := s2.heap.push { cls := .type "dict", data := .dict #[] } } :=
    I2.laid (t' := s2.toks) (fun _ _ e => Heap.get?_push_of_some _ e) (Nat.le_refl _) (dt_empty s2.heap I2.big)
  have old : ∀ b ∈ fp, b < s2.heap.objs.size := fun b hb => Heap.lt_size (T.obj _ _ t2 b hb).choose_spec.1
  have f3 : ∀ b ∈ fp, FpOk X pins (upd H2 s2.heap.objs.size (.dT [])) b ∧ b < (s2.heap.push { cls := .type "dict", data := .dict #[] }).objs.size := by
    intro b hb
    have lt := old b hb
    refine ⟨⟨?_, (f2 b hb).2⟩, by rw [Heap.size_push]; exact Nat.lt_succ_of_lt lt⟩
    rw [upd_ne (Nat.ne_of_lt lt)]
    exact (f2 b hb).1
  have I4 := block_start I3 ok nd f3
  have keep2 : ∀ b o, s2.heap.get? b = some o → (pushCells ((s2.heap.push { cls := .type "dict", data := .dict #[] }).push { cls := .type "dict", data := .dict #[] }) scope.names).get? b = some o := fun b o e => pushCells_keeps _ _ _ _ (Heap.get?_push_of_some _ (Heap.get?_push_of_some _ e))
  have t4 := T.keep _ _ _ t2 fun b _ o e => keep2 b o e
  have lp := dct_loop (pos := pos) (iter := iter) (D := s2.heap.objs.size) (Qd := Q (.ref s2.heap.objs.size)) (R := compPost (model X.prog X.w) X.A X.xe use Qf (.ref s2.heap.objs.size) (s2.heap.push { cls := .type "dict", data := .dict #[] }).objs.size) hc hu ps T rfl W m0 I4 t4 (fun b hb => (f3 b hb).1.1) w0 turn ?_
  · exact codeAny_compStart_dict lp (T.self X.A 0 _ _ _ t4 lp)
  · intro s6 H6 I6 q6
    have I7 : Inv X pins σ H6 s6 := I3.call' (ch := fp) I6.os I6.base I6.hok I6.bare fun b hb => by
      obtain ⟨⟨_, e1, _, e3, e4, e5⟩, _⟩ := f3 b hb
      exact ⟨e3, e1, e4, e5⟩
    obtain ⟨m, hn, _⟩ := I6.loc
    have nC := I6.free
    exact last _ _ s6 m H6 I7 q6 hn (I3.fpOk (Nat.le_refl _) nC)
theorem pe_dct {kx vx tg iter : Expr} {ifs : List Expr} {scope : Scope} {own : List (Str × Nat)} {pos : Pos} {wi : TI} {g : TG} {tt : TT} {tk tv : TE} (hc : X.calm = true) (hu : X.A.units < cLine) (nd : X.N.Nodup) (hi : PI X tg iter wi) (ok : BlkOk X.N X.env.scope scope own) (ps : DParts X scope tg ifs kx vx g tt tk tv)
    (hs : ∀ x, foldedSetIterable iter X.env x = pure x) : PE X (.DictComp kx vx [⟨tg, iter, ifs, 0⟩] scope pos) (tDct wi g tt tk tv (own.map (·.2))) := by
  constructor
  intro pins s σ H Q I h
  rw [arm_eval_DictComp]
  refine dct_core hc hu nd I hi ok ps hs h fun D C s2 m H2 I2 q hn f => ⟨m, hn, fun h3 sb => ?_⟩
  obtain ⟨f0, f1, f2, f3, f4, f5⟩ := f
  exact ⟨.ref D, H2, I2.turned (t' := s2.toks) (fun b o hb e => (sb.2 b hb).trans e) f0 f1 f3 f4 f5, rfl, q⟩
end
end TL

namespace TL
open PySem L2 PySem.Spec
section
variable {M : Mode} {G : List (Option D)} {L : Led} {K : D → Led → Prop} {pos : Pos}
def DctInv (M : Mode) (G : List (Option D)) (vs : List Nat) (scope : Scope) (kx vx tg : Expr) (ifs : List Expr) (src : Led) (items : List D) (L1 : Led) (K : D → Led → Prop) : Prop :=
  ∃ I : Nat → List (List Key × D) → Led → Prop, I 0 [] L1 ∧ (∀ i acc L', I i acc L' → (∀ s ∈ src, s ∈ L') ∧ acc.length < sizeLine) ∧
    (∀ F1 Dl i d acc L', items[i]? = some d → I i acc L' → TgtN ((M.fix F1).blk scope) (wipeG G vs) ((Dl, .dT acc) :: L') vs tg d fun G2 => TstI ((M.fix F1).blk scope) G2 ((Dl, .dT acc) :: L') ifs fun b L2 =>
      (b = true → Ev ((M.fix F1).blk scope) G2 L2 kx fun x L3 => Ev ((M.fix F1).blk scope) G2 L3 vx fun y L4 => ∃ (k : List Key) (L5 : Led), x = .tup (kD k) ∧ ((Dl, OW.dT acc) :: L5).Sublist L4 ∧ I (i + 1) (putE acc k y) L5) ∧
      (b = false → ∃ L5 : Led, ((Dl, OW.dT acc) :: L5).Sublist L2 ∧ I (i + 1) acc L5)) ∧
    ∀ acc L', I items.length acc L' → ∀ Dl, K (.ref Dl) ((Dl, .dT acc) :: L')
theorem dct_go {X : Cx} {kx vx tg iter : Expr} {ifs : List Expr} {scope : Scope} {own : List (Str × Nat)} {σ : St} {H F : Hp} {Q : VK} (S : Sit M X) (hc : M.C.cm = true) (A : M.at G L F σ H)
    (h : EvI1 M G X F σ H tg iter fun src items L1 => DctInv M G (own.map (·.2)) scope kx vx tg ifs src items L1 K) (q : Post M G F σ K Q) :
    tDct (GI X tg iter) (gB X scope tg) (tB X scope ifs) (eB X scope kx) (eB X scope vx) (own.map (·.2)) σ H Q := by
  refine h _ fun J src items L1 F1 H1 k1 g1 A1 s1 Dl hD => ?_
  obtain ⟨I, i0, isrc, turn, done⟩ := k1
  have S1 := S.fix A1
  have A1' : (M.fix F1).at G ((Dl, .dT []) :: L1) F1 σ (upd H1 Dl (.dT [])) := A1.fixed.new hD (.dT upd_same .nil)
  refine ⟨fun i m H' => m = items.length - i ∧ i ≤ items.length ∧ ∃ acc L' F', (M.fix F1).at G ((Dl, .dT acc) :: L') F' σ H' ∧ I i acc L', items.length, ⟨by simp, Nat.zero_le _, [], L1, F1, A1', i0⟩, ?_⟩
  rintro i m H' ⟨rfl, hi, acc, L', F', A', iv⟩
  obtain ⟨is1, is2⟩ := isrc i acc L' iv
  obtain ⟨q1, q2⟩ := g1 G _ F' σ H' A' (fun s hs => List.mem_cons_of_mem _ (is1 s hs)) i
  by_cases hlt : i < items.length
  · obtain ⟨go, yl⟩ := q1 items[i] (by simp [hlt])
    refine .inr ⟨go, fun H2 => ∃ acc L' F', (M.fix F1).at G ((Dl, .dT acc) :: L') F' σ H2 ∧ I (i + 1) acc L', fun H2 ⟨acc2, L2, F2, A2, iv2⟩ => ⟨items.length - (i + 1), by omega, rfl, hlt, acc2, L2, F2, A2, iv2⟩, fun x H2 y s0 Hz C cl fp => ?_⟩
    obtain ⟨F2, A2, r2⟩ := yl x H2 y
    have A2w : ((M.fix F1).blk scope).at (wipeG G (own.map (·.2))) ((Dl, .dT acc) :: L') F2 (wipe σ (own.map (·.2))) H2 := A2.envOf (wipe_rep A2.env _)
    refine turn F1 Dl i _ acc L' (by simp [hlt]) iv _ S1.blk F2 _ H2 x A2w r2 _ fun G3 σ3 k3 A3 hw => ?_
    have hww : wipe σ3 (own.map (·.2)) = wipe σ (own.map (·.2)) := hw.trans (wipe_wipe σ)
    refine ⟨hww, fun s0' Hz' C' cl' fp' => ?_⟩
    have back : ∀ {L5 : Led} {F5 H5 : Hp}, ((M.fix F1).blk scope).at G3 L5 F5 σ3 H5 → Same F2 F5 → (M.fix F1).at G L5 F5 σ H5 := fun {L5 F5 H5} B s => ⟨B.ef, B.eh, B.fh, B.nf, B.own, B.nd, A2.env.mono s⟩
    refine tstI_go k3 _ S1.blk F2 σ3 H2 A3 _ fun b L4 F4 H4 k4 A4 s4 => ?_
    cases b with
    | true =>
      rw [if_pos rfl]
      intro s0'' Hz'' C'' cl'' fp''
      refine k4.1 rfl _ S1.blk F4 σ3 H4 A4 _ fun z L5 w F5 H5 k5 A5 r5 s5 => ?_
      intro s09 Hz9 C9 cl9 fp9
      refine k5 _ S1.blk F5 σ3 H5 A5 _ fun z2 L6 w2 F6 H6 k6 A6 r6 s6 => ?_
      obtain ⟨k, L7, rfl, sub, iv6⟩ := k6
      obtain ⟨c, rfl, hc6⟩ := keyT A6 (r5.mono s6)
      have A7 := (back A6 ((s4.trans s5).trans s6)).drop sub
      obtain ⟨ow, _, _⟩ := A7.own _ List.mem_cons_self
      cases ow with
      | dT e1 e2 =>
        rename_i ws
        refine ⟨ws, k, c, rfl, hc6, e1, by rw [← e2.length]; exact is2, ?_⟩
        exact ⟨_, L7, F6, A7.chg .here (.dT upd_same (e2.put k r6)), iv6⟩
    | false =>
      rw [if_neg Bool.false_ne_true]
      obtain ⟨L6, sub, iv6⟩ := k4.2 rfl
      exact ⟨acc, L6, F4, (back A4 s4).drop sub, iv6⟩
  · have e : i = items.length := by omega
    subst e
    exact .inl ⟨q2 (Nat.le_refl _), q _ _ _ F' H' (done acc L' iv Dl) (A1.unfix A') (.v _) (s1.trans A'.ef)⟩
theorem ev_dct {kx vx tg iter : Expr} {ifs : List Expr} {scope : Scope} (own : List (Str × Nat)) (hc : M.C.cm = true) (ok : blkC M.C.N M.C.sc scope own = true)
    (h : EvI M G L tg iter fun src items L1 => DctInv M G (own.map (·.2)) scope kx vx tg ifs src items L1 K)
    (hs : ∀ (X : Cx) x, foldedSetIterable iter X.env x = pure x := by intro _ _; rfl) : Ev M G L (.DictComp kx vx [⟨tg, iter, ifs, 0⟩] scope pos) K := by
  intro X S F σ H A Q q
  refine ⟨_, pe_dct (S.ok.calm hc) (Nat.lt_of_succ_lt (sit_hu S hc)) (by rw [← S.ok.eN]; exact S.ok.nd) bi (by rw [← S.ok.eN, ← S.ok.es]; exact blkOk_by ok) ⟨gB_ok, tB_ok, eB_ok, eB_ok⟩ (hs X), ?_⟩
  exact dct_go S hc A (h X S F σ H A) q


theorem putE_newT {κ : Type} [DecidableEq κ] {l : List (κ × D)} {k : κ} {d : D} (h : k ∉ l.map (·.1)) : putE l k d = l ++ [(k, d)] := by
  unfold putE
  rw [if_neg]
  rw [List.any_eq_true]
  rintro ⟨p, hp, e⟩
  exact h (List.mem_map.mpr ⟨p, hp, of_decide_eq_true e⟩)
theorem dct_map {α : Type} (xs : List α) (g : α → D) (kv : α → List Key × D) {vs : List Nat} {scope : Scope} {kx vx tg : Expr} {src : Led} {items : List D} {L1 : Led} (he : items = xs.map g) (hsz : xs.length < sizeLine) (hsrc : ∀ s ∈ src, s ∈ L1) (nd : (xs.map fun x => (kv x).1).Nodup)
    (turn : ∀ F1 Dl x acc, x ∈ xs → TgtN ((M.fix F1).blk scope) (wipeG G vs) ((Dl, .dT acc) :: L1) vs tg (g x) fun G2 => Ev ((M.fix F1).blk scope) G2 ((Dl, .dT acc) :: L1) kx fun y L3 => Ev ((M.fix F1).blk scope) G2 L3 vx fun z L4 =>
      y = .tup (kD (kv x).1) ∧ z = (kv x).2 ∧ ((Dl, OW.dT acc) :: L1).Sublist L4)
    (hk : ∀ Dl, K (.ref Dl) ((Dl, .dT (xs.map kv)) :: L1)) : DctInv M G vs scope kx vx tg [] src items L1 K := by
  subst he
  refine ⟨fun i acc L' => i ≤ xs.length ∧ L' = L1 ∧ acc = (xs.take i).map kv, ⟨Nat.zero_le _, rfl, rfl⟩, fun i acc L' ⟨h1, h2, h3⟩ => ⟨by rw [h2]; exact hsrc, ?_⟩, fun F1 Dl i d acc L' hd ⟨h1, h2, h3⟩ => ?_, fun acc L' ⟨h1, h2, h3⟩ Dl => ?_⟩
  · rw [h3, List.length_map, List.length_take]
    omega
  · subst h2
    obtain ⟨x, hx, rfl, hm, hlt, tk⟩ := take_map hd
    intro X S F σ H v A r Q q
    refine turn F1 Dl x acc hm X S F σ H v A r Q fun G' σ' k A' w => q G' σ' ?_ A' w
    refine ⟨fun _ => k.imp fun y L3 h3' => h3'.imp fun z L4 ⟨ey, ez, s3⟩ => ⟨(kv x).1, L', ey, s3, hlt, rfl, ?_⟩, fun h => (nomatch h)⟩
    subst ez
    rw [putE_newT, tk, List.map_append, h3]
    · rfl
    · rw [h3, List.map_map]
      intro hmem
      have e1 : xs.map (fun x => (kv x).1) = (xs.take i).map (fun x => (kv x).1) ++ (kv x).1 :: (xs.drop (i + 1)).map (fun x => (kv x).1) := by
        have e2 : xs = xs.take i ++ x :: xs.drop (i + 1) := by
          have e3 : xs.drop i = x :: xs.drop (i + 1) := by
            rw [List.drop_eq_getElem_cons hlt, (List.getElem?_eq_some_iff.mp hx).2]
          rw [← e3, List.take_append_drop]
        have e4 := congrArg (List.map fun x => (kv x).1) e2
        rw [List.map_append, List.map_cons] at e4
        exact e4
      rw [e1] at nd
      exact (List.nodup_append.mp nd).2.2 _ hmem _ List.mem_cons_self rfl
  · rw [List.length_map] at *
    rw [h2, h3, List.take_length]
    exact hk Dl
end
section
variable {X : Cx}
/-- y = {k: v for ..}, y a local name -/
theorem ps_setDct {i : Nat} {y : Str} {py : Pos} {kx vx tg iter : Expr} {ifs : List Expr} {scope : Scope} {own : List (Str × Nat)} {pos sp2 : Pos} {wi : TI} {g : TG} {tt : TT} {tk tv : TE} (hc : X.calm = true) (nd : X.N.Nodup) (hy : X.N[i]? = some y) (ly : X.env.scope.names.lookup y = some .local)
    (sw : swapsWith (.DictComp kx vx [⟨tg, iter, ifs, 0⟩] scope pos) (some (.Name y py)) sp2.line X.env = pure true) (hi : PI X tg iter wi) (ok : BlkOk X.N X.env.scope scope own)
    (hu : X.A.units < cLine) (ps : DParts X scope tg ifs kx vx g tt tk tv) (fs : ∀ x, foldedSetIterable iter X.env x = pure x) :
    PS X (.Assign [.Name y py] (.DictComp kx vx [⟨tg, iter, ifs, 0⟩] scope pos) sp2) (tAsg (tDct wi g tt tk tv (own.map (·.2))) (gName i)) := by
  constructor
  intro pins s σ H D I h
  rw [exec_Assign_Name_used _ _ _ _ sw]
  refine wpAny_bind (wpAny_standAt (wpAny_bind ?_))
  have h2 : tDct wi g tt tk tv (own.map (·.2)) σ H (fun x H1 => gName i x σ H1 D.nx) := h
  have core := dct_core (use := some (assign (.Name y py) X.env)) (Qf := fun _ s2 => SP X pins D .next s2) (pos := pos) (pos2 := firstIterPos [⟨tg, iter, ifs, 0⟩] pos) hc hu nd I hi ok ps fs h2 fun L C s2 m H2 I2 q hn f => by
    show wpAny _ _ (assign (.Name y py) X.env (.ref L)) _ _ _
    refine wpAny_assign_Name (store_ok2 (v := V.ref L) I2 nd hy (.inl ly) rfl (fun s3 I3 ⟨a, sb, ha⟩ => ?_) (.inr ly))
    obtain ⟨f0, f1, f2, f3, f4, f5⟩ := f
    have ne : C ≠ a := by
      rcases ha with z | z
      · rw [z]; exact f1
      · intro e
        exact f4 y a z e.symm
    exact ⟨m, hn.sameBut sb ne, fun h3 sb3 => ⟨_, H2, I3.turned (t' := s3.toks) (fun b o hb e => (sb3.2 b hb).trans e) f0 f1 f3 f4 f5, q⟩⟩
  exact wpAny_bind (thn core fun _ s2 hq => wpAny_pure (wpAny_pure hq))
end
section
variable {M : Mode} {G : List (Option D)} {L : Led} {pos : Pos} {E : TD}
/-- x = {..}, the name a local -/
theorem run_setdct {x : Str} {p : Pos} {kx vx tg iter : Expr} {ifs : List Expr} {scope : Scope} {rest : List Stmt} {spos : Pos} (own : List (Str × Nat)) (hc : M.C.cm = true) (hx : M.C.sc.names.lookup x = some .local) (hn : x ∈ M.C.N) (ok : blkC M.C.N M.C.sc scope own = true)
    (h : EvI M G L tg iter fun src items L1 => DctInv M G (own.map (·.2)) scope kx vx tg ifs src items L1 fun d L2 => ∃ G', Put M.C.N G x (some d) G' ∧ Run M G' L2 rest E)
    (hkind : M.C.sc.kind = .function) (hl : (p.line == pos.line) = true) (ha : (scope.names.any fun (n, k) => n == x && (k == .local || k == .cell)) = false)
    (hs : ∀ (X : Cx) x, foldedSetIterable iter X.env x = pure x := by intro _ _; rfl) : Run M G L (.Assign [.Name x p] (.DictComp kx vx [⟨tg, iter, ifs, 0⟩] scope pos) spos :: rest) E := by
  intro X S F σ H A D o
  obtain ⟨i, hi⟩ := List.getElem?_of_mem hn
  have nd : X.N.Nodup := by rw [← S.ok.eN]; exact S.ok.nd
  have lx : X.env.scope.names.lookup x = some .local := by rw [← S.ok.es]; exact hx
  rw [S.ok.eN] at hi
  refine gss_cons ⟨_, ps_setDct (i := i) (S.ok.calm hc) nd hi lx (sw_dc (by rw [← S.ok.es]; exact hkind) lx hl ha) bi (by rw [← S.ok.eN, ← S.ok.es]; exact blkOk_by ok) (Nat.lt_of_succ_lt (sit_hu S hc)) ⟨gB_ok, tB_ok, eB_ok, eB_ok⟩ (hs X), ?_⟩
  refine dct_go S hc A (h X S F σ H A) fun d L2 v F2 H2 k2 A2 r2 s2 => ?_
  obtain ⟨G', hp, hr⟩ := k2
  obtain ⟨j, hj, rfl⟩ := hp.ix
  rw [S.ok.eN] at hj
  have e : j = i := nodup_ix nd hj hi
  subst e
  exact hr X S F2 _ H2 (A2.set r2) D o
end
end TL

namespace TL
open PySem L2 PySem.Spec
/-! ### a dict with tuples for keys, walked; own objects within an own instance, frozen -/
theorem repA_keys {Kk : PySem.W.Frag} {F : Hp} : ∀ k : List Key, RepA Kk F (kD k) (k.map kV)
  | [] => .nil
  | _ :: k => .cons (.v _) (repA_keys k)
theorem RepT.same {Kk : PySem.W.Frag} {F : Hp} : ∀ {kvs : List (List Key × D)} {ws : List (List Key × V)}, RepT Kk F kvs ws → kvs.map (·.1) = ws.map (·.1)
  | _, _, .nil => rfl
  | _, _, .cons r s => by
    rw [List.map_cons, List.map_cons, RepT.same s]
section
variable {M : Mode} {G : List (Option D)} {L L1 L2 : Led} {rest ss : List Stmt} {E : TD} {pos : Pos} {K : D → Led → Prop}
/-- e leads to the dict at p, and still does while that is locked -/
def PathT (M : Mode) (G : List (Option D)) (L : Led) (e : Expr) (kvs : List (List Key × D)) : Prop := ∀ X, Sit M X → ∀ F σ H, M.at G L F σ H → ∃ p ws, Rd F p (.dT ws) ∧ RepT M.C.K F kvs ws ∧ (∀ Q : VK, Q (.ref p) H → GE X e σ H Q) ∧
  ∀ od, F p = some (.dT ws) → ∀ Q : VK, Q (.ref p) (upd H p (.frz od (.dT ws))) → GE X e σ (upd H p (.frz od (.dT ws))) Q
theorem path_nameT {x : Str} {kvs : List (List Key × D)} (hl : Look M.C.N G x (some (.dT kvs))) (hv : Vis M.C.sc x) (hd : (x == ("__debug__" : Str)) = false := by decide +kernel) (hcd : (x == ("__classdict__" : Str)) = false := by decide +kernel) : PathT M G L (.Name x pos) kvs := by
  intro X S F σ H a
  obtain ⟨i, h1, h2⟩ := hl.ix
  obtain ⟨v, h3, r⟩ := a.env.get h2
  cases r with
  | dT r1 r2 =>
    refine ⟨_, _, r1, r2, fun Q q => ⟨tVar i, pe_var (by rw [← S.ok.eN]; exact h1) (by rw [← S.ok.es]; exact hv) hd hcd, _, h3, q⟩, fun od _ Q q => ⟨tVar i, pe_var (by rw [← S.ok.eN]; exact h1) (by rw [← S.ok.es]; exact hv) hd hcd, _, h3, q⟩⟩
/-- name.f, the name an instance -/
theorem path_fldT {x f : Str} {p2 : Pos} {Cc : Addr} {y : D} {fs : List (Str × D)} {kvs : List (List Key × D)} (c : Cls M.C.K Cc) (n : NoAttr M.C.K Cc f) (hl : Look M.C.N G x (some y)) (ho : IsO L y Cc fs) (hf : fs.lookup f = some (.dT kvs)) (hv : Vis M.C.sc x) (hd : (x == ("__debug__" : Str)) = false := by decide +kernel) (hcd : (x == ("__classdict__" : Str)) = false := by decide +kernel)
    (hb : ∀ X : Cx, attributeBase (.Name x p2) f X.env (eval (.Name x p2) X.env) = eval (.Name x p2) X.env := by intro _; rfl) : PathT M G L (.Attribute (.Name x p2) f pos) kvs := by
  intro X S F σ H a
  obtain ⟨i, h1, h2⟩ := hl.ix
  obtain ⟨v, h3, r⟩ := a.env.get h2
  obtain ⟨q, dx, ws, rfl, e1, e2⟩ := ho.get a r
  obtain ⟨w, hw, rw'⟩ := e2.lookup hf
  have pe : ∀ Q : VK, ∀ H', (∃ v0, σ[i]? = some (some v0) ∧ Q v0 H') → GE X (.Name x p2) σ H' Q := fun Q H' h => ⟨tVar i, pe_var (by rw [← S.ok.eN]; exact h1) (by rw [← S.ok.es]; exact hv) hd hcd, h⟩
  rw [S.ok.eK] at c n
  cases rw' with
  | dT r1 r2 =>
    rename_i p us
    refine ⟨p, us, r1, r2, fun Q hq => ⟨_, pe_fld be (hb X), ?_⟩, fun od hF Q hq => ⟨_, pe_fld be (hb X), ?_⟩⟩
    · exact pe _ _ ⟨_, h3, q, Cc, dx, ws, _, rfl, e1, c, n, hw, hq⟩
    · have ne : q ≠ p := fun e => by
        have := a.fh _ _ hF
        rw [← e, e1] at this
        cases this
      exact pe _ _ ⟨_, h3, q, Cc, dx, ws, _, rfl, by rw [upd_ne ne]; exact e1, c, n, hw, hq⟩
def keysT (kvs : List (List Key × D)) : List D := kvs.map fun kv => .tup (kD kv.1)
theorem keys_goT {X : Cx} {F H : Hp} {σ : St} {tg e : Expr} {p : Addr} {od : Obj} {ws : List (List Key × V)} {kvs : List (List Key × D)} {K : Led → List D → Led → Prop} (hk : K [] (keysT kvs) L) (r : RepT M.C.K F kvs ws) (A : M.at G L F σ H) (hF : F p = some (.frz od (.dT ws)))
    (h : ∀ Q : VK, Q (.ref p) H → GE X e σ H Q) : EvI1 M G X F σ H tg e K := by
  intro R q
  have rk : keysT kvs = ws.map fun kv => .tup (kD kv.1) := by
    have e1 := congrArg (List.map fun k => D.tup (kD k)) r.same
    rw [List.map_map, List.map_map] at e1
    exact e1
  refine ⟨_, pi_keys be, h _ ⟨p, od, rfl, .inr ⟨ws, A.fh _ _ hF, q _ [] _ L F H hk (fun G' L' F' σ' H' A' _ i => ?_) A (Same.refl _)⟩⟩⟩
  have hH : H' p = some (.frz od (.dT ws)) := A'.fh _ _ (A'.ef _ _ hF)
  rw [rk]
  refine ⟨fun d hd => ?_, fun hi => ⟨hH, by simpa using hi⟩⟩
  rw [List.getElem?_map] at hd
  cases e1 : ws[i]? with
  | none => rw [e1] at hd; cases hd
  | some kv =>
    rw [e1] at hd
    cases hd
    refine ⟨⟨hH, (List.getElem?_eq_some_iff.mp e1).1⟩, fun x H2 ⟨e2, k, v, b, e3, e4, e5⟩ => ?_⟩
    rw [e1] at e3
    cases e3
    subst e2 e4
    obtain ⟨F2, A2, s2, r2⟩ := A'.iceT e5 (repA_keys k)
    exact ⟨F2, A2, r2⟩
theorem run_forT {tg iter : Expr} {body : List Stmt} {kvs : List (List Key × D)} (hlp : M.C.lp = true) (hc : M.C.cm = true) (hp : PathT M G L iter kvs)
    (h : ∀ H0 F0, ForInv (M.lok H0 F0) G tg body { E with nx := fun G' L' => Run M G' L' rest E } [] (keysT kvs) L)
    (hs : ∀ (X : Cx) x, foldedSetIterable iter X.env x = pure x := by intro _ _; rfl) : Run M G L (.For tg iter body [] pos :: rest) E := by
  intro X S F σ H A D o
  obtain ⟨p, ws, rd, r, g1, g2⟩ := hp X S F σ H A
  rcases rd with hF | ⟨od, hF⟩
  · refine gss_cons ⟨_, ps_lock (ps_for (S.ok.po hlp) (S.ok.calm hc) bi bg bss (hs X)), p, .dT ws, A.fh _ _ hF, True.intro, fun od => ?_⟩
    have A2 := A.locked (od := od) hF (.inr ⟨ws, rfl⟩)
    have kp := kp_lock (Kk := M.C.K) (od := od) hF (.inr ⟨ws, rfl⟩)
    have ev := keys_goT (M := M.lok (less M.H0 [p]) (upd F p (.frz od (.dT ws)))) (tg := tg) (K := fun src items L1 => ForInv (M.lok (less M.H0 [p]) (upd F p (.frz od (.dT ws)))) G tg body { E with nx := fun G' L' => Run M G' L' rest E } src items L1) (h _ _) (r.keep kp) A2 upd_same (g2 od hF)
    have un : ∀ {G' : List (Option TL.D)} {L' : Led} {F' : Hp} {σ' : St} {H' : Hp}, (M.lok (less M.H0 [p]) (upd F p (.frz od (.dT ws)))).at G' L' F' σ' H' → H' p = some (.frz od (.dT ws)) ∧ Kp F' (upd F' p (.dT ws)) ∧ M.at G' L' (upd F' p (.dT ws)) σ' (upd H' p (.dT ws)) := fun B => by
      obtain ⟨u1, u2, u3, u4⟩ := A.unlocked hF (.inr ⟨ws, rfl⟩) B
      exact ⟨B.fh _ _ u1, u3, u4⟩
    exact for_go (S.lok _ _) A2 ev ⟨fun G' L' F' σ' H' k B => let ⟨a, b, c⟩ := un B; ⟨a, k X S _ σ' _ c D o⟩, fun d G' L' v F' σ' H' k B r => let ⟨a, b, c⟩ := un B; ⟨a, o.rt d G' L' v _ σ' _ k c (r.keep b)⟩,
        fun G' L' F' σ' H' k B => let ⟨a, b, c⟩ := un B; ⟨a, o.bk G' L' _ σ' _ k c⟩, fun G' L' F' σ' H' k B => let ⟨a, b, c⟩ := un B; ⟨a, o.ct G' L' _ σ' _ k c⟩⟩
  · have A2 : (M.lok M.H0 M.F0).at G L F σ H := A
    have ev := keys_goT (M := M.lok M.H0 M.F0) (tg := tg) (K := fun src items L1 => ForInv (M.lok M.H0 M.F0) G tg body { E with nx := fun G' L' => Run M G' L' rest E } src items L1) (h _ _) r A2 hF g1
    have o2 := o.seq S (rest := rest)
    exact gss_cons ⟨_, ps_for (S.ok.po hlp) (S.ok.calm hc) bi bg bss (hs X), for_go (S.lok _ _) A2 ev ⟨o2.nx, o2.rt, o2.bk, o2.ct⟩⟩
/-- [.. for x in a dict ..] -/
theorem ev_lcT {elt tg iter : Expr} {ifs : List Expr} {scope : Scope} {kvs : List (List Key × TL.D)} (own : List (Str × Nat)) (hc : M.C.cm = true) (ok : blkC M.C.N M.C.sc scope own = true) (hp : PathT M G L iter kvs)
    (h : ∀ H0 F0, LcInv (M.lok H0 F0) G (own.map (·.2)) scope elt tg ifs [] (keysT kvs) L K)
    (hs : ∀ (X : Cx) x, foldedSetIterable iter X.env x = pure x := by intro _ _; rfl) : Ev M G L (.ListComp elt [⟨tg, iter, ifs, 0⟩] scope pos) K := by
  intro X S F σ H A Q q
  obtain ⟨p, ws, rd, r, g1, g2⟩ := hp X S F σ H A
  have pe := pe_lc (X := X) (elt := elt) (tg := tg) (iter := iter) (ifs := ifs) (scope := scope) (own := own) (pos := pos) (S.ok.calm hc) (by rw [← S.ok.eN]; exact S.ok.nd) bi (by rw [← S.ok.eN, ← S.ok.es]; exact blkOk_by ok) gB_ok tB_ok eB_ok (hs X)
  rcases rd with hF | ⟨od, hF⟩
  · refine ⟨_, pe_lock pe, p, .dT ws, A.fh _ _ hF, True.intro, fun od => ?_⟩
    have A2 := A.locked (od := od) hF (.inr ⟨ws, rfl⟩)
    have kp := kp_lock (Kk := M.C.K) (od := od) hF (.inr ⟨ws, rfl⟩)
    have ev := keys_goT (M := M.lok (less M.H0 [p]) (upd F p (.frz od (.dT ws)))) (tg := tg) (K := fun src items L1 => LcInv (M.lok (less M.H0 [p]) (upd F p (.frz od (.dT ws)))) G (own.map (·.2)) scope elt tg ifs src items L1 K) (h _ _) (r.keep kp) A2 upd_same (g2 od hF)
    refine lc_go (S.lok _ _) hc A2 ev fun d L' v F' H' k B rv _ => ?_
    obtain ⟨u1, u2, u3, u4⟩ := A.unlocked hF (.inr ⟨ws, rfl⟩) B
    exact ⟨B.fh _ _ u1, q d L' v _ _ k u4 (rv.keep u3) u2⟩
  · have A2 : (M.lok M.H0 M.F0).at G L F σ H := A
    have ev := keys_goT (M := M.lok M.H0 M.F0) (tg := tg) (K := fun src items L1 => LcInv (M.lok M.H0 M.F0) G (own.map (·.2)) scope elt tg ifs src items L1 K) (h _ _) r A2 hF g1
    exact ⟨_, pe, lc_go (S.lok _ _) hc A2 ev q⟩
theorem RepF.subR {Kk : PySem.W.Frag} {F : Hp} {p : Addr} {t : D} (ht : Rep Kk F t (.ref p)) : ∀ {fs : List (Str × D)} {ws : List (Str × V)}, RepF Kk F fs ws → RepF Kk F (fs.map fun kv => (kv.1, TL.subR p t kv.2)) ws
  | _, _, .nil => .nil
  | _, _, .cons r s => .cons (Rep.subR ht r) (RepF.subR ht s)
/-- an own object within an own instance frozen -/
theorem run_frzInO {pd pf C : Addr} {o : OW} {fs : List (Str × D)} (ho : Out L pd o L1) (hc : Chg L1 pf (.ins C fs) (.ins C (fs.map fun kv => (kv.1, subR pd o.frz kv.2))) L2) (h : Run M G L2 ss E) : Run M G L ss E := by
  intro X S F σ H A Dd oo
  obtain ⟨F2, A2, s2, r2⟩ := A.freeze ho
  refine h X S F2 σ H (A2.redo hc fun y => ?_) Dd oo
  cases y with
  | ins e1 e2 => exact .ins e1 (RepF.subR r2 e2)
end
end TL

namespace TL
open PySem L2 PySem.Spec
section
variable {M : Mode} {G : List (Option D)} {L : Led} {pos : Pos}
/-- a, b, .. = a list -/
theorem tgt_unl (hc : M.C.cm = true) {es : List Expr} {k : Nat} {x : D} {ds : List D} {K : List (Option D) → Led → Prop} (hx : IsL L x ds) (h : Tgts M G L es ds K) (hl : ds.length = es.length)
    (hn : ∀ X : Cx, (assignEach es X.env).length = es.length := by intro _; rfl) (hst : ∀ X : Cx, (assignEach es X.env).findIdx? (·.1) = none := by intro _; rfl)
    (hs : ∀ (X : Cx) (e : Expr) (fs : List Expr), (e :: fs) <:+ es → (assignEach (e :: fs) X.env).map (·.2) = assign e X.env :: (assignEach fs X.env).map (·.2)) : Tgt M G L (.Tuple es k pos) x K := by
  intro X S F σ H v A r Q q
  obtain ⟨p, vs, rfl, h1, h2⟩ := hx.get A r
  refine ⟨_, pg_lst (n := es.length) (S.ok.calm hc) bgs (hn X) (hst X), p, vs, rfl, SqL.of h1, by rw [← h2.length]; exact hl, ?_⟩
  exact h.go hs X S F σ H vs A h2 Q q
theorem tgt_threeL (hc : M.C.cm = true) {a b c : Expr} {k : Nat} {x d e f : D} {K : List (Option D) → Led → Prop} (hx : IsL L x [d, e, f]) (h : Tgt M G L a d fun G1 L1 => Tgt M G1 L1 b e fun G2 L2 => Tgt M G2 L2 c f K)
    (hn : ∀ X : Cx, (assignEach [a, b, c] X.env).length = 3 := by intro _; rfl) (hst : ∀ X : Cx, (assignEach [a, b, c] X.env).findIdx? (·.1) = none := by intro _; rfl)
    (h1 : ∀ X : Cx, (assignEach [a, b, c] X.env).map (·.2) = assign a X.env :: (assignEach [b, c] X.env).map (·.2) := by intro _; rfl) (h2 : ∀ X : Cx, (assignEach [b, c] X.env).map (·.2) = assign b X.env :: (assignEach [c] X.env).map (·.2) := by intro _; rfl)
    (h3 : ∀ X : Cx, (assignEach [c] X.env).map (·.2) = assign c X.env :: (assignEach [] X.env).map (·.2) := by intro _; rfl) :
    Tgt M G L (.Tuple [a, b, c] k pos) x K :=
  tgt_unl hc hx (es := [a, b, c]) ⟨d, [e, f], rfl, fun X S F σ H v A r Q q => h X S F σ H v A r Q fun G1 L1 F1 σ1 H1 k1 A1 s1 => q G1 L1 F1 σ1 H1 ⟨e, [f], rfl, fun X S F σ H v A r Q q => k1 X S F σ H v A r Q fun G2 L2 F2 σ2 H2 k2 A2 s2 => q G2 L2 F2 σ2 H2
    ⟨f, [], rfl, fun X S F σ H v A r Q q => k2 X S F σ H v A r Q fun G2 L2 F2 σ2 H2 k2 A2 s2 => q G2 L2 F2 σ2 H2 ⟨rfl, k2⟩ A2 s2⟩ A2 s2⟩ A1 s1⟩ rfl hn hst
    fun X e fs hm => by
      rcases three_sfx hm with ⟨rfl, rfl⟩ | ⟨rfl, rfl⟩ | ⟨rfl, rfl⟩
      · exact h1 X
      · exact h2 X
      · exact h3 X
theorem tgt_twoL (hc : M.C.cm = true) {a b : Expr} {k : Nat} {x d e : D} {K : List (Option D) → Led → Prop} (hx : IsL L x [d, e]) (h : Tgt M G L a d fun G1 L1 => Tgt M G1 L1 b e K)
    (hn : ∀ X : Cx, (assignEach [a, b] X.env).length = 2 := by intro _; rfl) (hst : ∀ X : Cx, (assignEach [a, b] X.env).findIdx? (·.1) = none := by intro _; rfl)
    (h1 : ∀ X : Cx, (assignEach [a, b] X.env).map (·.2) = assign a X.env :: (assignEach [b] X.env).map (·.2) := by intro _; rfl) (h2 : ∀ X : Cx, (assignEach [b] X.env).map (·.2) = assign b X.env :: (assignEach [] X.env).map (·.2) := by intro _; rfl) :
    Tgt M G L (.Tuple [a, b] k pos) x K :=
  tgt_unl hc hx (es := [a, b]) ⟨d, [e], rfl, fun X S F σ H v A r Q q => h X S F σ H v A r Q fun G1 L1 F1 σ1 H1 k1 A1 s1 => q G1 L1 F1 σ1 H1 ⟨e, [], rfl, fun X S F σ H v A r Q q => k1 X S F σ H v A r Q fun G2 L2 F2 σ2 H2 k2 A2 s2 => q G2 L2 F2 σ2 H2 ⟨rfl, k2⟩ A2 s2⟩ A1 s1⟩ rfl hn hst
    fun X e fs hm => by
      rcases two_sfx hm with ⟨rfl, rfl⟩ | ⟨rfl, rfl⟩
      · exact h1 X
      · exact h2 X
end
end TL
namespace TL
open PySem L2 PySem.Spec
section
variable {M : Mode} {G : List (Option D)} {L : Led} {K : D → Led → Prop} {pos : Pos}
theorem rgV_eq (n : Nat) : rgV 0 (n : Nat) = (List.range n).map fun i => V.int ((i : Nat) : Int) := by
  unfold rgV
  simp
/-- tuple(range(n)) -/
theorem ev_tupRg {p p2 pos2 : Pos} {a : Expr} (hc : M.C.cm = true) (hg : GlC M.C "tuple") (hm : M.C.mg "tuple" = none) (hg2 : GlC M.C "range") (hm2 : M.C.mg "range" = none)
    (h : Ev M G L a fun d L1 => ∃ n : Nat, d = .int n ∧ n ≤ 1000 ∧ K (.tup ((List.range n).map fun i => D.int ((i : Nat) : Int))) L1)
    (na : ∀ X : Cx, starEach [a] X.env = (false, eval a X.env) :: starEach [] X.env := by intro _; rfl)
    (nb : ∀ X : Cx, starEach [Expr.Call (.Name "range" p2) [a] [] pos2] X.env = (false, eval (Expr.Call (.Name "range" p2) [a] [] pos2) X.env) :: starEach [] X.env := by intro _; rfl) :
    Ev M G L (.Call (.Name "tuple" p) [.Call (.Name "range" p2) [a] [] pos2] [] pos) K := by
  intro X S F σ H A Q q
  refine ⟨_, pe_tupRg (S.ok.calm hc) (gl_of S hg) (mg_of S hm) (prg_1 (gl_of S hg2) (mg_of S hm2) be (na X)) (nb X), ?_⟩
  refine h X S F σ H A _ fun d L1 v F1 H1 k1 A1 r1 s1 => ?_
  obtain ⟨n, rfl, hn, hk⟩ := k1
  cases r1
  refine ⟨n, rfl, ?_, fun p hp => ?_⟩
  · exact .of_le (by omega) (by omega) (by omega) (by omega)
  · obtain ⟨A2, s2⟩ := A1.ice hp (o := .tup (rgV 0 (n : Nat)))
    refine q _ _ _ _ _ hk A2 (.tup upd_same ?_) (s1.trans s2)
    rw [rgV_eq]
    have e : ((List.range n).map fun i => D.int ((i : Nat) : Int)) = ((List.range n).map fun i => V.int ((i : Nat) : Int)).map D.v := by
      rw [List.map_map]
      rfl
    rw [e]
    exact .of_flats _
end
end TL
namespace TL
open PySem L2 PySem.Spec
section
variable {M : Mode} {G : List (Option D)} {L : Led} {K : D → Led → Prop} {pos : Pos}
theorem ev_disp2 {k v k2 v2 : Expr} (h : ∀ p, Ev M G ((p, .dK []) :: L) k fun x L1 => Ev M G L1 v fun y L2 => Ev M G L2 k2 fun x2 L3 => Ev M G L3 v2 fun y2 L4 => ∃ kk kk2 : Key, x = .v (kV kk) ∧ x2 = .v (kV kk2) ∧ ∃ L', L4 = (p, .dK []) :: L' ∧ K (.dK (dispE [(kk, y), (kk2, y2)])) L') : Ev M G L (.Dict [some k, some k2] [v, v2] pos) K := by
  refine ev_frz (ev_disp (fun p => ?_) (h15 := show 2 ≤ 15 by decide))
  show Ev M G _ k fun x L1 => Ev M G L1 v fun y L2 => Ev M G L2 k2 fun x2 L3 => Ev M G L3 v2 fun y2 L4 => _
  refine (h p).imp fun x L1 h1 => h1.imp fun y L2 h2 => h2.imp fun x2 L3 h3 => h3.imp fun y2 L4 ⟨kk, kk2, ex, ex2, L', eL, hk⟩ => ?_
  subst ex ex2 eL
  exact ⟨[(kk, y), (kk2, y2)], _, rfl, .here, (show 2 ≤ 15 by decide), p, _, _, rfl, .here, hk⟩
/-- {"s": i}, {"s": i, "t": j}: written -/
theorem ev_dlit1 {s : Str} {i : Int} {j1 j2 : Nat} {p1 p2 : Pos} (h : K (.dK [(Sum.inr s, .int i)]) L) : Ev M G L (.Dict [some (.Constant (.str s) j1 p1)] [.Constant (.int i) j2 p2] pos) K :=
  ev_disp1 fun _ => ev_str (ev_int ⟨Sum.inr s, rfl, _, rfl, h⟩)
theorem ev_dlit2 {s t : Str} {i k : Int} {j1 j2 j3 j4 : Nat} {p1 p2 p3 p4 : Pos} (h : K (.dK (dispE [(Sum.inr s, .int i), (Sum.inr t, .int k)])) L) : Ev M G L (.Dict [some (.Constant (.str s) j1 p1), some (.Constant (.str t) j2 p2)] [.Constant (.int i) j3 p3, .Constant (.int k) j4 p4] pos) K :=
  ev_disp2 fun _ => ev_str (ev_int (ev_str (ev_int ⟨Sum.inr s, Sum.inr t, rfl, rfl, _, rfl, h⟩)))
end
end TL

open PySem L2 TL
local macro_rules | `(tactic| wtm_at "nm") => `(tactic| first | exact List.Mem.head _ | (refine List.Mem.tail _ ?_; wtm_at "nm"))
local macro_rules | `(tactic| wtm_at "lk") => `(tactic| first | with_reducible exact Look.here | (refine Look.there ?_; wtm_at "lk"))
local macro_rules | `(tactic| wtm_at "pt") => `(tactic| first | with_reducible exact Put.here | with_reducible exact Put.there (Put.here) | with_reducible exact Put.there (Put.there (Put.here)) | with_reducible exact Put.there (Put.there (Put.there (Put.here))) | with_reducible exact Put.there (Put.there (Put.there (Put.there (Put.here)))) | with_reducible exact Put.there (Put.there (Put.there (Put.there (Put.there (Put.here))))) | with_reducible exact Put.there (Put.there (Put.there (Put.there (Put.there (Put.there (Put.here)))))) | with_reducible exact Put.there (Put.there (Put.there (Put.there (Put.there (Put.there (Put.there (Put.here))))))) | with_reducible exact Put.there (Put.there (Put.there (Put.there (Put.there (Put.there (Put.there (Put.there (Put.here)))))))) | with_reducible exact Put.there (Put.there (Put.there (Put.there (Put.there (Put.there (Put.there (Put.there (Put.there (Put.here))))))))) | with_reducible exact Put.there (Put.there (Put.there (Put.there (Put.there (Put.there (Put.there (Put.there (Put.there (Put.there (Put.here)))))))))) | with_reducible exact Put.there (Put.there (Put.there (Put.there (Put.there (Put.there (Put.there (Put.there (Put.there (Put.there (Put.there (Put.here))))))))))) | with_reducible exact Put.there (Put.there (Put.there (Put.there (Put.there (Put.there (Put.there (Put.there (Put.there (Put.there (Put.there (Put.there (Put.here)))))))))))) | with_reducible exact Put.there (Put.there (Put.there (Put.there (Put.there (Put.there (Put.there (Put.there (Put.there (Put.there (Put.there (Put.there (Put.there (Put.here))))))))))))) | with_reducible exact Put.there (Put.there (Put.there (Put.there (Put.there (Put.there (Put.there (Put.there (Put.there (Put.there (Put.there (Put.there (Put.there (Put.there (Put.here)))))))))))))) | with_reducible exact Put.there (Put.there (Put.there (Put.there (Put.there (Put.there (Put.there (Put.there (Put.there (Put.there (Put.there (Put.there (Put.there (Put.there (Put.there (Put.here))))))))))))))) | with_reducible exact Put.there (Put.there (Put.there (Put.there (Put.there (Put.there (Put.there (Put.there (Put.there (Put.there (Put.there (Put.there (Put.there (Put.there (Put.there (Put.there (Put.here)))))))))))))))) | with_reducible exact Put.there (Put.there (Put.there (Put.there (Put.there (Put.there (Put.there (Put.there (Put.there (Put.there (Put.there (Put.there (Put.there (Put.there (Put.there (Put.there (Put.there (Put.here))))))))))))))))) | with_reducible exact Put.there (Put.there (Put.there (Put.there (Put.there (Put.there (Put.there (Put.there (Put.there (Put.there (Put.there (Put.there (Put.there (Put.there (Put.there (Put.there (Put.there (Put.there (Put.here)))))))))))))))))) | with_reducible exact Put.there (Put.there (Put.there (Put.there (Put.there (Put.there (Put.there (Put.there (Put.there (Put.there (Put.there (Put.there (Put.there (Put.there (Put.there (Put.there (Put.there (Put.there (Put.there (Put.here))))))))))))))))))) | with_reducible exact Put.there (Put.there (Put.there (Put.there (Put.there (Put.there (Put.there (Put.there (Put.there (Put.there (Put.there (Put.there (Put.there (Put.there (Put.there (Put.there (Put.there (Put.there (Put.there (Put.there (Put.here)))))))))))))))))))) | with_reducible exact Put.there (Put.there (Put.there (Put.there (Put.there (Put.there (Put.there (Put.there (Put.there (Put.there (Put.there (Put.there (Put.there (Put.there (Put.there (Put.there (Put.there (Put.there (Put.there (Put.there (Put.there (Put.here))))))))))))))))))))) | with_reducible exact Put.there (Put.there (Put.there (Put.there (Put.there (Put.there (Put.there (Put.there (Put.there (Put.there (Put.there (Put.there (Put.there (Put.there (Put.there (Put.there (Put.there (Put.there (Put.there (Put.there (Put.there (Put.there (Put.here)))))))))))))))))))))) | with_reducible exact Put.there (Put.there (Put.there (Put.there (Put.there (Put.there (Put.there (Put.there (Put.there (Put.there (Put.there (Put.there (Put.there (Put.there (Put.there (Put.there (Put.there (Put.there (Put.there (Put.there (Put.there (Put.there (Put.there (Put.here))))))))))))))))))))))) | with_reducible exact Put.there (Put.there (Put.there (Put.there (Put.there (Put.there (Put.there (Put.there (Put.there (Put.there (Put.there (Put.there (Put.there (Put.there (Put.there (Put.there (Put.there (Put.there (Put.there (Put.there (Put.there (Put.there (Put.there (Put.there (Put.here)))))))))))))))))))))))) | with_reducible exact Put.there (Put.there (Put.there (Put.there (Put.there (Put.there (Put.there (Put.there (Put.there (Put.there (Put.there (Put.there (Put.there (Put.there (Put.there (Put.there (Put.there (Put.there (Put.there (Put.there (Put.there (Put.there (Put.there (Put.there (Put.there (Put.here))))))))))))))))))))))))))
local macro_rules | `(tactic| wtm_at "ch") => `(tactic| first | with_reducible exact Chg.here | with_reducible exact Chg.there (Chg.here) | with_reducible exact Chg.there (Chg.there (Chg.here)) | with_reducible exact Chg.there (Chg.there (Chg.there (Chg.here))) | with_reducible exact Chg.there (Chg.there (Chg.there (Chg.there (Chg.here)))) | with_reducible exact Chg.there (Chg.there (Chg.there (Chg.there (Chg.there (Chg.here))))) | with_reducible exact Chg.there (Chg.there (Chg.there (Chg.there (Chg.there (Chg.there (Chg.here)))))) | with_reducible exact Chg.there (Chg.there (Chg.there (Chg.there (Chg.there (Chg.there (Chg.there (Chg.here))))))))
local macro_rules | `(tactic| wtm_at "bn") => `(tactic| first | with_reducible exact bn_len | with_reducible exact bn_isinstance | with_reducible exact bn_int | with_reducible exact bn_str | with_reducible exact bn_tuple | with_reducible exact bn_list | with_reducible exact bn_all | with_reducible exact bn_any | with_reducible exact bn_min | with_reducible exact bn_max | with_reducible exact bn_dict | with_reducible exact bn_sum | with_reducible exact bn_sorted | with_reducible exact bn_bool)
local macro_rules | `(tactic| wtm_at "nv") => `(tactic| first | (with_reducible assumption) | exact (by kernel_rfl))
local macro_rules | `(tactic| wtm_at "vs") => `(tactic| first | with_reducible exact visL_mem (by with_reducible assumption) (by wtm_at "nm") | exact (by kernel_rfl))
local macro_rules | `(tactic| wtm_at "vis") => `(tactic| exact vis_of (by kernel_rfl))
local macro_rules | `(tactic| wtm_at "gl") => `(tactic| exact gl_by (by kernel_rfl))
local macro_rules | `(tactic| wtm_at "bt") => `(tactic| first | with_reducible exact boot_len | with_reducible exact PyProof.Rows.boot_isinstance | with_reducible exact PyProof.Rows.boot_int | with_reducible exact PyProof.Rows.boot_str | with_reducible exact PyProof.Rows.boot_all | with_reducible exact PyProof.Rows.boot_any | with_reducible exact PyProof.Rows.boot_bool | with_reducible exact PyProof.Rows.boot_tuple | with_reducible exact PyProof.Rows.boot_list | with_reducible exact PyProof.Rows.boot_dict | with_reducible exact PyProof.Rows.boot_max | with_reducible exact PyProof.Rows.boot_min | with_reducible exact PyProof.Rows.boot_sum | with_reducible exact PyProof.Rows.boot_sorted)
local macro_rules | `(tactic| wtm_at "bty") => `(tactic| first | with_reducible exact PyProof.Rows.boot_int | with_reducible exact PyProof.Rows.boot_str | with_reducible exact PyProof.Rows.boot_bool | with_reducible exact PyProof.Rows.boot_tuple | with_reducible exact PyProof.Rows.boot_list | with_reducible exact PyProof.Rows.boot_dict)
local macro_rules | `(tactic| wtm_at "loc") => `(tactic| exact loc_of (by kernel_rfl))
local macro_rules | `(tactic| wtm_at "mem") => `(tactic| exact mem_of (by kernel_rfl))
local macro_rules | `(tactic| wtm_at "isl") => `(tactic| first | exact IsL.frz | exact IsL.own (by wtm_at "nm"))
local macro_rules | `(tactic| wtm_at "isk") => `(tactic| first | exact IsK.frz | exact IsK.own (by wtm_at "nm"))
local macro_rules | `(tactic| wtm_at "iso") => `(tactic| first | exact IsO.frz | exact IsO.own (by wtm_at "nm"))
local macro_rules | `(tactic| wtm_at "isq") => `(tactic| first | exact IsSq.tup | exact IsSq.lst (by wtm_at "isl"))
local macro_rules | `(tactic| wtm_at "bi") => `(tactic| exact Bi.h (by assumption) (by kernel_rfl))
/-- leaves and forms of expressions -/
local macro_rules | `(tactic| wtm_at "st1") => `(tactic| (intro _; rfl))
local macro_rules | `(tactic| wtm_at "kr") => `(tactic| exact (by kernel_rfl))
local macro_rules | `(tactic| wtm_at "nam") => `(tactic| ((show TL.Ev _ _ _ (Expr.Name _ _) _); first
  | (apply ev_nameV; (focus wtm_at "lk"); (focus wtm_at "nv"); (focus wtm_at "vs"))
  | (apply ev_gvalA; (focus with_reducible assumption); (focus wtm_at "gl"); (focus wtm_at "kr"))
  | (apply ev_gtupA; (focus with_reducible assumption); (focus wtm_at "gl"); (focus wtm_at "kr"))
  | (apply ev_tynN; (focus wtm_at "bn"); (focus wtm_at "gl"); (focus with_reducible assumption); (focus wtm_at "bty"))))
local macro_rules | `(tactic| wtm_at "cll") => `(tactic| ((show TL.Ev _ _ _ (Expr.Call (Expr.Name _ _) _ _ _) _); first
  | (apply ev_bltA; (focus wtm_at "bn"); (focus wtm_at "gl"); (focus with_reducible assumption); (focus wtm_at "bt"); (focus wtm_at "st1"); (focus wtm_at "st1"))
  | (apply ev_bltyA; (focus wtm_at "bn"); (focus wtm_at "gl"); (focus with_reducible assumption); (focus wtm_at "bty"); (focus wtm_at "st1"); (focus wtm_at "st1"))
  | (apply ev_callA; (focus with_reducible assumption); (focus rfl); (focus rfl); (focus wtm_at "gl"); (focus wtm_at "kr"); (focus wtm_at "st1"); (focus wtm_at "st1"))
  | (apply ev_makeA; (focus with_reducible assumption); (focus rfl); (focus rfl); (focus wtm_at "gl"); (focus wtm_at "kr"); (focus wtm_at "st1"); (focus wtm_at "st1"))))
local macro_rules | `(tactic| wtm_at "mtl") => `(tactic| ((show TL.Ev _ _ _ (Expr.Call (Expr.Attribute _ _ _) _ _ _) _); first
  | (apply ev_meth0A; (focus with_reducible assumption); (focus with_reducible assumption); (focus rfl); (focus rfl); (focus wtm_at "st1"))
  | (apply ev_methA; (focus with_reducible assumption); (focus with_reducible assumption); (focus rfl); (focus rfl); (focus wtm_at "st1"); (focus wtm_at "st1"); (focus wtm_at "st1"))))
local macro_rules | `(tactic| wtm_at "ev") => `(tactic| ((with_reducible first | show TL.Ev _ _ _ _ _ | show TL.EvA _ _ _ _ _); first
  | wtm_at "nam" | wtm_at "cll" | wtm_at "mtl"
  | refine ev_int ?_
  | refine ev_str ?_
  | refine ev_bin ?_
  | refine ev_cmp ?_
  | refine ev_bl ?_
  | refine ev_non ?_
  | refine ea_cons ?_
  | refine ea_nil ?_
  | refine ev_ix ?_
  | refine ev_tup ?_
  | refine ev_lst ?_
  | refine ev_if ?_
  | refine ev_sl ?_
  | refine ev_chain ?_
  | refine ev_not ?_
  | refine ev_and ?_
  | refine ev_or ?_
  | refine ev_one ?_
  | (apply ev_fldA; (focus with_reducible assumption); (focus with_reducible assumption); (focus wtm_at "st1"))))
local macro_rules | `(tactic| wtm_at "o2") => `(tactic| ((with_reducible show TL.Op2 _ _ _ _ _ _ _); first
  | with_reducible refine op_addI ?_ | with_reducible refine op_subI ?_ | with_reducible refine op_eqI ?_ | with_reducible refine op_neI ?_ | with_reducible refine op_ltI ?_ | with_reducible refine op_leI ?_ | with_reducible refine op_gtI ?_ | with_reducible refine op_geI ?_
  | with_reducible refine op_eqS ?_ | with_reducible refine op_neS ?_ | with_reducible refine TL.op_isN ?_ | with_reducible refine TL.op_notN ?_))
local macro_rules | `(tactic| wtm_at "op") => `(tactic| first
  | with_reducible refine and_t ?_ | with_reducible refine and_f ?_ | with_reducible refine or_t ?_ | with_reducible refine or_f ?_
  | with_reducible refine tand_t ?_ | with_reducible refine tand_f ?_ | with_reducible refine tor_t ?_ | with_reducible refine tor_f ?_
  | with_reducible refine andn_t ?_ | with_reducible refine andn_f ?_ | with_reducible refine orn_t ?_ | with_reducible refine orn_f ?_
  | with_reducible refine tandn_t ?_ | with_reducible refine tandn_f ?_ | with_reducible refine torn_t ?_ | with_reducible refine torn_f ?_
  | ((with_reducible show Exists _); first
    | ((with_reducible apply TL.fld_of); (focus wtm_at "iso"); (focus rfl)) | ((with_reducible apply TL.mth_of); (focus wtm_at "iso"); (focus rfl))
    | refine ⟨_, tr_bl, ?_⟩ | refine ⟨_, tr_non, ?_⟩ | refine ⟨_, tr_int, ?_⟩ | refine ⟨_, tr_Q (by wtm_at "isq"), ?_⟩
    | refine ⟨_, by wtm_at "pt", ?_⟩
    | refine ⟨_, rfl, ?_⟩)
  | ((with_reducible show And _ _); refine And.intro ?_ ?_)
  | ((with_reducible show List.Sublist _ _); exact List.Sublist.refl _) | ((with_reducible show @Eq _ _ _); with_reducible rfl)
  | ((with_reducible intro hb); exact Bool.noConfusion hb)
  | refine fun (_ : true = true) => ?_ | refine fun (_ : false = false) => ?_
  | (with_reducible intro (hb : _ = true)) | (with_reducible intro (hb : _ = false)) | ((with_reducible intro hb); simp only [decide_eq_true_eq, decide_eq_false_iff_not, Bool.not_eq_true', Bool.not_eq_false', Bool.not_eq_true, Bool.not_eq_false, Bool.and_eq_true, Bool.or_eq_true] at hb))
local macro_rules | `(tactic| wtm_at "ty") => `(tactic| first | with_reducible exact TyD.int | with_reducible exact TyD.str | exact TyD.bl | exact TyD.non | exact TyD.tup | exact TyD.lst (by wtm_at "isl") | exact TyD.dK (by wtm_at "isk") | exact TyD.ob (by wtm_at "iso") (by assumption))
local macro_rules | `(tactic| wtm_at "kt") => `(tactic| first | with_reducible exact kt_int_int | with_reducible exact kt_int_bool | with_reducible exact kt_bool_int | with_reducible exact kt_bool_bool | with_reducible exact kt_str_str | with_reducible exact kt_int_str | with_reducible exact kt_str_int | with_reducible exact kt_tuple_tuple | with_reducible exact kt_nonetype_tuple | with_reducible exact kt_list_tuple | with_reducible exact kt_dict_dict | with_reducible exact kt_list_list | with_reducible exact kt_tuple_list | with_reducible exact kt_dict_list | with_reducible exact kt_list_dict | with_reducible exact kt_nonetype_list | with_reducible exact kt_nonetype_dict | with_reducible exact kt_tuple_dict | with_reducible exact kt_str_tuple | with_reducible exact kt_str_list | with_reducible exact kt_str_dict | with_reducible exact kt_int_tuple | with_reducible exact kt_int_list | with_reducible exact kt_int_dict | with_reducible exact kt_dict_tuple | with_reducible exact kt_str_bool | with_reducible exact kt_nonetype_int | with_reducible exact kt_nonetype_str | with_reducible exact kt_nonetype_bool | with_reducible exact kt_tuple_int | with_reducible exact kt_tuple_str | with_reducible exact kt_tuple_bool | with_reducible exact kt_list_int | with_reducible exact kt_list_str | with_reducible exact kt_list_bool | with_reducible exact kt_dict_int | with_reducible exact kt_dict_str | with_reducible exact kt_dict_bool | with_reducible exact kt_bool_str | with_reducible exact kt_bool_tuple | with_reducible exact kt_bool_list | with_reducible exact kt_bool_dict)
local macro_rules | `(tactic| wtm_at "cv") => `(tactic| ((with_reducible show TL.CallV _ _ _ _ _ _); first
  | ((with_reducible apply cv_isTy); (focus wtm_at "ty"); (focus wtm_at "kt"))
  | ((with_reducible apply cv_isCl); (focus wtm_at "ty"); (focus assumption))
  | ((with_reducible apply cv_lenQ); (focus wtm_at "isq"))
  | ((with_reducible apply cv_lenK); (focus wtm_at "isk"))
  | ((with_reducible apply cv_all); (focus rfl); (focus wtm_at "isl"); (focus exact all_bl _ _); rw [all_boolD])
  | ((with_reducible apply cv_any); (focus rfl); (focus wtm_at "isl"); (focus exact all_bl _ _); rw [any_boolD])
  | ((with_reducible apply cv_max2); (focus rfl))
  | ((with_reducible apply cv_min2); (focus rfl))
  | (with_reducible apply cv_intI)
  | (with_reducible apply cv_tupT)
  | ((with_reducible apply cv_dcopy); (focus wtm_at "isk"))
  | ((with_reducible apply cv_tupL); (focus wtm_at "isl"))))
local macro_rules | `(tactic| wtm_at "bg") => `(tactic| (simp only [slotsOf, List.map_cons, List.map_nil, List.length_cons, List.length_nil, List.cons_append, List.nil_append, List.replicate, Nat.reduceAdd, Nat.reduceSub]; wtm_at "rw"))
local macro_rules | `(tactic| wtm_at "tst") => `(tactic| ((with_reducible first | show TL.Tst _ _ _ _ _ | show TL.TstW _ _ _ _ _); first
  | refine tst_not ?_ | refine tst_cmp ?_ | refine tst_chain2 ?_ | refine tst_bool ?_ | refine tw_and ?_ | refine tw_or ?_ | refine tw_and1 ?_ | refine tw_or1 ?_ | refine tst_val ?_))
local macro_rules | `(tactic| wtm_at "st") => `(tactic| ((with_reducible show TL.Run _ _ _ _ _); first
  | refine run_ret0 ?_ | refine run_retN0 ?_ | refine run_nil ?_ | refine run_if ?_ | refine run_pass ?_ | refine run_break ?_ | refine run_cont ?_
  | refine run_raiseD (by assumption) rfl (by wtm_at "gl") ?_
  | refine run_raiseLD (by assumption) rfl (Nat.le_of_ble_eq_true rfl) (by wtm_at "gl") ?_
  | refine run_set (by wtm_at "loc") (by wtm_at "mem") ?_
  | refine run_expr ?_
  | refine run_aug (by wtm_at "loc") (by wtm_at "lk") ?_))
local macro_rules | `(tactic| wtm_at "s2") => `(tactic| ((with_reducible show TL.Run _ _ _ _ _); first
  | refine run_nil ?_ | refine run_if ?_ | refine run_pass ?_ | refine run_break ?_ | refine run_cont ?_
  | refine run_raiseD (by assumption) rfl (by wtm_at "gl") ?_
  | refine run_raiseLD (by assumption) rfl (Nat.le_of_ble_eq_true rfl) (by wtm_at "gl") ?_
  | refine run_set (by wtm_at "loc") (by wtm_at "mem") ?_
  | refine run_expr ?_
  | refine run_aug (by wtm_at "loc") (by wtm_at "lk") ?_))
local macro_rules | `(tactic| wtm_at "go") => `(tactic| (repeat' (first | with_reducible assumption | wtm_at "ev" | wtm_at "o2" | wtm_at "cv" | wtm_at "st" | wtm_at "tst" | wtm_at "op" | fail); all_goals (try assumption)))
local macro_rules | `(tactic| wtm_at "gk") => `(tactic| (repeat' (first | with_reducible assumption | refine run_ret ?_ | refine run_retN ?_ | wtm_at "ev" | wtm_at "o2" | wtm_at "cv" | wtm_at "st" | wtm_at "tst" | wtm_at "op" | fail); all_goals (try assumption)))
local macro_rules | `(tactic| wtm_at "wz") => `(tactic| simp only [wipeG, List.set_cons_zero, List.set_cons_succ, List.map_cons, List.map_nil])
local macro_rules | `(tactic| wtm_at "gn") => `(tactic| (repeat' (first | with_reducible assumption | wtm_at "ev" | wtm_at "o2" | wtm_at "cv" | wtm_at "s2" | wtm_at "tst" | wtm_at "op" | fail); all_goals (try assumption)))
local macro_rules | `(tactic| wtm_at "ln") => `(tactic| first | (with_reducible assumption) | ((with_reducible show TL.Len _ (Str.ofString _)); exact len_lit) | ((with_reducible show TL.Len _ (_ ++ _)); apply len_app <;> wtm_at "ln"))
local macro_rules | `(tactic| wtm_at "lw") => `(tactic| (repeat' (first | with_reducible assumption | ((with_reducible show _ ≤ sizeLine); exact Nat.le_of_ble_eq_true rfl) | refine ev_lstF ?_ | refine ev_dnewF ?_ | refine evp_n ?_ | refine evp_i ?_ | refine evp_s ?_ | ((with_reducible show TL.Op2 _ _ _ (PySem.binaryOp .Add) (TL.D.str _) (TL.D.str _) _); refine op_addL (by wtm_at "ln") (by wtm_at "ln") (by decide +kernel) ?_) | wtm_at "ev" | wtm_at "o2" | wtm_at "cv" | wtm_at "s2" | wtm_at "tst" | wtm_at "op" | fail); all_goals (try assumption)))
local macro_rules | `(tactic| wtm_at "ea") => `(tactic| repeat' (first | wtm_at "ev" | wtm_at "cv" | ((with_reducible apply TL.fld_of); (focus wtm_at "iso"); (focus rfl)) | ((with_reducible apply TL.mth_of); (focus wtm_at "iso"); (focus rfl)) | fail))
local macro_rules | `(tactic| wtm_at "s3") => `(tactic| ((with_reducible show TL.Run _ _ _ _ _); first
  | refine run_if ?_ | refine run_pass ?_ | refine run_break ?_ | refine run_cont ?_
  | refine run_raiseD (by assumption) rfl (by wtm_at "gl") ?_
  | refine run_raiseLD (by assumption) rfl (Nat.le_of_ble_eq_true rfl) (by wtm_at "gl") ?_
  | refine run_set (by wtm_at "loc") (by wtm_at "mem") ?_
  | refine run_expr ?_
  | refine run_aug (by wtm_at "loc") (by wtm_at "lk") ?_))
local macro_rules | `(tactic| wtm_at "gm") => `(tactic| (repeat' (first | with_reducible assumption | wtm_at "ev" | wtm_at "o2" | wtm_at "cv" | wtm_at "s3" | wtm_at "tst" | wtm_at "op" | fail); all_goals (try assumption)))
local macro_rules | `(tactic| wtm_at "mw") => `(tactic| repeat' (first | refine ev_dlit1 ?_ | refine ev_dlit2 ?_ | refine ev_dnewF ?_ | refine ⟨Nat.le_of_ble_eq_true rfl, ?_⟩ | wtm_at "ev" | wtm_at "cv" | fail))
local macro_rules | `(tactic| wtm_at "rw") => `(tactic| first | (with_reducible refine run_withB Rk10.db__wall Rk10.vl__wall Rk10.hb__wall fun _ _ => ?_) | (with_reducible refine run_withB Rk10.db_is_whole Rk10.vl_is_whole Rk10.hb_is_whole fun _ _ => ?_) | (with_reducible refine run_withB Rk10.db_is_text Rk10.vl_is_text Rk10.hb_is_text fun _ _ => ?_) | (with_reducible refine run_withB Rk10.db_is_letter Rk10.vl_is_letter Rk10.hb_is_letter fun _ _ => ?_) | (with_reducible refine run_withB Rk10.db_is_row Rk10.vl_is_row Rk10.hb_is_row fun _ _ => ?_) | (with_reducible refine run_withB Rk10.db_is_machine Rk10.vl_is_machine Rk10.hb_is_machine fun _ _ => ?_) | (with_reducible refine run_withB Rk10.db_Reader_init Rk10.vl_Reader_init Rk10.hb_Reader_init fun _ _ => ?_) | (with_reducible refine run_withB Rk10.db_Reader_behind Rk10.vl_Reader_behind Rk10.hb_Reader_behind fun _ _ => ?_) | (with_reducible refine run_withB Rk10.db_Machine_init Rk10.vl_Machine_init Rk10.hb_Machine_init fun _ _ => ?_) | (with_reducible refine run_withB Rk10.db_Machine_rows Rk10.vl_Machine_rows Rk10.hb_Machine_rows fun _ _ => ?_) | (with_reducible refine run_withB Rk10.db_Machine_ends Rk10.vl_Machine_ends Rk10.hb_Machine_ends fun _ _ => ?_) | (with_reducible refine run_withB Rk10.db_Machine_has Rk10.vl_Machine_has Rk10.hb_Machine_has fun _ _ => ?_) | (with_reducible refine run_withB Rk10.db_Machine_needed Rk10.vl_Machine_needed Rk10.hb_Machine_needed fun _ _ => ?_) | (with_reducible refine run_withB Rk10.db_Machine_least Rk10.vl_Machine_least Rk10.hb_Machine_least fun _ _ => ?_) | (with_reducible refine run_withB Rk10.db_Machine_and Rk10.vl_Machine_and Rk10.hb_Machine_and fun _ _ => ?_) | (with_reducible refine run_withB Rk10.db_Machine_or Rk10.vl_Machine_or Rk10.hb_Machine_or fun _ _ => ?_) | (with_reducible refine run_withB Rk10.db_Machine_sub Rk10.vl_Machine_sub Rk10.hb_Machine_sub fun _ _ => ?_) | (with_reducible refine run_withB Rk10.db_Machine_is_in Rk10.vl_Machine_is_in Rk10.hb_Machine_is_in fun _ _ => ?_) | (with_reducible refine run_withB Rk10.db_Machine_eq Rk10.vl_Machine_eq Rk10.hb_Machine_eq fun _ _ => ?_) | (with_reducible refine run_withB Rk10.db_Machine_plain Rk10.vl_Machine_plain Rk10.hb_Machine_plain fun _ _ => ?_) | (with_reducible refine run_withB Rk10.db_row_behind Rk10.vl_row_behind Rk10.hb_row_behind fun _ _ => ?_) | (with_reducible refine run_withB Rk10.db_ways_of Rk10.vl_ways_of Rk10.hb_ways_of fun _ _ => ?_) | (with_reducible refine run_withB Rk10.db_leading_rows Rk10.vl_leading_rows Rk10.hb_leading_rows fun _ _ => ?_) | (with_reducible refine run_withB Rk10.db_needed_rows Rk10.vl_needed_rows Rk10.hb_needed_rows fun _ _ => ?_) | (with_reducible refine run_withB Rk10.db_least_text Rk10.vl_least_text Rk10.hb_least_text fun _ _ => ?_) | (with_reducible refine run_withB Rk10.db_is_end Rk10.vl_is_end Rk10.hb_is_end fun _ _ => ?_) | (with_reducible refine run_withB Rk10.db_is_wished Rk10.vl_is_wished Rk10.hb_is_wished fun _ _ => ?_) | (with_reducible refine run_withB Rk10.db_woven Rk10.vl_woven Rk10.hb_woven fun _ _ => ?_) | (with_reducible refine run_withB Rk10.db_Prices_init Rk10.vl_Prices_init Rk10.hb_Prices_init fun _ _ => ?_) | (with_reducible refine run_withB Rk10.db_Prices_eq Rk10.vl_Prices_eq Rk10.hb_Prices_eq fun _ _ => ?_) | (with_reducible refine run_withB Rk10.db_put_ways Rk10.vl_put_ways Rk10.hb_put_ways fun _ _ => ?_) | (with_reducible refine run_withB Rk10.db_Costs_init Rk10.vl_Costs_init Rk10.hb_Costs_init fun _ _ => ?_) | (with_reducible refine run_withB Rk10.db_Costs_first Rk10.vl_Costs_first Rk10.hb_Costs_first fun _ _ => ?_) | (with_reducible refine run_withB Rk10.db_Costs_put_cost Rk10.vl_Costs_put_cost Rk10.hb_Costs_put_cost fun _ _ => ?_) | (with_reducible refine run_withB Rk10.db_Costs_moves Rk10.vl_Costs_moves Rk10.hb_Costs_moves fun _ _ => ?_) | (with_reducible refine run_withB Rk10.db_Costs_behind Rk10.vl_Costs_behind Rk10.hb_Costs_behind fun _ _ => ?_) | (with_reducible refine run_withB Rk10.db_Costs_least_to Rk10.vl_Costs_least_to Rk10.hb_Costs_least_to fun _ _ => ?_) | (with_reducible refine run_withB Rk10.db_Costs_least_end Rk10.vl_Costs_least_end Rk10.hb_Costs_least_end fun _ _ => ?_) | (with_reducible refine run_withB Rk10.db_need_second Rk10.vl_need_second Rk10.hb_need_second fun _ _ => ?_) | (with_reducible refine run_withB Rk10.db_Game_init Rk10.vl_Game_init Rk10.hb_Game_init fun _ _ => ?_) | (with_reducible refine run_withB Rk10.db_Game_end_cost Rk10.vl_Game_end_cost Rk10.hb_Game_end_cost fun _ _ => ?_) | (with_reducible refine run_withB Rk10.db_Game_answers Rk10.vl_Game_answers Rk10.hb_Game_answers fun _ _ => ?_) | (with_reducible refine run_withB Rk10.db_Game_need Rk10.vl_Game_need Rk10.hb_Game_need fun _ _ => ?_) | (with_reducible refine run_withB Rk10.db_Game_best Rk10.vl_Game_best Rk10.hb_Game_best fun _ _ => ?_) | (with_reducible refine run_withB Rk10.db_Game_greatest_price Rk10.vl_Game_greatest_price Rk10.hb_Game_greatest_price fun _ _ => ?_) | (with_reducible refine run_withB Rk10.db_solved Rk10.vl_solved Rk10.hb_solved fun _ _ => ?_) | (with_reducible refine run_withB Rk10.db_by_letters Rk10.vl_by_letters Rk10.hb_by_letters fun _ _ => ?_) | (with_reducible refine run_withB Rk10.db__law_begin Rk10.vl__law_begin Rk10.hb__law_begin fun _ _ => ?_) | (with_reducible refine run_withB Rk10.db__law_draw Rk10.vl__law_draw Rk10.hb__law_draw fun _ _ => ?_) | (with_reducible refine run_withB Rk10.db__law_line Rk10.vl__law_line Rk10.hb__law_line fun _ _ => ?_) | (with_reducible refine run_withB Rk10.db__law_upto Rk10.vl__law_upto Rk10.hb__law_upto fun _ _ => ?_) | (with_reducible refine run_withB Rk10.db_law Rk10.vl_law Rk10.hb_law fun _ _ => ?_) | skip)
namespace Rk10
def top (i : Nat) : Stmt := PySem.Challenge.pw_repairscost_k10_whole_known_machines.main.body.getD i (.Pass ⟨0, 0, 0, 0⟩)
abbrev s__wall : Stmt := top 0
theorem db__wall : dbOk ["k"] = true := by kernel_rfl
theorem vl__wall : visL (defScope s__wall) ["k"] = true := by kernel_rfl
def _wall_s_0a_0 : Stmt := pL (pA (pL (defBody s__wall) 0)) 0
def _wall_q_0a_1 : List Stmt := []
def _wall_q_0a_0 : List Stmt := _wall_s_0a_0 :: _wall_q_0a_1
def _wall_c_0 : Expr := pC (pL (defBody s__wall) 0)
def _wall_s_0 : Stmt := .While _wall_c_0 _wall_q_0a_0 [] (pP (pL (defBody s__wall) 0))
def _wall_q_1 : List Stmt := []
def _wall_q_0 : List Stmt := _wall_s_0 :: _wall_q_1
theorem hb__wall : defBody s__wall = _wall_q_0 := by kernel_rfl
theorem sc__wall : FnScope ["k"] ["k"] (defScope s__wall) := ⟨rfl, rfl, rfl, by decide +kernel, rfl, by decide +kernel, by decide +kernel⟩
abbrev s_is_whole : Stmt := top 10
theorem db_is_whole : dbOk ["thing", "least", "most"] = true := by kernel_rfl
theorem vl_is_whole : visL (defScope s_is_whole) ["thing", "least", "most"] = true := by kernel_rfl
def is_whole_s_0 : Stmt := pL (defBody s_is_whole) 0
def is_whole_q_1 : List Stmt := []
def is_whole_q_0 : List Stmt := is_whole_s_0 :: is_whole_q_1
theorem hb_is_whole : defBody s_is_whole = is_whole_q_0 := by kernel_rfl
theorem sc_is_whole : FnScope ["thing", "least", "most"] ["thing", "least", "most"] (defScope s_is_whole) := ⟨rfl, rfl, rfl, by decide +kernel, rfl, by decide +kernel, by decide +kernel⟩
abbrev s_is_text : Stmt := top 11
theorem db_is_text : dbOk ["thing", "letter"] = true := by kernel_rfl
theorem vl_is_text : visL (defScope s_is_text) ["thing"] = true := by kernel_rfl
def is_text_s_0 : Stmt := pL (defBody s_is_text) 0
def is_text_q_1 : List Stmt := []
def is_text_q_0 : List Stmt := is_text_s_0 :: is_text_q_1
theorem hb_is_text : defBody s_is_text = is_text_q_0 := by kernel_rfl
theorem sc_is_text : FnScope ["thing", "letter"] ["thing"] (defScope s_is_text) := ⟨rfl, rfl, rfl, by decide +kernel, rfl, by decide +kernel, by decide +kernel⟩
abbrev s_is_letter : Stmt := top 12
theorem db_is_letter : dbOk ["thing"] = true := by kernel_rfl
theorem vl_is_letter : visL (defScope s_is_letter) ["thing"] = true := by kernel_rfl
def is_letter_s_0 : Stmt := pL (defBody s_is_letter) 0
def is_letter_q_1 : List Stmt := []
def is_letter_q_0 : List Stmt := is_letter_s_0 :: is_letter_q_1
theorem hb_is_letter : defBody s_is_letter = is_letter_q_0 := by kernel_rfl
theorem sc_is_letter : FnScope ["thing"] ["thing"] (defScope s_is_letter) := ⟨rfl, rfl, rfl, by decide +kernel, rfl, by decide +kernel, by decide +kernel⟩
abbrev s_is_row : Stmt := top 13
theorem db_is_row : dbOk ["thing", "many", "letter"] = true := by kernel_rfl
theorem vl_is_row : visL (defScope s_is_row) ["thing", "many"] = true := by kernel_rfl
def is_row_s_0a_0 : Stmt := pL (pA (pL (defBody s_is_row) 0)) 0
def is_row_q_0a_1 : List Stmt := []
def is_row_q_0a_0 : List Stmt := is_row_s_0a_0 :: is_row_q_0a_1
def is_row_q_0b_0 : List Stmt := []
def is_row_c_0 : Expr := pC (pL (defBody s_is_row) 0)
def is_row_s_0 : Stmt := .If is_row_c_0 is_row_q_0a_0 is_row_q_0b_0 (pP (pL (defBody s_is_row) 0))
def is_row_s_1 : Stmt := pL (defBody s_is_row) 1
def is_row_q_2 : List Stmt := []
def is_row_q_1 : List Stmt := is_row_s_1 :: is_row_q_2
def is_row_q_0 : List Stmt := is_row_s_0 :: is_row_q_1
theorem hb_is_row : defBody s_is_row = is_row_q_0 := by kernel_rfl
theorem sc_is_row : FnScope ["thing", "many", "letter"] ["thing", "many"] (defScope s_is_row) := ⟨rfl, rfl, rfl, by decide +kernel, rfl, by decide +kernel, by decide +kernel⟩
abbrev s_is_machine : Stmt := top 14
theorem db_is_machine : dbOk ["rows", "ends", "row", "end", "one", "other"] = true := by kernel_rfl
theorem vl_is_machine : visL (defScope s_is_machine) ["rows", "ends"] = true := by kernel_rfl
def is_machine_s_0a_0 : Stmt := pL (pA (pL (defBody s_is_machine) 0)) 0
def is_machine_q_0a_1 : List Stmt := []
def is_machine_q_0a_0 : List Stmt := is_machine_s_0a_0 :: is_machine_q_0a_1
def is_machine_q_0b_0 : List Stmt := []
def is_machine_c_0 : Expr := pC (pL (defBody s_is_machine) 0)
def is_machine_s_0 : Stmt := .If is_machine_c_0 is_machine_q_0a_0 is_machine_q_0b_0 (pP (pL (defBody s_is_machine) 0))
def is_machine_s_1a_0 : Stmt := pL (pA (pL (defBody s_is_machine) 1)) 0
def is_machine_q_1a_1 : List Stmt := []
def is_machine_q_1a_0 : List Stmt := is_machine_s_1a_0 :: is_machine_q_1a_1
def is_machine_q_1b_0 : List Stmt := []
def is_machine_c_1 : Expr := pC (pL (defBody s_is_machine) 1)
def is_machine_s_1 : Stmt := .If is_machine_c_1 is_machine_q_1a_0 is_machine_q_1b_0 (pP (pL (defBody s_is_machine) 1))
def is_machine_s_2 : Stmt := pL (defBody s_is_machine) 2
def is_machine_q_3 : List Stmt := []
def is_machine_q_2 : List Stmt := is_machine_s_2 :: is_machine_q_3
def is_machine_q_1 : List Stmt := is_machine_s_1 :: is_machine_q_2
def is_machine_q_0 : List Stmt := is_machine_s_0 :: is_machine_q_1
theorem hb_is_machine : defBody s_is_machine = is_machine_q_0 := by kernel_rfl
theorem sc_is_machine : FnScope ["rows", "ends", "row", "end", "one", "other"] ["rows", "ends"] (defScope s_is_machine) := ⟨rfl, rfl, rfl, by decide +kernel, rfl, by decide +kernel, by decide +kernel⟩
abbrev s_Reader_init : Stmt := inClass (top 15) 0
theorem db_Reader_init : dbOk ["self", "rows", "ends", "letter", "row"] = true := by kernel_rfl
theorem vl_Reader_init : visL (defScope s_Reader_init) ["self", "rows", "ends"] = true := by kernel_rfl
def Reader_init_s_0 : Stmt := pL (defBody s_Reader_init) 0
def Reader_init_s_1 : Stmt := pL (defBody s_Reader_init) 1
def Reader_init_q_2 : List Stmt := []
def Reader_init_q_1 : List Stmt := Reader_init_s_1 :: Reader_init_q_2
def Reader_init_q_0 : List Stmt := Reader_init_s_0 :: Reader_init_q_1
theorem hb_Reader_init : defBody s_Reader_init = Reader_init_q_0 := by kernel_rfl
theorem sc_Reader_init : FnScope ["self", "rows", "ends", "letter", "row"] ["self", "rows", "ends"] (defScope s_Reader_init) := ⟨rfl, rfl, rfl, by decide +kernel, rfl, by decide +kernel, by decide +kernel⟩
abbrev s_Reader_behind : Stmt := inClass (top 15) 1
theorem db_Reader_behind : dbOk ["self", "row", "letter"] = true := by kernel_rfl
theorem vl_Reader_behind : visL (defScope s_Reader_behind) ["self", "row", "letter"] = true := by kernel_rfl
def Reader_behind_s_0 : Stmt := pL (defBody s_Reader_behind) 0
def Reader_behind_q_1 : List Stmt := []
def Reader_behind_q_0 : List Stmt := Reader_behind_s_0 :: Reader_behind_q_1
theorem hb_Reader_behind : defBody s_Reader_behind = Reader_behind_q_0 := by kernel_rfl
theorem sc_Reader_behind : FnScope ["self", "row", "letter"] ["self", "row", "letter"] (defScope s_Reader_behind) := ⟨rfl, rfl, rfl, by decide +kernel, rfl, by decide +kernel, by decide +kernel⟩
abbrev s_Machine_init : Stmt := inClass (top 16) 0
theorem db_Machine_init : dbOk ["self", "rows", "ends"] = true := by kernel_rfl
theorem vl_Machine_init : visL (defScope s_Machine_init) ["self", "rows", "ends"] = true := by kernel_rfl
def Machine_init_s_0a_0 : Stmt := pL (pA (pL (defBody s_Machine_init) 0)) 0
def Machine_init_s_0a_1 : Stmt := pL (pA (pL (defBody s_Machine_init) 0)) 1
def Machine_init_q_0a_2 : List Stmt := []
def Machine_init_q_0a_1 : List Stmt := Machine_init_s_0a_1 :: Machine_init_q_0a_2
def Machine_init_q_0a_0 : List Stmt := Machine_init_s_0a_0 :: Machine_init_q_0a_1
def Machine_init_q_0b_0 : List Stmt := []
def Machine_init_c_0 : Expr := pC (pL (defBody s_Machine_init) 0)
def Machine_init_s_0 : Stmt := .If Machine_init_c_0 Machine_init_q_0a_0 Machine_init_q_0b_0 (pP (pL (defBody s_Machine_init) 0))
def Machine_init_s_1a_0 : Stmt := pL (pA (pL (defBody s_Machine_init) 1)) 0
def Machine_init_q_1a_1 : List Stmt := []
def Machine_init_q_1a_0 : List Stmt := Machine_init_s_1a_0 :: Machine_init_q_1a_1
def Machine_init_q_1b_0 : List Stmt := []
def Machine_init_c_1 : Expr := pC (pL (defBody s_Machine_init) 1)
def Machine_init_s_1 : Stmt := .If Machine_init_c_1 Machine_init_q_1a_0 Machine_init_q_1b_0 (pP (pL (defBody s_Machine_init) 1))
def Machine_init_s_2 : Stmt := pL (defBody s_Machine_init) 2
def Machine_init_q_3 : List Stmt := []
def Machine_init_q_2 : List Stmt := Machine_init_s_2 :: Machine_init_q_3
def Machine_init_q_1 : List Stmt := Machine_init_s_1 :: Machine_init_q_2
def Machine_init_q_0 : List Stmt := Machine_init_s_0 :: Machine_init_q_1
theorem hb_Machine_init : defBody s_Machine_init = Machine_init_q_0 := by kernel_rfl
theorem sc_Machine_init : FnScope ["self", "rows", "ends"] ["self", "rows", "ends"] (defScope s_Machine_init) := ⟨rfl, rfl, rfl, by decide +kernel, rfl, by decide +kernel, by decide +kernel⟩
abbrev s_Machine_rows : Stmt := inClass (top 16) 1
theorem db_Machine_rows : dbOk ["self", "row"] = true := by kernel_rfl
theorem vl_Machine_rows : visL (defScope s_Machine_rows) ["self"] = true := by kernel_rfl
def Machine_rows_s_0 : Stmt := pL (defBody s_Machine_rows) 0
def Machine_rows_q_1 : List Stmt := []
def Machine_rows_q_0 : List Stmt := Machine_rows_s_0 :: Machine_rows_q_1
theorem hb_Machine_rows : defBody s_Machine_rows = Machine_rows_q_0 := by kernel_rfl
theorem sc_Machine_rows : FnScope ["self", "row"] ["self"] (defScope s_Machine_rows) := ⟨rfl, rfl, rfl, by decide +kernel, rfl, by decide +kernel, by decide +kernel⟩
abbrev s_Machine_ends : Stmt := inClass (top 16) 2
theorem db_Machine_ends : dbOk ["self"] = true := by kernel_rfl
theorem vl_Machine_ends : visL (defScope s_Machine_ends) ["self"] = true := by kernel_rfl
def Machine_ends_s_0 : Stmt := pL (defBody s_Machine_ends) 0
def Machine_ends_q_1 : List Stmt := []
def Machine_ends_q_0 : List Stmt := Machine_ends_s_0 :: Machine_ends_q_1
theorem hb_Machine_ends : defBody s_Machine_ends = Machine_ends_q_0 := by kernel_rfl
theorem sc_Machine_ends : FnScope ["self"] ["self"] (defScope s_Machine_ends) := ⟨rfl, rfl, rfl, by decide +kernel, rfl, by decide +kernel, by decide +kernel⟩
abbrev s_Machine_has : Stmt := inClass (top 16) 3
theorem db_Machine_has : dbOk ["self", "text"] = true := by kernel_rfl
theorem vl_Machine_has : visL (defScope s_Machine_has) ["self", "text"] = true := by kernel_rfl
def Machine_has_s_0a_0 : Stmt := pL (pA (pL (defBody s_Machine_has) 0)) 0
def Machine_has_q_0a_1 : List Stmt := []
def Machine_has_q_0a_0 : List Stmt := Machine_has_s_0a_0 :: Machine_has_q_0a_1
def Machine_has_q_0b_0 : List Stmt := []
def Machine_has_c_0 : Expr := pC (pL (defBody s_Machine_has) 0)
def Machine_has_s_0 : Stmt := .If Machine_has_c_0 Machine_has_q_0a_0 Machine_has_q_0b_0 (pP (pL (defBody s_Machine_has) 0))
def Machine_has_s_1 : Stmt := pL (defBody s_Machine_has) 1
def Machine_has_q_2 : List Stmt := []
def Machine_has_q_1 : List Stmt := Machine_has_s_1 :: Machine_has_q_2
def Machine_has_q_0 : List Stmt := Machine_has_s_0 :: Machine_has_q_1
theorem hb_Machine_has : defBody s_Machine_has = Machine_has_q_0 := by kernel_rfl
theorem sc_Machine_has : FnScope ["self", "text"] ["self", "text"] (defScope s_Machine_has) := ⟨rfl, rfl, rfl, by decide +kernel, rfl, by decide +kernel, by decide +kernel⟩
abbrev s_Machine_needed : Stmt := inClass (top 16) 4
theorem db_Machine_needed : dbOk ["self"] = true := by kernel_rfl
theorem vl_Machine_needed : visL (defScope s_Machine_needed) ["self"] = true := by kernel_rfl
def Machine_needed_s_0 : Stmt := pL (defBody s_Machine_needed) 0
def Machine_needed_q_1 : List Stmt := []
def Machine_needed_q_0 : List Stmt := Machine_needed_s_0 :: Machine_needed_q_1
theorem hb_Machine_needed : defBody s_Machine_needed = Machine_needed_q_0 := by kernel_rfl
theorem sc_Machine_needed : FnScope ["self"] ["self"] (defScope s_Machine_needed) := ⟨rfl, rfl, rfl, by decide +kernel, rfl, by decide +kernel, by decide +kernel⟩
abbrev s_Machine_least : Stmt := inClass (top 16) 5
theorem db_Machine_least : dbOk ["self", "found"] = true := by kernel_rfl
theorem vl_Machine_least : visL (defScope s_Machine_least) ["self", "found"] = true := by kernel_rfl
def Machine_least_s_0 : Stmt := pL (defBody s_Machine_least) 0
def Machine_least_s_1a_0 : Stmt := pL (pA (pL (defBody s_Machine_least) 1)) 0
def Machine_least_q_1a_1 : List Stmt := []
def Machine_least_q_1a_0 : List Stmt := Machine_least_s_1a_0 :: Machine_least_q_1a_1
def Machine_least_q_1b_0 : List Stmt := []
def Machine_least_c_1 : Expr := pC (pL (defBody s_Machine_least) 1)
def Machine_least_s_1 : Stmt := .If Machine_least_c_1 Machine_least_q_1a_0 Machine_least_q_1b_0 (pP (pL (defBody s_Machine_least) 1))
def Machine_least_s_2 : Stmt := pL (defBody s_Machine_least) 2
def Machine_least_q_3 : List Stmt := []
def Machine_least_q_2 : List Stmt := Machine_least_s_2 :: Machine_least_q_3
def Machine_least_q_1 : List Stmt := Machine_least_s_1 :: Machine_least_q_2
def Machine_least_q_0 : List Stmt := Machine_least_s_0 :: Machine_least_q_1
theorem hb_Machine_least : defBody s_Machine_least = Machine_least_q_0 := by kernel_rfl
theorem sc_Machine_least : FnScope ["self", "found"] ["self"] (defScope s_Machine_least) := ⟨rfl, rfl, rfl, by decide +kernel, rfl, by decide +kernel, by decide +kernel⟩
abbrev s_Machine_and : Stmt := inClass (top 16) 6
theorem db_Machine_and : dbOk ["self", "other"] = true := by kernel_rfl
theorem vl_Machine_and : visL (defScope s_Machine_and) ["self", "other"] = true := by kernel_rfl
def Machine_and_s_0 : Stmt := pL (defBody s_Machine_and) 0
def Machine_and_q_1 : List Stmt := []
def Machine_and_q_0 : List Stmt := Machine_and_s_0 :: Machine_and_q_1
theorem hb_Machine_and : defBody s_Machine_and = Machine_and_q_0 := by kernel_rfl
theorem sc_Machine_and : FnScope ["self", "other"] ["self", "other"] (defScope s_Machine_and) := ⟨rfl, rfl, rfl, by decide +kernel, rfl, by decide +kernel, by decide +kernel⟩
abbrev s_Machine_or : Stmt := inClass (top 16) 7
theorem db_Machine_or : dbOk ["self", "other"] = true := by kernel_rfl
theorem vl_Machine_or : visL (defScope s_Machine_or) ["self", "other"] = true := by kernel_rfl
def Machine_or_s_0 : Stmt := pL (defBody s_Machine_or) 0
def Machine_or_q_1 : List Stmt := []
def Machine_or_q_0 : List Stmt := Machine_or_s_0 :: Machine_or_q_1
theorem hb_Machine_or : defBody s_Machine_or = Machine_or_q_0 := by kernel_rfl
theorem sc_Machine_or : FnScope ["self", "other"] ["self", "other"] (defScope s_Machine_or) := ⟨rfl, rfl, rfl, by decide +kernel, rfl, by decide +kernel, by decide +kernel⟩
abbrev s_Machine_sub : Stmt := inClass (top 16) 8
theorem db_Machine_sub : dbOk ["self", "other"] = true := by kernel_rfl
theorem vl_Machine_sub : visL (defScope s_Machine_sub) ["self", "other"] = true := by kernel_rfl
def Machine_sub_s_0 : Stmt := pL (defBody s_Machine_sub) 0
def Machine_sub_q_1 : List Stmt := []
def Machine_sub_q_0 : List Stmt := Machine_sub_s_0 :: Machine_sub_q_1
theorem hb_Machine_sub : defBody s_Machine_sub = Machine_sub_q_0 := by kernel_rfl
theorem sc_Machine_sub : FnScope ["self", "other"] ["self", "other"] (defScope s_Machine_sub) := ⟨rfl, rfl, rfl, by decide +kernel, rfl, by decide +kernel, by decide +kernel⟩
abbrev s_Machine_is_in : Stmt := inClass (top 16) 9
theorem db_Machine_is_in : dbOk ["self", "other"] = true := by kernel_rfl
theorem vl_Machine_is_in : visL (defScope s_Machine_is_in) ["self", "other"] = true := by kernel_rfl
def Machine_is_in_s_0 : Stmt := pL (defBody s_Machine_is_in) 0
def Machine_is_in_q_1 : List Stmt := []
def Machine_is_in_q_0 : List Stmt := Machine_is_in_s_0 :: Machine_is_in_q_1
theorem hb_Machine_is_in : defBody s_Machine_is_in = Machine_is_in_q_0 := by kernel_rfl
theorem sc_Machine_is_in : FnScope ["self", "other"] ["self", "other"] (defScope s_Machine_is_in) := ⟨rfl, rfl, rfl, by decide +kernel, rfl, by decide +kernel, by decide +kernel⟩
abbrev s_Machine_eq : Stmt := inClass (top 16) 10
theorem db_Machine_eq : dbOk ["self", "other", "one"] = true := by kernel_rfl
theorem vl_Machine_eq : visL (defScope s_Machine_eq) ["self", "other", "one"] = true := by kernel_rfl
def Machine_eq_s_0a_0 : Stmt := pL (pA (pL (defBody s_Machine_eq) 0)) 0
def Machine_eq_q_0a_1 : List Stmt := []
def Machine_eq_q_0a_0 : List Stmt := Machine_eq_s_0a_0 :: Machine_eq_q_0a_1
def Machine_eq_q_0b_0 : List Stmt := []
def Machine_eq_c_0 : Expr := pC (pL (defBody s_Machine_eq) 0)
def Machine_eq_s_0 : Stmt := .If Machine_eq_c_0 Machine_eq_q_0a_0 Machine_eq_q_0b_0 (pP (pL (defBody s_Machine_eq) 0))
def Machine_eq_s_1 : Stmt := pL (defBody s_Machine_eq) 1
def Machine_eq_s_2 : Stmt := pL (defBody s_Machine_eq) 2
def Machine_eq_q_3 : List Stmt := []
def Machine_eq_q_2 : List Stmt := Machine_eq_s_2 :: Machine_eq_q_3
def Machine_eq_q_1 : List Stmt := Machine_eq_s_1 :: Machine_eq_q_2
def Machine_eq_q_0 : List Stmt := Machine_eq_s_0 :: Machine_eq_q_1
theorem hb_Machine_eq : defBody s_Machine_eq = Machine_eq_q_0 := by kernel_rfl
theorem sc_Machine_eq : FnScope ["self", "other", "one"] ["self", "other"] (defScope s_Machine_eq) := ⟨rfl, rfl, rfl, by decide +kernel, rfl, by decide +kernel, by decide +kernel⟩
abbrev s_Machine_plain : Stmt := inClass (top 16) 11
theorem db_Machine_plain : dbOk ["self"] = true := by kernel_rfl
theorem vl_Machine_plain : visL (defScope s_Machine_plain) ["self"] = true := by kernel_rfl
def Machine_plain_s_0 : Stmt := pL (defBody s_Machine_plain) 0
def Machine_plain_q_1 : List Stmt := []
def Machine_plain_q_0 : List Stmt := Machine_plain_s_0 :: Machine_plain_q_1
theorem hb_Machine_plain : defBody s_Machine_plain = Machine_plain_q_0 := by kernel_rfl
theorem sc_Machine_plain : FnScope ["self"] ["self"] (defScope s_Machine_plain) := ⟨rfl, rfl, rfl, by decide +kernel, rfl, by decide +kernel, by decide +kernel⟩
abbrev s_row_behind : Stmt := top 17
theorem db_row_behind : dbOk ["reader", "row", "text", "letter"] = true := by kernel_rfl
theorem vl_row_behind : visL (defScope s_row_behind) ["reader", "row", "text", "letter"] = true := by kernel_rfl
def row_behind_s_0a_0 : Stmt := pL (pA (pL (defBody s_row_behind) 0)) 0
def row_behind_q_0a_1 : List Stmt := []
def row_behind_q_0a_0 : List Stmt := row_behind_s_0a_0 :: row_behind_q_0a_1
def row_behind_t_0 : Expr := pT (pL (defBody s_row_behind) 0)
def row_behind_i_0 : Expr := pI (pL (defBody s_row_behind) 0)
def row_behind_s_0 : Stmt := .For row_behind_t_0 row_behind_i_0 row_behind_q_0a_0 [] (pP (pL (defBody s_row_behind) 0))
def row_behind_s_1 : Stmt := pL (defBody s_row_behind) 1
def row_behind_q_2 : List Stmt := []
def row_behind_q_1 : List Stmt := row_behind_s_1 :: row_behind_q_2
def row_behind_q_0 : List Stmt := row_behind_s_0 :: row_behind_q_1
theorem hb_row_behind : defBody s_row_behind = row_behind_q_0 := by kernel_rfl
theorem sc_row_behind : FnScope ["reader", "row", "text", "letter"] ["reader", "row", "text"] (defScope s_row_behind) := ⟨rfl, rfl, rfl, by decide +kernel, rfl, by decide +kernel, by decide +kernel⟩
abbrev s_ways_of : Stmt := top 18
theorem db_ways_of : dbOk ["reader", "found", "waiting", "at", "row", "letter", "after"] = true := by kernel_rfl
theorem vl_ways_of : visL (defScope s_ways_of) ["reader", "found", "waiting", "at", "row", "letter", "after"] = true := by kernel_rfl
def ways_of_s_0 : Stmt := pL (defBody s_ways_of) 0
def ways_of_s_1 : Stmt := pL (defBody s_ways_of) 1
def ways_of_s_2 : Stmt := pL (defBody s_ways_of) 2
def ways_of_s_3a_0 : Stmt := pL (pA (pL (defBody s_ways_of) 3)) 0
def ways_of_s_3a_1 : Stmt := pL (pA (pL (defBody s_ways_of) 3)) 1
def ways_of_s_3a_2a_0 : Stmt := pL (pA (pL (pA (pL (defBody s_ways_of) 3)) 2)) 0
def ways_of_s_3a_2a_1a_0 : Stmt := pL (pA (pL (pA (pL (pA (pL (defBody s_ways_of) 3)) 2)) 1)) 0
def ways_of_s_3a_2a_1a_1 : Stmt := pL (pA (pL (pA (pL (pA (pL (defBody s_ways_of) 3)) 2)) 1)) 1
def ways_of_q_3a_2a_1a_2 : List Stmt := []
def ways_of_q_3a_2a_1a_1 : List Stmt := ways_of_s_3a_2a_1a_1 :: ways_of_q_3a_2a_1a_2
def ways_of_q_3a_2a_1a_0 : List Stmt := ways_of_s_3a_2a_1a_0 :: ways_of_q_3a_2a_1a_1
def ways_of_q_3a_2a_1b_0 : List Stmt := []
def ways_of_c_3a_2a_1 : Expr := pC (pL (pA (pL (pA (pL (defBody s_ways_of) 3)) 2)) 1)
def ways_of_s_3a_2a_1 : Stmt := .If ways_of_c_3a_2a_1 ways_of_q_3a_2a_1a_0 ways_of_q_3a_2a_1b_0 (pP (pL (pA (pL (pA (pL (defBody s_ways_of) 3)) 2)) 1))
def ways_of_q_3a_2a_2 : List Stmt := []
def ways_of_q_3a_2a_1 : List Stmt := ways_of_s_3a_2a_1 :: ways_of_q_3a_2a_2
def ways_of_q_3a_2a_0 : List Stmt := ways_of_s_3a_2a_0 :: ways_of_q_3a_2a_1
def ways_of_t_3a_2 : Expr := pT (pL (pA (pL (defBody s_ways_of) 3)) 2)
def ways_of_i_3a_2 : Expr := pI (pL (pA (pL (defBody s_ways_of) 3)) 2)
def ways_of_s_3a_2 : Stmt := .For ways_of_t_3a_2 ways_of_i_3a_2 ways_of_q_3a_2a_0 [] (pP (pL (pA (pL (defBody s_ways_of) 3)) 2))
def ways_of_q_3a_3 : List Stmt := []
def ways_of_q_3a_2 : List Stmt := ways_of_s_3a_2 :: ways_of_q_3a_3
def ways_of_q_3a_1 : List Stmt := ways_of_s_3a_1 :: ways_of_q_3a_2
def ways_of_q_3a_0 : List Stmt := ways_of_s_3a_0 :: ways_of_q_3a_1
def ways_of_c_3 : Expr := pC (pL (defBody s_ways_of) 3)
def ways_of_s_3 : Stmt := .While ways_of_c_3 ways_of_q_3a_0 [] (pP (pL (defBody s_ways_of) 3))
def ways_of_s_4 : Stmt := pL (defBody s_ways_of) 4
def ways_of_q_5 : List Stmt := []
def ways_of_q_4 : List Stmt := ways_of_s_4 :: ways_of_q_5
def ways_of_q_3 : List Stmt := ways_of_s_3 :: ways_of_q_4
def ways_of_q_2 : List Stmt := ways_of_s_2 :: ways_of_q_3
def ways_of_q_1 : List Stmt := ways_of_s_1 :: ways_of_q_2
def ways_of_q_0 : List Stmt := ways_of_s_0 :: ways_of_q_1
theorem hb_ways_of : defBody s_ways_of = ways_of_q_0 := by kernel_rfl
theorem sc_ways_of : FnScope ["reader", "found", "waiting", "at", "row", "letter", "after"] ["reader"] (defScope s_ways_of) := ⟨rfl, rfl, rfl, by decide +kernel, rfl, by decide +kernel, by decide +kernel⟩
abbrev s_leading_rows : Stmt := top 19
theorem db_leading_rows : dbOk ["reader", "found", "going", "row", "end", "letter"] = true := by kernel_rfl
theorem vl_leading_rows : visL (defScope s_leading_rows) ["reader", "found", "going", "row"] = true := by kernel_rfl
def leading_rows_s_0 : Stmt := pL (defBody s_leading_rows) 0
def leading_rows_s_1 : Stmt := pL (defBody s_leading_rows) 1
def leading_rows_s_2a_0 : Stmt := pL (pA (pL (defBody s_leading_rows) 2)) 0
def leading_rows_s_2a_1a_0a_0 : Stmt := pL (pA (pL (pA (pL (pA (pL (defBody s_leading_rows) 2)) 1)) 0)) 0
def leading_rows_s_2a_1a_0a_1 : Stmt := pL (pA (pL (pA (pL (pA (pL (defBody s_leading_rows) 2)) 1)) 0)) 1
def leading_rows_q_2a_1a_0a_2 : List Stmt := []
def leading_rows_q_2a_1a_0a_1 : List Stmt := leading_rows_s_2a_1a_0a_1 :: leading_rows_q_2a_1a_0a_2
def leading_rows_q_2a_1a_0a_0 : List Stmt := leading_rows_s_2a_1a_0a_0 :: leading_rows_q_2a_1a_0a_1
def leading_rows_q_2a_1a_0b_0 : List Stmt := []
def leading_rows_c_2a_1a_0 : Expr := pC (pL (pA (pL (pA (pL (defBody s_leading_rows) 2)) 1)) 0)
def leading_rows_s_2a_1a_0 : Stmt := .If leading_rows_c_2a_1a_0 leading_rows_q_2a_1a_0a_0 leading_rows_q_2a_1a_0b_0 (pP (pL (pA (pL (pA (pL (defBody s_leading_rows) 2)) 1)) 0))
def leading_rows_q_2a_1a_1 : List Stmt := []
def leading_rows_q_2a_1a_0 : List Stmt := leading_rows_s_2a_1a_0 :: leading_rows_q_2a_1a_1
def leading_rows_t_2a_1 : Expr := pT (pL (pA (pL (defBody s_leading_rows) 2)) 1)
def leading_rows_i_2a_1 : Expr := pI (pL (pA (pL (defBody s_leading_rows) 2)) 1)
def leading_rows_s_2a_1 : Stmt := .For leading_rows_t_2a_1 leading_rows_i_2a_1 leading_rows_q_2a_1a_0 [] (pP (pL (pA (pL (defBody s_leading_rows) 2)) 1))
def leading_rows_q_2a_2 : List Stmt := []
def leading_rows_q_2a_1 : List Stmt := leading_rows_s_2a_1 :: leading_rows_q_2a_2
def leading_rows_q_2a_0 : List Stmt := leading_rows_s_2a_0 :: leading_rows_q_2a_1
def leading_rows_c_2 : Expr := pC (pL (defBody s_leading_rows) 2)
def leading_rows_s_2 : Stmt := .While leading_rows_c_2 leading_rows_q_2a_0 [] (pP (pL (defBody s_leading_rows) 2))
def leading_rows_s_3 : Stmt := pL (defBody s_leading_rows) 3
def leading_rows_q_4 : List Stmt := []
def leading_rows_q_3 : List Stmt := leading_rows_s_3 :: leading_rows_q_4
def leading_rows_q_2 : List Stmt := leading_rows_s_2 :: leading_rows_q_3
def leading_rows_q_1 : List Stmt := leading_rows_s_1 :: leading_rows_q_2
def leading_rows_q_0 : List Stmt := leading_rows_s_0 :: leading_rows_q_1
theorem hb_leading_rows : defBody s_leading_rows = leading_rows_q_0 := by kernel_rfl
theorem sc_leading_rows : FnScope ["reader", "found", "going", "row", "end", "letter"] ["reader"] (defScope s_leading_rows) := ⟨rfl, rfl, rfl, by decide +kernel, rfl, by decide +kernel, by decide +kernel⟩
abbrev s_needed_rows : Stmt := top 20
theorem db_needed_rows : dbOk ["reader", "leading", "row"] = true := by kernel_rfl
theorem vl_needed_rows : visL (defScope s_needed_rows) ["reader", "leading"] = true := by kernel_rfl
def needed_rows_s_0 : Stmt := pL (defBody s_needed_rows) 0
def needed_rows_s_1 : Stmt := pL (defBody s_needed_rows) 1
def needed_rows_q_2 : List Stmt := []
def needed_rows_q_1 : List Stmt := needed_rows_s_1 :: needed_rows_q_2
def needed_rows_q_0 : List Stmt := needed_rows_s_0 :: needed_rows_q_1
theorem hb_needed_rows : defBody s_needed_rows = needed_rows_q_0 := by kernel_rfl
theorem sc_needed_rows : FnScope ["reader", "leading", "row"] ["reader"] (defScope s_needed_rows) := ⟨rfl, rfl, rfl, by decide +kernel, rfl, by decide +kernel, by decide +kernel⟩
abbrev s_least_text : Stmt := top 21
theorem db_least_text : dbOk ["reader", "ways", "row"] = true := by kernel_rfl
theorem vl_least_text : visL (defScope s_least_text) ["reader", "ways", "row"] = true := by kernel_rfl
def least_text_s_0 : Stmt := pL (defBody s_least_text) 0
def least_text_s_1a_0a_0 : Stmt := pL (pA (pL (pA (pL (defBody s_least_text) 1)) 0)) 0
def least_text_q_1a_0a_1 : List Stmt := []
def least_text_q_1a_0a_0 : List Stmt := least_text_s_1a_0a_0 :: least_text_q_1a_0a_1
def least_text_q_1a_0b_0 : List Stmt := []
def least_text_c_1a_0 : Expr := pC (pL (pA (pL (defBody s_least_text) 1)) 0)
def least_text_s_1a_0 : Stmt := .If least_text_c_1a_0 least_text_q_1a_0a_0 least_text_q_1a_0b_0 (pP (pL (pA (pL (defBody s_least_text) 1)) 0))
def least_text_q_1a_1 : List Stmt := []
def least_text_q_1a_0 : List Stmt := least_text_s_1a_0 :: least_text_q_1a_1
def least_text_t_1 : Expr := pT (pL (defBody s_least_text) 1)
def least_text_i_1 : Expr := pI (pL (defBody s_least_text) 1)
def least_text_s_1 : Stmt := .For least_text_t_1 least_text_i_1 least_text_q_1a_0 [] (pP (pL (defBody s_least_text) 1))
def least_text_s_2 : Stmt := pL (defBody s_least_text) 2
def least_text_q_3 : List Stmt := []
def least_text_q_2 : List Stmt := least_text_s_2 :: least_text_q_3
def least_text_q_1 : List Stmt := least_text_s_1 :: least_text_q_2
def least_text_q_0 : List Stmt := least_text_s_0 :: least_text_q_1
theorem hb_least_text : defBody s_least_text = least_text_q_0 := by kernel_rfl
theorem sc_least_text : FnScope ["reader", "ways", "row"] ["reader"] (defScope s_least_text) := ⟨rfl, rfl, rfl, by decide +kernel, rfl, by decide +kernel, by decide +kernel⟩
abbrev s_is_end : Stmt := top 22
theorem db_is_end : dbOk ["reader", "row"] = true := by kernel_rfl
theorem vl_is_end : visL (defScope s_is_end) ["reader", "row"] = true := by kernel_rfl
def is_end_s_0 : Stmt := pL (defBody s_is_end) 0
def is_end_q_1 : List Stmt := []
def is_end_q_0 : List Stmt := is_end_s_0 :: is_end_q_1
theorem hb_is_end : defBody s_is_end = is_end_q_0 := by kernel_rfl
theorem sc_is_end : FnScope ["reader", "row"] ["reader", "row"] (defScope s_is_end) := ⟨rfl, rfl, rfl, by decide +kernel, rfl, by decide +kernel, by decide +kernel⟩
abbrev s_is_wished : Stmt := top 23
theorem db_is_wished : dbOk ["word", "one", "other"] = true := by kernel_rfl
theorem vl_is_wished : visL (defScope s_is_wished) ["word", "one", "other"] = true := by kernel_rfl
def is_wished_s_0a_0 : Stmt := pL (pA (pL (defBody s_is_wished) 0)) 0
def is_wished_q_0a_1 : List Stmt := []
def is_wished_q_0a_0 : List Stmt := is_wished_s_0a_0 :: is_wished_q_0a_1
def is_wished_q_0b_0 : List Stmt := []
def is_wished_c_0 : Expr := pC (pL (defBody s_is_wished) 0)
def is_wished_s_0 : Stmt := .If is_wished_c_0 is_wished_q_0a_0 is_wished_q_0b_0 (pP (pL (defBody s_is_wished) 0))
def is_wished_s_1 : Stmt := pL (defBody s_is_wished) 1
def is_wished_q_2 : List Stmt := []
def is_wished_q_1 : List Stmt := is_wished_s_1 :: is_wished_q_2
def is_wished_q_0 : List Stmt := is_wished_s_0 :: is_wished_q_1
theorem hb_is_wished : defBody s_is_wished = is_wished_q_0 := by kernel_rfl
theorem sc_is_wished : FnScope ["word", "one", "other"] ["word", "one", "other"] (defScope s_is_wished) := ⟨rfl, rfl, rfl, by decide +kernel, rfl, by decide +kernel, by decide +kernel⟩
abbrev s_woven : Stmt := top 24
theorem db_woven : dbOk ["one", "other", "word", "pairs", "numbers", "rows", "at", "here", "there", "row", "letter", "pair", "ends", "number"] = true := by kernel_rfl
theorem vl_woven : visL (defScope s_woven) ["one", "other", "word", "pairs", "numbers", "rows", "at", "here", "there", "row", "letter", "pair", "ends", "number"] = true := by kernel_rfl
def woven_s_0 : Stmt := pL (defBody s_woven) 0
def woven_s_1 : Stmt := pL (defBody s_woven) 1
def woven_s_2 : Stmt := pL (defBody s_woven) 2
def woven_s_3 : Stmt := pL (defBody s_woven) 3
def woven_s_4a_0 : Stmt := pL (pA (pL (defBody s_woven) 4)) 0
def woven_s_4a_1 : Stmt := pL (pA (pL (defBody s_woven) 4)) 1
def woven_s_4a_2 : Stmt := pL (pA (pL (defBody s_woven) 4)) 2
def woven_s_4a_3a_0 : Stmt := pL (pA (pL (pA (pL (defBody s_woven) 4)) 3)) 0
def woven_s_4a_3a_1a_0a_0 : Stmt := pL (pA (pL (pA (pL (pA (pL (pA (pL (defBody s_woven) 4)) 3)) 1)) 0)) 0
def woven_s_4a_3a_1a_0a_1 : Stmt := pL (pA (pL (pA (pL (pA (pL (pA (pL (defBody s_woven) 4)) 3)) 1)) 0)) 1
def woven_q_4a_3a_1a_0a_2 : List Stmt := []
def woven_q_4a_3a_1a_0a_1 : List Stmt := woven_s_4a_3a_1a_0a_1 :: woven_q_4a_3a_1a_0a_2
def woven_q_4a_3a_1a_0a_0 : List Stmt := woven_s_4a_3a_1a_0a_0 :: woven_q_4a_3a_1a_0a_1
def woven_q_4a_3a_1a_0b_0 : List Stmt := []
def woven_c_4a_3a_1a_0 : Expr := pC (pL (pA (pL (pA (pL (pA (pL (defBody s_woven) 4)) 3)) 1)) 0)
def woven_s_4a_3a_1a_0 : Stmt := .If woven_c_4a_3a_1a_0 woven_q_4a_3a_1a_0a_0 woven_q_4a_3a_1a_0b_0 (pP (pL (pA (pL (pA (pL (pA (pL (defBody s_woven) 4)) 3)) 1)) 0))
def woven_s_4a_3a_1a_1 : Stmt := pL (pA (pL (pA (pL (pA (pL (defBody s_woven) 4)) 3)) 1)) 1
def woven_q_4a_3a_1a_2 : List Stmt := []
def woven_q_4a_3a_1a_1 : List Stmt := woven_s_4a_3a_1a_1 :: woven_q_4a_3a_1a_2
def woven_q_4a_3a_1a_0 : List Stmt := woven_s_4a_3a_1a_0 :: woven_q_4a_3a_1a_1
def woven_q_4a_3a_1b_0 : List Stmt := []
def woven_c_4a_3a_1 : Expr := pC (pL (pA (pL (pA (pL (defBody s_woven) 4)) 3)) 1)
def woven_s_4a_3a_1 : Stmt := .If woven_c_4a_3a_1 woven_q_4a_3a_1a_0 woven_q_4a_3a_1b_0 (pP (pL (pA (pL (pA (pL (defBody s_woven) 4)) 3)) 1))
def woven_q_4a_3a_2 : List Stmt := []
def woven_q_4a_3a_1 : List Stmt := woven_s_4a_3a_1 :: woven_q_4a_3a_2
def woven_q_4a_3a_0 : List Stmt := woven_s_4a_3a_0 :: woven_q_4a_3a_1
def woven_t_4a_3 : Expr := pT (pL (pA (pL (defBody s_woven) 4)) 3)
def woven_i_4a_3 : Expr := pI (pL (pA (pL (defBody s_woven) 4)) 3)
def woven_s_4a_3 : Stmt := .For woven_t_4a_3 woven_i_4a_3 woven_q_4a_3a_0 [] (pP (pL (pA (pL (defBody s_woven) 4)) 3))
def woven_s_4a_4 : Stmt := pL (pA (pL (defBody s_woven) 4)) 4
def woven_q_4a_5 : List Stmt := []
def woven_q_4a_4 : List Stmt := woven_s_4a_4 :: woven_q_4a_5
def woven_q_4a_3 : List Stmt := woven_s_4a_3 :: woven_q_4a_4
def woven_q_4a_2 : List Stmt := woven_s_4a_2 :: woven_q_4a_3
def woven_q_4a_1 : List Stmt := woven_s_4a_1 :: woven_q_4a_2
def woven_q_4a_0 : List Stmt := woven_s_4a_0 :: woven_q_4a_1
def woven_c_4 : Expr := pC (pL (defBody s_woven) 4)
def woven_s_4 : Stmt := .While woven_c_4 woven_q_4a_0 [] (pP (pL (defBody s_woven) 4))
def woven_s_5 : Stmt := pL (defBody s_woven) 5
def woven_s_6a_0a_0 : Stmt := pL (pA (pL (pA (pL (defBody s_woven) 6)) 0)) 0
def woven_q_6a_0a_1 : List Stmt := []
def woven_q_6a_0a_0 : List Stmt := woven_s_6a_0a_0 :: woven_q_6a_0a_1
def woven_q_6a_0b_0 : List Stmt := []
def woven_c_6a_0 : Expr := pC (pL (pA (pL (defBody s_woven) 6)) 0)
def woven_s_6a_0 : Stmt := .If woven_c_6a_0 woven_q_6a_0a_0 woven_q_6a_0b_0 (pP (pL (pA (pL (defBody s_woven) 6)) 0))
def woven_q_6a_1 : List Stmt := []
def woven_q_6a_0 : List Stmt := woven_s_6a_0 :: woven_q_6a_1
def woven_t_6 : Expr := pT (pL (defBody s_woven) 6)
def woven_i_6 : Expr := pI (pL (defBody s_woven) 6)
def woven_s_6 : Stmt := .For woven_t_6 woven_i_6 woven_q_6a_0 [] (pP (pL (defBody s_woven) 6))
def woven_s_7 : Stmt := pL (defBody s_woven) 7
def woven_q_8 : List Stmt := []
def woven_q_7 : List Stmt := woven_s_7 :: woven_q_8
def woven_q_6 : List Stmt := woven_s_6 :: woven_q_7
def woven_q_5 : List Stmt := woven_s_5 :: woven_q_6
def woven_q_4 : List Stmt := woven_s_4 :: woven_q_5
def woven_q_3 : List Stmt := woven_s_3 :: woven_q_4
def woven_q_2 : List Stmt := woven_s_2 :: woven_q_3
def woven_q_1 : List Stmt := woven_s_1 :: woven_q_2
def woven_q_0 : List Stmt := woven_s_0 :: woven_q_1
theorem hb_woven : defBody s_woven = woven_q_0 := by kernel_rfl
theorem sc_woven : FnScope ["one", "other", "word", "pairs", "numbers", "rows", "at", "here", "there", "row", "letter", "pair", "ends", "number"] ["one", "other", "word"] (defScope s_woven) := ⟨rfl, rfl, rfl, by decide +kernel, rfl, by decide +kernel, by decide +kernel⟩
abbrev s_Prices_init : Stmt := inClass (top 26) 0
theorem db_Prices_init : dbOk ["self", "put", "take", "change", "price"] = true := by kernel_rfl
theorem vl_Prices_init : visL (defScope s_Prices_init) ["self", "put", "take", "change"] = true := by kernel_rfl
def Prices_init_s_0a_0 : Stmt := pL (pA (pL (defBody s_Prices_init) 0)) 0
def Prices_init_q_0a_1 : List Stmt := []
def Prices_init_q_0a_0 : List Stmt := Prices_init_s_0a_0 :: Prices_init_q_0a_1
def Prices_init_q_0b_0 : List Stmt := []
def Prices_init_c_0 : Expr := pC (pL (defBody s_Prices_init) 0)
def Prices_init_s_0 : Stmt := .If Prices_init_c_0 Prices_init_q_0a_0 Prices_init_q_0b_0 (pP (pL (defBody s_Prices_init) 0))
def Prices_init_s_1 : Stmt := pL (defBody s_Prices_init) 1
def Prices_init_s_2 : Stmt := pL (defBody s_Prices_init) 2
def Prices_init_s_3 : Stmt := pL (defBody s_Prices_init) 3
def Prices_init_q_4 : List Stmt := []
def Prices_init_q_3 : List Stmt := Prices_init_s_3 :: Prices_init_q_4
def Prices_init_q_2 : List Stmt := Prices_init_s_2 :: Prices_init_q_3
def Prices_init_q_1 : List Stmt := Prices_init_s_1 :: Prices_init_q_2
def Prices_init_q_0 : List Stmt := Prices_init_s_0 :: Prices_init_q_1
theorem hb_Prices_init : defBody s_Prices_init = Prices_init_q_0 := by kernel_rfl
theorem sc_Prices_init : FnScope ["self", "put", "take", "change", "price"] ["self", "put", "take", "change"] (defScope s_Prices_init) := ⟨rfl, rfl, rfl, by decide +kernel, rfl, by decide +kernel, by decide +kernel⟩
abbrev s_Prices_eq : Stmt := inClass (top 26) 1
theorem db_Prices_eq : dbOk ["self", "other"] = true := by kernel_rfl
theorem vl_Prices_eq : visL (defScope s_Prices_eq) ["self", "other"] = true := by kernel_rfl
def Prices_eq_s_0a_0 : Stmt := pL (pA (pL (defBody s_Prices_eq) 0)) 0
def Prices_eq_q_0a_1 : List Stmt := []
def Prices_eq_q_0a_0 : List Stmt := Prices_eq_s_0a_0 :: Prices_eq_q_0a_1
def Prices_eq_q_0b_0 : List Stmt := []
def Prices_eq_c_0 : Expr := pC (pL (defBody s_Prices_eq) 0)
def Prices_eq_s_0 : Stmt := .If Prices_eq_c_0 Prices_eq_q_0a_0 Prices_eq_q_0b_0 (pP (pL (defBody s_Prices_eq) 0))
def Prices_eq_s_1 : Stmt := pL (defBody s_Prices_eq) 1
def Prices_eq_q_2 : List Stmt := []
def Prices_eq_q_1 : List Stmt := Prices_eq_s_1 :: Prices_eq_q_2
def Prices_eq_q_0 : List Stmt := Prices_eq_s_0 :: Prices_eq_q_1
theorem hb_Prices_eq : defBody s_Prices_eq = Prices_eq_q_0 := by kernel_rfl
theorem sc_Prices_eq : FnScope ["self", "other"] ["self", "other"] (defScope s_Prices_eq) := ⟨rfl, rfl, rfl, by decide +kernel, rfl, by decide +kernel, by decide +kernel⟩
abbrev s_put_ways : Stmt := top 27
theorem db_put_ways : dbOk ["reader", "rows", "found", "row", "waiting", "here", "letter", "after"] = true := by kernel_rfl
theorem vl_put_ways : visL (defScope s_put_ways) ["reader", "rows", "found", "row", "waiting", "here", "letter", "after"] = true := by kernel_rfl
def put_ways_s_0 : Stmt := pL (defBody s_put_ways) 0
def put_ways_s_1a_0 : Stmt := pL (pA (pL (defBody s_put_ways) 1)) 0
def put_ways_s_1a_1 : Stmt := pL (pA (pL (defBody s_put_ways) 1)) 1
def put_ways_s_1a_2a_0 : Stmt := pL (pA (pL (pA (pL (defBody s_put_ways) 1)) 2)) 0
def put_ways_s_1a_2a_1a_0 : Stmt := pL (pA (pL (pA (pL (pA (pL (defBody s_put_ways) 1)) 2)) 1)) 0
def put_ways_s_1a_2a_1a_1a_0 : Stmt := pL (pA (pL (pA (pL (pA (pL (pA (pL (defBody s_put_ways) 1)) 2)) 1)) 1)) 0
def put_ways_s_1a_2a_1a_1a_1 : Stmt := pL (pA (pL (pA (pL (pA (pL (pA (pL (defBody s_put_ways) 1)) 2)) 1)) 1)) 1
def put_ways_q_1a_2a_1a_1a_2 : List Stmt := []
def put_ways_q_1a_2a_1a_1a_1 : List Stmt := put_ways_s_1a_2a_1a_1a_1 :: put_ways_q_1a_2a_1a_1a_2
def put_ways_q_1a_2a_1a_1a_0 : List Stmt := put_ways_s_1a_2a_1a_1a_0 :: put_ways_q_1a_2a_1a_1a_1
def put_ways_q_1a_2a_1a_1b_0 : List Stmt := []
def put_ways_c_1a_2a_1a_1 : Expr := pC (pL (pA (pL (pA (pL (pA (pL (defBody s_put_ways) 1)) 2)) 1)) 1)
def put_ways_s_1a_2a_1a_1 : Stmt := .If put_ways_c_1a_2a_1a_1 put_ways_q_1a_2a_1a_1a_0 put_ways_q_1a_2a_1a_1b_0 (pP (pL (pA (pL (pA (pL (pA (pL (defBody s_put_ways) 1)) 2)) 1)) 1))
def put_ways_q_1a_2a_1a_2 : List Stmt := []
def put_ways_q_1a_2a_1a_1 : List Stmt := put_ways_s_1a_2a_1a_1 :: put_ways_q_1a_2a_1a_2
def put_ways_q_1a_2a_1a_0 : List Stmt := put_ways_s_1a_2a_1a_0 :: put_ways_q_1a_2a_1a_1
def put_ways_t_1a_2a_1 : Expr := pT (pL (pA (pL (pA (pL (defBody s_put_ways) 1)) 2)) 1)
def put_ways_i_1a_2a_1 : Expr := pI (pL (pA (pL (pA (pL (defBody s_put_ways) 1)) 2)) 1)
def put_ways_s_1a_2a_1 : Stmt := .For put_ways_t_1a_2a_1 put_ways_i_1a_2a_1 put_ways_q_1a_2a_1a_0 [] (pP (pL (pA (pL (pA (pL (defBody s_put_ways) 1)) 2)) 1))
def put_ways_q_1a_2a_2 : List Stmt := []
def put_ways_q_1a_2a_1 : List Stmt := put_ways_s_1a_2a_1 :: put_ways_q_1a_2a_2
def put_ways_q_1a_2a_0 : List Stmt := put_ways_s_1a_2a_0 :: put_ways_q_1a_2a_1
def put_ways_c_1a_2 : Expr := pC (pL (pA (pL (defBody s_put_ways) 1)) 2)
def put_ways_s_1a_2 : Stmt := .While put_ways_c_1a_2 put_ways_q_1a_2a_0 [] (pP (pL (pA (pL (defBody s_put_ways) 1)) 2))
def put_ways_q_1a_3 : List Stmt := []
def put_ways_q_1a_2 : List Stmt := put_ways_s_1a_2 :: put_ways_q_1a_3
def put_ways_q_1a_1 : List Stmt := put_ways_s_1a_1 :: put_ways_q_1a_2
def put_ways_q_1a_0 : List Stmt := put_ways_s_1a_0 :: put_ways_q_1a_1
def put_ways_t_1 : Expr := pT (pL (defBody s_put_ways) 1)
def put_ways_i_1 : Expr := pI (pL (defBody s_put_ways) 1)
def put_ways_s_1 : Stmt := .For put_ways_t_1 put_ways_i_1 put_ways_q_1a_0 [] (pP (pL (defBody s_put_ways) 1))
def put_ways_s_2 : Stmt := pL (defBody s_put_ways) 2
def put_ways_q_3 : List Stmt := []
def put_ways_q_2 : List Stmt := put_ways_s_2 :: put_ways_q_3
def put_ways_q_1 : List Stmt := put_ways_s_1 :: put_ways_q_2
def put_ways_q_0 : List Stmt := put_ways_s_0 :: put_ways_q_1
theorem hb_put_ways : defBody s_put_ways = put_ways_q_0 := by kernel_rfl
theorem sc_put_ways : FnScope ["reader", "rows", "found", "row", "waiting", "here", "letter", "after"] ["reader", "rows"] (defScope s_put_ways) := ⟨rfl, rfl, rfl, by decide +kernel, rfl, by decide +kernel, by decide +kernel⟩
abbrev s_Costs_init : Stmt := inClass (top 28) 0
theorem db_Costs_init : dbOk ["self", "machine", "prices", "place", "row"] = true := by kernel_rfl
theorem vl_Costs_init : visL (defScope s_Costs_init) ["self", "machine", "prices"] = true := by kernel_rfl
def Costs_init_s_0 : Stmt := pL (defBody s_Costs_init) 0
def Costs_init_s_1 : Stmt := pL (defBody s_Costs_init) 1
def Costs_init_s_2 : Stmt := pL (defBody s_Costs_init) 2
def Costs_init_s_3 : Stmt := pL (defBody s_Costs_init) 3
def Costs_init_s_4 : Stmt := pL (defBody s_Costs_init) 4
def Costs_init_q_5 : List Stmt := []
def Costs_init_q_4 : List Stmt := Costs_init_s_4 :: Costs_init_q_5
def Costs_init_q_3 : List Stmt := Costs_init_s_3 :: Costs_init_q_4
def Costs_init_q_2 : List Stmt := Costs_init_s_2 :: Costs_init_q_3
def Costs_init_q_1 : List Stmt := Costs_init_s_1 :: Costs_init_q_2
def Costs_init_q_0 : List Stmt := Costs_init_s_0 :: Costs_init_q_1
theorem hb_Costs_init : defBody s_Costs_init = Costs_init_q_0 := by kernel_rfl
theorem sc_Costs_init : FnScope ["self", "machine", "prices", "place", "row"] ["self", "machine", "prices"] (defScope s_Costs_init) := ⟨rfl, rfl, rfl, by decide +kernel, rfl, by decide +kernel, by decide +kernel⟩
abbrev s_Costs_first : Stmt := inClass (top 28) 1
theorem db_Costs_first : dbOk ["self", "row"] = true := by kernel_rfl
theorem vl_Costs_first : visL (defScope s_Costs_first) ["self"] = true := by kernel_rfl
def Costs_first_s_0 : Stmt := pL (defBody s_Costs_first) 0
def Costs_first_q_1 : List Stmt := []
def Costs_first_q_0 : List Stmt := Costs_first_s_0 :: Costs_first_q_1
theorem hb_Costs_first : defBody s_Costs_first = Costs_first_q_0 := by kernel_rfl
theorem sc_Costs_first : FnScope ["self", "row"] ["self"] (defScope s_Costs_first) := ⟨rfl, rfl, rfl, by decide +kernel, rfl, by decide +kernel, by decide +kernel⟩
abbrev s_Costs_put_cost : Stmt := inClass (top 28) 2
theorem db_Costs_put_cost : dbOk ["self", "row", "other", "many"] = true := by kernel_rfl
theorem vl_Costs_put_cost : visL (defScope s_Costs_put_cost) ["self", "row", "other", "many"] = true := by kernel_rfl
def Costs_put_cost_s_0 : Stmt := pL (defBody s_Costs_put_cost) 0
def Costs_put_cost_s_1 : Stmt := pL (defBody s_Costs_put_cost) 1
def Costs_put_cost_q_2 : List Stmt := []
def Costs_put_cost_q_1 : List Stmt := Costs_put_cost_s_1 :: Costs_put_cost_q_2
def Costs_put_cost_q_0 : List Stmt := Costs_put_cost_s_0 :: Costs_put_cost_q_1
theorem hb_Costs_put_cost : defBody s_Costs_put_cost = Costs_put_cost_q_0 := by kernel_rfl
theorem sc_Costs_put_cost : FnScope ["self", "row", "other", "many"] ["self", "row", "other"] (defScope s_Costs_put_cost) := ⟨rfl, rfl, rfl, by decide +kernel, rfl, by decide +kernel, by decide +kernel⟩
abbrev s_Costs_moves : Stmt := inClass (top 28) 3
theorem db_Costs_moves : dbOk ["self", "row", "letter", "found", "other", "after"] = true := by kernel_rfl
theorem vl_Costs_moves : visL (defScope s_Costs_moves) ["self", "row", "letter", "found", "other", "after"] = true := by kernel_rfl
def Costs_moves_s_0 : Stmt := pL (defBody s_Costs_moves) 0
def Costs_moves_s_1a_0 : Stmt := pL (pA (pL (defBody s_Costs_moves) 1)) 0
def Costs_moves_s_1a_1a_0 : Stmt := pL (pA (pL (pA (pL (defBody s_Costs_moves) 1)) 1)) 0
def Costs_moves_q_1a_1a_1 : List Stmt := []
def Costs_moves_q_1a_1a_0 : List Stmt := Costs_moves_s_1a_1a_0 :: Costs_moves_q_1a_1a_1
def Costs_moves_q_1a_1b_0 : List Stmt := []
def Costs_moves_c_1a_1 : Expr := pC (pL (pA (pL (defBody s_Costs_moves) 1)) 1)
def Costs_moves_s_1a_1 : Stmt := .If Costs_moves_c_1a_1 Costs_moves_q_1a_1a_0 Costs_moves_q_1a_1b_0 (pP (pL (pA (pL (defBody s_Costs_moves) 1)) 1))
def Costs_moves_q_1a_2 : List Stmt := []
def Costs_moves_q_1a_1 : List Stmt := Costs_moves_s_1a_1 :: Costs_moves_q_1a_2
def Costs_moves_q_1a_0 : List Stmt := Costs_moves_s_1a_0 :: Costs_moves_q_1a_1
def Costs_moves_t_1 : Expr := pT (pL (defBody s_Costs_moves) 1)
def Costs_moves_i_1 : Expr := pI (pL (defBody s_Costs_moves) 1)
def Costs_moves_s_1 : Stmt := .For Costs_moves_t_1 Costs_moves_i_1 Costs_moves_q_1a_0 [] (pP (pL (defBody s_Costs_moves) 1))
def Costs_moves_s_2 : Stmt := pL (defBody s_Costs_moves) 2
def Costs_moves_q_3 : List Stmt := []
def Costs_moves_q_2 : List Stmt := Costs_moves_s_2 :: Costs_moves_q_3
def Costs_moves_q_1 : List Stmt := Costs_moves_s_1 :: Costs_moves_q_2
def Costs_moves_q_0 : List Stmt := Costs_moves_s_0 :: Costs_moves_q_1
theorem hb_Costs_moves : defBody s_Costs_moves = Costs_moves_q_0 := by kernel_rfl
theorem sc_Costs_moves : FnScope ["self", "row", "letter", "found", "other", "after"] ["self", "row", "letter"] (defScope s_Costs_moves) := ⟨rfl, rfl, rfl, by decide +kernel, rfl, by decide +kernel, by decide +kernel⟩
abbrev s_Costs_behind : Stmt := inClass (top 28) 4
theorem db_Costs_behind : dbOk ["self", "costs", "letter", "best", "row", "here", "after", "price"] = true := by kernel_rfl
theorem vl_Costs_behind : visL (defScope s_Costs_behind) ["self", "costs", "letter", "best", "row", "here", "after", "price"] = true := by kernel_rfl
def Costs_behind_s_0 : Stmt := pL (defBody s_Costs_behind) 0
def Costs_behind_s_1a_0a_0a_0 : Stmt := pL (pA (pL (pA (pL (pA (pL (defBody s_Costs_behind) 1)) 0)) 0)) 0
def Costs_behind_q_1a_0a_0a_1 : List Stmt := []
def Costs_behind_q_1a_0a_0a_0 : List Stmt := Costs_behind_s_1a_0a_0a_0 :: Costs_behind_q_1a_0a_0a_1
def Costs_behind_q_1a_0a_0b_0 : List Stmt := []
def Costs_behind_c_1a_0a_0 : Expr := pC (pL (pA (pL (pA (pL (defBody s_Costs_behind) 1)) 0)) 0)
def Costs_behind_s_1a_0a_0 : Stmt := .If Costs_behind_c_1a_0a_0 Costs_behind_q_1a_0a_0a_0 Costs_behind_q_1a_0a_0b_0 (pP (pL (pA (pL (pA (pL (defBody s_Costs_behind) 1)) 0)) 0))
def Costs_behind_q_1a_0a_1 : List Stmt := []
def Costs_behind_q_1a_0a_0 : List Stmt := Costs_behind_s_1a_0a_0 :: Costs_behind_q_1a_0a_1
def Costs_behind_t_1a_0 : Expr := pT (pL (pA (pL (defBody s_Costs_behind) 1)) 0)
def Costs_behind_i_1a_0 : Expr := pI (pL (pA (pL (defBody s_Costs_behind) 1)) 0)
def Costs_behind_s_1a_0 : Stmt := .For Costs_behind_t_1a_0 Costs_behind_i_1a_0 Costs_behind_q_1a_0a_0 [] (pP (pL (pA (pL (defBody s_Costs_behind) 1)) 0))
def Costs_behind_q_1a_1 : List Stmt := []
def Costs_behind_q_1a_0 : List Stmt := Costs_behind_s_1a_0 :: Costs_behind_q_1a_1
def Costs_behind_t_1 : Expr := pT (pL (defBody s_Costs_behind) 1)
def Costs_behind_i_1 : Expr := pI (pL (defBody s_Costs_behind) 1)
def Costs_behind_s_1 : Stmt := .For Costs_behind_t_1 Costs_behind_i_1 Costs_behind_q_1a_0 [] (pP (pL (defBody s_Costs_behind) 1))
def Costs_behind_s_2 : Stmt := pL (defBody s_Costs_behind) 2
def Costs_behind_q_3 : List Stmt := []
def Costs_behind_q_2 : List Stmt := Costs_behind_s_2 :: Costs_behind_q_3
def Costs_behind_q_1 : List Stmt := Costs_behind_s_1 :: Costs_behind_q_2
def Costs_behind_q_0 : List Stmt := Costs_behind_s_0 :: Costs_behind_q_1
theorem hb_Costs_behind : defBody s_Costs_behind = Costs_behind_q_0 := by kernel_rfl
theorem sc_Costs_behind : FnScope ["self", "costs", "letter", "best", "row", "here", "after", "price"] ["self", "costs", "letter"] (defScope s_Costs_behind) := ⟨rfl, rfl, rfl, by decide +kernel, rfl, by decide +kernel, by decide +kernel⟩
abbrev s_Costs_least_to : Stmt := inClass (top 28) 5
theorem db_Costs_least_to : dbOk ["self", "best", "row", "some", "one"] = true := by kernel_rfl
theorem vl_Costs_least_to : visL (defScope s_Costs_least_to) ["self", "best", "row", "some"] = true := by kernel_rfl
def Costs_least_to_s_0 : Stmt := pL (defBody s_Costs_least_to) 0
def Costs_least_to_s_1 : Stmt := pL (defBody s_Costs_least_to) 1
def Costs_least_to_q_2 : List Stmt := []
def Costs_least_to_q_1 : List Stmt := Costs_least_to_s_1 :: Costs_least_to_q_2
def Costs_least_to_q_0 : List Stmt := Costs_least_to_s_0 :: Costs_least_to_q_1
theorem hb_Costs_least_to : defBody s_Costs_least_to = Costs_least_to_q_0 := by kernel_rfl
theorem sc_Costs_least_to : FnScope ["self", "best", "row", "some", "one"] ["self", "best", "row"] (defScope s_Costs_least_to) := ⟨rfl, rfl, rfl, by decide +kernel, rfl, by decide +kernel, by decide +kernel⟩
abbrev s_Costs_least_end : Stmt := inClass (top 28) 6
theorem db_Costs_least_end : dbOk ["self", "costs"] = true := by kernel_rfl
theorem vl_Costs_least_end : visL (defScope s_Costs_least_end) ["self", "costs"] = true := by kernel_rfl
def Costs_least_end_s_0 : Stmt := pL (defBody s_Costs_least_end) 0
def Costs_least_end_q_1 : List Stmt := []
def Costs_least_end_q_0 : List Stmt := Costs_least_end_s_0 :: Costs_least_end_q_1
theorem hb_Costs_least_end : defBody s_Costs_least_end = Costs_least_end_q_0 := by kernel_rfl
theorem sc_Costs_least_end : FnScope ["self", "costs"] ["self", "costs"] (defScope s_Costs_least_end) := ⟨rfl, rfl, rfl, by decide +kernel, rfl, by decide +kernel, by decide +kernel⟩
abbrev s_need_second : Stmt := top 29
theorem db_need_second : dbOk ["machine"] = true := by kernel_rfl
theorem vl_need_second : visL (defScope s_need_second) ["machine"] = true := by kernel_rfl
def need_second_s_0a_0 : Stmt := pL (pA (pL (defBody s_need_second) 0)) 0
def need_second_q_0a_1 : List Stmt := []
def need_second_q_0a_0 : List Stmt := need_second_s_0a_0 :: need_second_q_0a_1
def need_second_q_0b_0 : List Stmt := []
def need_second_c_0 : Expr := pC (pL (defBody s_need_second) 0)
def need_second_s_0 : Stmt := .If need_second_c_0 need_second_q_0a_0 need_second_q_0b_0 (pP (pL (defBody s_need_second) 0))
def need_second_q_1 : List Stmt := []
def need_second_q_0 : List Stmt := need_second_s_0 :: need_second_q_1
theorem hb_need_second : defBody s_need_second = need_second_q_0 := by kernel_rfl
theorem sc_need_second : FnScope ["machine"] ["machine"] (defScope s_need_second) := ⟨rfl, rfl, rfl, by decide +kernel, rfl, by decide +kernel, by decide +kernel⟩
abbrev s_Game_init : Stmt := inClass (top 31) 0
theorem db_Game_init : dbOk ["self", "one", "other", "prices", "row", "letter", "first", "second"] = true := by kernel_rfl
theorem vl_Game_init : visL (defScope s_Game_init) ["self", "one", "other", "prices", "row", "letter"] = true := by kernel_rfl
def Game_init_s_0 : Stmt := pL (defBody s_Game_init) 0
def Game_init_s_1 : Stmt := pL (defBody s_Game_init) 1
def Game_init_s_2 : Stmt := pL (defBody s_Game_init) 2
def Game_init_s_3 : Stmt := pL (defBody s_Game_init) 3
def Game_init_s_4 : Stmt := pL (defBody s_Game_init) 4
def Game_init_s_5 : Stmt := pL (defBody s_Game_init) 5
def Game_init_s_6a_0a_0 : Stmt := pL (pA (pL (pA (pL (defBody s_Game_init) 6)) 0)) 0
def Game_init_q_6a_0a_1 : List Stmt := []
def Game_init_q_6a_0a_0 : List Stmt := Game_init_s_6a_0a_0 :: Game_init_q_6a_0a_1
def Game_init_t_6a_0 : Expr := pT (pL (pA (pL (defBody s_Game_init) 6)) 0)
def Game_init_i_6a_0 : Expr := pI (pL (pA (pL (defBody s_Game_init) 6)) 0)
def Game_init_s_6a_0 : Stmt := .For Game_init_t_6a_0 Game_init_i_6a_0 Game_init_q_6a_0a_0 [] (pP (pL (pA (pL (defBody s_Game_init) 6)) 0))
def Game_init_q_6a_1 : List Stmt := []
def Game_init_q_6a_0 : List Stmt := Game_init_s_6a_0 :: Game_init_q_6a_1
def Game_init_t_6 : Expr := pT (pL (defBody s_Game_init) 6)
def Game_init_i_6 : Expr := pI (pL (defBody s_Game_init) 6)
def Game_init_s_6 : Stmt := .For Game_init_t_6 Game_init_i_6 Game_init_q_6a_0 [] (pP (pL (defBody s_Game_init) 6))
def Game_init_q_7 : List Stmt := []
def Game_init_q_6 : List Stmt := Game_init_s_6 :: Game_init_q_7
def Game_init_q_5 : List Stmt := Game_init_s_5 :: Game_init_q_6
def Game_init_q_4 : List Stmt := Game_init_s_4 :: Game_init_q_5
def Game_init_q_3 : List Stmt := Game_init_s_3 :: Game_init_q_4
def Game_init_q_2 : List Stmt := Game_init_s_2 :: Game_init_q_3
def Game_init_q_1 : List Stmt := Game_init_s_1 :: Game_init_q_2
def Game_init_q_0 : List Stmt := Game_init_s_0 :: Game_init_q_1
theorem hb_Game_init : defBody s_Game_init = Game_init_q_0 := by kernel_rfl
theorem sc_Game_init : FnScope ["self", "one", "other", "prices", "row", "letter", "first", "second"] ["self", "one", "other", "prices"] (defScope s_Game_init) := ⟨rfl, rfl, rfl, by decide +kernel, rfl, by decide +kernel, by decide +kernel⟩
abbrev s_Game_end_cost : Stmt := inClass (top 31) 1
theorem db_Game_end_cost : dbOk ["self", "second", "ends", "some", "row", "end", "price"] = true := by kernel_rfl
theorem vl_Game_end_cost : visL (defScope s_Game_end_cost) ["self", "second", "ends", "some"] = true := by kernel_rfl
def Game_end_cost_s_0 : Stmt := pL (defBody s_Game_end_cost) 0
def Game_end_cost_s_1 : Stmt := pL (defBody s_Game_end_cost) 1
def Game_end_cost_s_2 : Stmt := pL (defBody s_Game_end_cost) 2
def Game_end_cost_q_3 : List Stmt := []
def Game_end_cost_q_2 : List Stmt := Game_end_cost_s_2 :: Game_end_cost_q_3
def Game_end_cost_q_1 : List Stmt := Game_end_cost_s_1 :: Game_end_cost_q_2
def Game_end_cost_q_0 : List Stmt := Game_end_cost_s_0 :: Game_end_cost_q_1
theorem hb_Game_end_cost : defBody s_Game_end_cost = Game_end_cost_q_0 := by kernel_rfl
theorem sc_Game_end_cost : FnScope ["self", "second", "ends", "some", "row", "end", "price"] ["self", "second"] (defScope s_Game_end_cost) := ⟨rfl, rfl, rfl, by decide +kernel, rfl, by decide +kernel, by decide +kernel⟩
abbrev s_Game_answers : Stmt := inClass (top 31) 2
theorem db_Game_answers : dbOk ["self", "second", "letter", "found", "row", "ahead", "after", "price"] = true := by kernel_rfl
theorem vl_Game_answers : visL (defScope s_Game_answers) ["self", "second", "letter", "found", "row", "ahead", "after", "price"] = true := by kernel_rfl
def Game_answers_s_0 : Stmt := pL (defBody s_Game_answers) 0
def Game_answers_s_1a_0 : Stmt := pL (pA (pL (defBody s_Game_answers) 1)) 0
def Game_answers_s_1a_1a_0a_0a_0 : Stmt := pL (pA (pL (pA (pL (pA (pL (pA (pL (defBody s_Game_answers) 1)) 1)) 0)) 0)) 0
def Game_answers_q_1a_1a_0a_0a_1 : List Stmt := []
def Game_answers_q_1a_1a_0a_0a_0 : List Stmt := Game_answers_s_1a_1a_0a_0a_0 :: Game_answers_q_1a_1a_0a_0a_1
def Game_answers_q_1a_1a_0a_0b_0 : List Stmt := []
def Game_answers_c_1a_1a_0a_0 : Expr := pC (pL (pA (pL (pA (pL (pA (pL (defBody s_Game_answers) 1)) 1)) 0)) 0)
def Game_answers_s_1a_1a_0a_0 : Stmt := .If Game_answers_c_1a_1a_0a_0 Game_answers_q_1a_1a_0a_0a_0 Game_answers_q_1a_1a_0a_0b_0 (pP (pL (pA (pL (pA (pL (pA (pL (defBody s_Game_answers) 1)) 1)) 0)) 0))
def Game_answers_q_1a_1a_0a_1 : List Stmt := []
def Game_answers_q_1a_1a_0a_0 : List Stmt := Game_answers_s_1a_1a_0a_0 :: Game_answers_q_1a_1a_0a_1
def Game_answers_t_1a_1a_0 : Expr := pT (pL (pA (pL (pA (pL (defBody s_Game_answers) 1)) 1)) 0)
def Game_answers_i_1a_1a_0 : Expr := pI (pL (pA (pL (pA (pL (defBody s_Game_answers) 1)) 1)) 0)
def Game_answers_s_1a_1a_0 : Stmt := .For Game_answers_t_1a_1a_0 Game_answers_i_1a_1a_0 Game_answers_q_1a_1a_0a_0 [] (pP (pL (pA (pL (pA (pL (defBody s_Game_answers) 1)) 1)) 0))
def Game_answers_q_1a_1a_1 : List Stmt := []
def Game_answers_q_1a_1a_0 : List Stmt := Game_answers_s_1a_1a_0 :: Game_answers_q_1a_1a_1
def Game_answers_q_1a_1b_0 : List Stmt := []
def Game_answers_c_1a_1 : Expr := pC (pL (pA (pL (defBody s_Game_answers) 1)) 1)
def Game_answers_s_1a_1 : Stmt := .If Game_answers_c_1a_1 Game_answers_q_1a_1a_0 Game_answers_q_1a_1b_0 (pP (pL (pA (pL (defBody s_Game_answers) 1)) 1))
def Game_answers_q_1a_2 : List Stmt := []
def Game_answers_q_1a_1 : List Stmt := Game_answers_s_1a_1 :: Game_answers_q_1a_2
def Game_answers_q_1a_0 : List Stmt := Game_answers_s_1a_0 :: Game_answers_q_1a_1
def Game_answers_t_1 : Expr := pT (pL (defBody s_Game_answers) 1)
def Game_answers_i_1 : Expr := pI (pL (defBody s_Game_answers) 1)
def Game_answers_s_1 : Stmt := .For Game_answers_t_1 Game_answers_i_1 Game_answers_q_1a_0 [] (pP (pL (defBody s_Game_answers) 1))
def Game_answers_s_2 : Stmt := pL (defBody s_Game_answers) 2
def Game_answers_q_3 : List Stmt := []
def Game_answers_q_2 : List Stmt := Game_answers_s_2 :: Game_answers_q_3
def Game_answers_q_1 : List Stmt := Game_answers_s_1 :: Game_answers_q_2
def Game_answers_q_0 : List Stmt := Game_answers_s_0 :: Game_answers_q_1
theorem hb_Game_answers : defBody s_Game_answers = Game_answers_q_0 := by kernel_rfl
theorem sc_Game_answers : FnScope ["self", "second", "letter", "found", "row", "ahead", "after", "price"] ["self", "second", "letter"] (defScope s_Game_answers) := ⟨rfl, rfl, rfl, by decide +kernel, rfl, by decide +kernel, by decide +kernel⟩
abbrev s_Game_need : Stmt := inClass (top 31) 3
theorem db_Game_need : dbOk ["self", "pair", "heights", "first", "second", "found", "letter", "after"] = true := by kernel_rfl
theorem vl_Game_need : visL (defScope s_Game_need) ["self", "pair", "heights", "first", "second", "found", "letter", "after"] = true := by kernel_rfl
def Game_need_s_0 : Stmt := pL (defBody s_Game_need) 0
def Game_need_s_1 : Stmt := pL (defBody s_Game_need) 1
def Game_need_s_2a_0 : Stmt := pL (pA (pL (defBody s_Game_need) 2)) 0
def Game_need_s_2a_1a_0 : Stmt := pL (pA (pL (pA (pL (defBody s_Game_need) 2)) 1)) 0
def Game_need_q_2a_1a_1 : List Stmt := []
def Game_need_q_2a_1a_0 : List Stmt := Game_need_s_2a_1a_0 :: Game_need_q_2a_1a_1
def Game_need_q_2a_1b_0 : List Stmt := []
def Game_need_c_2a_1 : Expr := pC (pL (pA (pL (defBody s_Game_need) 2)) 1)
def Game_need_s_2a_1 : Stmt := .If Game_need_c_2a_1 Game_need_q_2a_1a_0 Game_need_q_2a_1b_0 (pP (pL (pA (pL (defBody s_Game_need) 2)) 1))
def Game_need_q_2a_2 : List Stmt := []
def Game_need_q_2a_1 : List Stmt := Game_need_s_2a_1 :: Game_need_q_2a_2
def Game_need_q_2a_0 : List Stmt := Game_need_s_2a_0 :: Game_need_q_2a_1
def Game_need_t_2 : Expr := pT (pL (defBody s_Game_need) 2)
def Game_need_i_2 : Expr := pI (pL (defBody s_Game_need) 2)
def Game_need_s_2 : Stmt := .For Game_need_t_2 Game_need_i_2 Game_need_q_2a_0 [] (pP (pL (defBody s_Game_need) 2))
def Game_need_s_3 : Stmt := pL (defBody s_Game_need) 3
def Game_need_q_4 : List Stmt := []
def Game_need_q_3 : List Stmt := Game_need_s_3 :: Game_need_q_4
def Game_need_q_2 : List Stmt := Game_need_s_2 :: Game_need_q_3
def Game_need_q_1 : List Stmt := Game_need_s_1 :: Game_need_q_2
def Game_need_q_0 : List Stmt := Game_need_s_0 :: Game_need_q_1
theorem hb_Game_need : defBody s_Game_need = Game_need_q_0 := by kernel_rfl
theorem sc_Game_need : FnScope ["self", "pair", "heights", "first", "second", "found", "letter", "after"] ["self", "pair", "heights"] (defScope s_Game_need) := ⟨rfl, rfl, rfl, by decide +kernel, rfl, by decide +kernel, by decide +kernel⟩
abbrev s_Game_best : Stmt := inClass (top 31) 4
theorem db_Game_best : dbOk ["self", "prices", "after", "heights", "some", "row"] = true := by kernel_rfl
theorem vl_Game_best : visL (defScope s_Game_best) ["self", "prices", "after", "heights", "some"] = true := by kernel_rfl
def Game_best_s_0 : Stmt := pL (defBody s_Game_best) 0
def Game_best_s_1 : Stmt := pL (defBody s_Game_best) 1
def Game_best_q_2 : List Stmt := []
def Game_best_q_1 : List Stmt := Game_best_s_1 :: Game_best_q_2
def Game_best_q_0 : List Stmt := Game_best_s_0 :: Game_best_q_1
theorem hb_Game_best : defBody s_Game_best = Game_best_q_0 := by kernel_rfl
theorem sc_Game_best : FnScope ["self", "prices", "after", "heights", "some", "row"] ["self", "prices", "after", "heights"] (defScope s_Game_best) := ⟨rfl, rfl, rfl, by decide +kernel, rfl, by decide +kernel, by decide +kernel⟩
abbrev s_Game_greatest_price : Stmt := inClass (top 31) 5
theorem db_Game_greatest_price : dbOk ["self", "found", "key", "prices", "row", "after"] = true := by kernel_rfl
theorem vl_Game_greatest_price : visL (defScope s_Game_greatest_price) ["self", "found", "key", "prices"] = true := by kernel_rfl
def Game_greatest_price_s_0 : Stmt := pL (defBody s_Game_greatest_price) 0
def Game_greatest_price_s_1a_0 : Stmt := pL (pA (pL (defBody s_Game_greatest_price) 1)) 0
def Game_greatest_price_s_1a_1 : Stmt := pL (pA (pL (defBody s_Game_greatest_price) 1)) 1
def Game_greatest_price_q_1a_2 : List Stmt := []
def Game_greatest_price_q_1a_1 : List Stmt := Game_greatest_price_s_1a_1 :: Game_greatest_price_q_1a_2
def Game_greatest_price_q_1a_0 : List Stmt := Game_greatest_price_s_1a_0 :: Game_greatest_price_q_1a_1
def Game_greatest_price_t_1 : Expr := pT (pL (defBody s_Game_greatest_price) 1)
def Game_greatest_price_i_1 : Expr := pI (pL (defBody s_Game_greatest_price) 1)
def Game_greatest_price_s_1 : Stmt := .For Game_greatest_price_t_1 Game_greatest_price_i_1 Game_greatest_price_q_1a_0 [] (pP (pL (defBody s_Game_greatest_price) 1))
def Game_greatest_price_s_2 : Stmt := pL (defBody s_Game_greatest_price) 2
def Game_greatest_price_q_3 : List Stmt := []
def Game_greatest_price_q_2 : List Stmt := Game_greatest_price_s_2 :: Game_greatest_price_q_3
def Game_greatest_price_q_1 : List Stmt := Game_greatest_price_s_1 :: Game_greatest_price_q_2
def Game_greatest_price_q_0 : List Stmt := Game_greatest_price_s_0 :: Game_greatest_price_q_1
theorem hb_Game_greatest_price : defBody s_Game_greatest_price = Game_greatest_price_q_0 := by kernel_rfl
theorem sc_Game_greatest_price : FnScope ["self", "found", "key", "prices", "row", "after"] ["self"] (defScope s_Game_greatest_price) := ⟨rfl, rfl, rfl, by decide +kernel, rfl, by decide +kernel, by decide +kernel⟩
abbrev s_solved : Stmt := top 32
theorem db_solved : dbOk ["game", "most", "heights", "going", "after", "pair", "need"] = true := by kernel_rfl
theorem vl_solved : visL (defScope s_solved) ["game", "most", "heights", "going", "after", "pair", "need"] = true := by kernel_rfl
def solved_s_0 : Stmt := pL (defBody s_solved) 0
def solved_s_1 : Stmt := pL (defBody s_solved) 1
def solved_s_2 : Stmt := pL (defBody s_solved) 2
def solved_s_3a_0 : Stmt := pL (pA (pL (defBody s_solved) 3)) 0
def solved_s_3a_1a_0 : Stmt := pL (pA (pL (pA (pL (defBody s_solved) 3)) 1)) 0
def solved_s_3a_1a_1 : Stmt := pL (pA (pL (pA (pL (defBody s_solved) 3)) 1)) 1
def solved_q_3a_1a_2 : List Stmt := []
def solved_q_3a_1a_1 : List Stmt := solved_s_3a_1a_1 :: solved_q_3a_1a_2
def solved_q_3a_1a_0 : List Stmt := solved_s_3a_1a_0 :: solved_q_3a_1a_1
def solved_t_3a_1 : Expr := pT (pL (pA (pL (defBody s_solved) 3)) 1)
def solved_i_3a_1 : Expr := pI (pL (pA (pL (defBody s_solved) 3)) 1)
def solved_s_3a_1 : Stmt := .For solved_t_3a_1 solved_i_3a_1 solved_q_3a_1a_0 [] (pP (pL (pA (pL (defBody s_solved) 3)) 1))
def solved_s_3a_2 : Stmt := pL (pA (pL (defBody s_solved) 3)) 2
def solved_s_3a_3 : Stmt := pL (pA (pL (defBody s_solved) 3)) 3
def solved_q_3a_4 : List Stmt := []
def solved_q_3a_3 : List Stmt := solved_s_3a_3 :: solved_q_3a_4
def solved_q_3a_2 : List Stmt := solved_s_3a_2 :: solved_q_3a_3
def solved_q_3a_1 : List Stmt := solved_s_3a_1 :: solved_q_3a_2
def solved_q_3a_0 : List Stmt := solved_s_3a_0 :: solved_q_3a_1
def solved_c_3 : Expr := pC (pL (defBody s_solved) 3)
def solved_s_3 : Stmt := .While solved_c_3 solved_q_3a_0 [] (pP (pL (defBody s_solved) 3))
def solved_s_4 : Stmt := pL (defBody s_solved) 4
def solved_q_5 : List Stmt := []
def solved_q_4 : List Stmt := solved_s_4 :: solved_q_5
def solved_q_3 : List Stmt := solved_s_3 :: solved_q_4
def solved_q_2 : List Stmt := solved_s_2 :: solved_q_3
def solved_q_1 : List Stmt := solved_s_1 :: solved_q_2
def solved_q_0 : List Stmt := solved_s_0 :: solved_q_1
theorem hb_solved : defBody s_solved = solved_q_0 := by kernel_rfl
theorem sc_solved : FnScope ["game", "most", "heights", "going", "after", "pair", "need"] ["game"] (defScope s_solved) := ⟨rfl, rfl, rfl, by decide +kernel, rfl, by decide +kernel, by decide +kernel⟩
abbrev s_by_letters : Stmt := top 33
theorem db_by_letters : dbOk ["one", "other", "prices"] = true := by kernel_rfl
theorem vl_by_letters : visL (defScope s_by_letters) ["one", "other", "prices"] = true := by kernel_rfl
def by_letters_s_0 : Stmt := pL (defBody s_by_letters) 0
def by_letters_s_1a_0 : Stmt := pL (pA (pL (defBody s_by_letters) 1)) 0
def by_letters_q_1a_1 : List Stmt := []
def by_letters_q_1a_0 : List Stmt := by_letters_s_1a_0 :: by_letters_q_1a_1
def by_letters_q_1b_0 : List Stmt := []
def by_letters_c_1 : Expr := pC (pL (defBody s_by_letters) 1)
def by_letters_s_1 : Stmt := .If by_letters_c_1 by_letters_q_1a_0 by_letters_q_1b_0 (pP (pL (defBody s_by_letters) 1))
def by_letters_s_2 : Stmt := pL (defBody s_by_letters) 2
def by_letters_q_3 : List Stmt := []
def by_letters_q_2 : List Stmt := by_letters_s_2 :: by_letters_q_3
def by_letters_q_1 : List Stmt := by_letters_s_1 :: by_letters_q_2
def by_letters_q_0 : List Stmt := by_letters_s_0 :: by_letters_q_1
theorem hb_by_letters : defBody s_by_letters = by_letters_q_0 := by kernel_rfl
theorem sc_by_letters : FnScope ["one", "other", "prices"] ["one", "other", "prices"] (defScope s_by_letters) := ⟨rfl, rfl, rfl, by decide +kernel, rfl, by decide +kernel, by decide +kernel⟩
abbrev s__law_begin : Stmt := top 35
theorem db__law_begin : dbOk ["_law_script"] = true := by kernel_rfl
theorem vl__law_begin : visL (defScope s__law_begin) ["_law_script"] = true := by kernel_rfl
def _law_begin_s_0 : Stmt := pL (defBody s__law_begin) 0
def _law_begin_q_1 : List Stmt := []
def _law_begin_q_0 : List Stmt := _law_begin_s_0 :: _law_begin_q_1
theorem hb__law_begin : defBody s__law_begin = _law_begin_q_0 := by kernel_rfl
theorem sc__law_begin : FnScope ["_law_script"] ["_law_script"] (defScope s__law_begin) := ⟨rfl, rfl, rfl, by decide +kernel, rfl, by decide +kernel, by decide +kernel⟩
abbrev s__law_draw : Stmt := top 36
theorem db__law_draw : dbOk ["_law_draws", "_law_size", "_law_cell", "_law_found"] = true := by kernel_rfl
theorem vl__law_draw : visL (defScope s__law_draw) ["_law_draws", "_law_size", "_law_cell", "_law_found"] = true := by kernel_rfl
def _law_draw_s_0a_0a_0 : Stmt := pL (pA (pL (pA (pL (defBody s__law_draw) 0)) 0)) 0
def _law_draw_s_0a_0a_1 : Stmt := pL (pA (pL (pA (pL (defBody s__law_draw) 0)) 0)) 1
def _law_draw_s_0a_0a_2a_0 : Stmt := pL (pA (pL (pA (pL (pA (pL (defBody s__law_draw) 0)) 0)) 2)) 0
def _law_draw_q_0a_0a_2a_1 : List Stmt := []
def _law_draw_q_0a_0a_2a_0 : List Stmt := _law_draw_s_0a_0a_2a_0 :: _law_draw_q_0a_0a_2a_1
def _law_draw_s_0a_0a_2b_0 : Stmt := pL (pB (pL (pA (pL (pA (pL (defBody s__law_draw) 0)) 0)) 2)) 0
def _law_draw_q_0a_0a_2b_1 : List Stmt := []
def _law_draw_q_0a_0a_2b_0 : List Stmt := _law_draw_s_0a_0a_2b_0 :: _law_draw_q_0a_0a_2b_1
def _law_draw_c_0a_0a_2 : Expr := pC (pL (pA (pL (pA (pL (defBody s__law_draw) 0)) 0)) 2)
def _law_draw_s_0a_0a_2 : Stmt := .If _law_draw_c_0a_0a_2 _law_draw_q_0a_0a_2a_0 _law_draw_q_0a_0a_2b_0 (pP (pL (pA (pL (pA (pL (defBody s__law_draw) 0)) 0)) 2))
def _law_draw_q_0a_0a_3 : List Stmt := []
def _law_draw_q_0a_0a_2 : List Stmt := _law_draw_s_0a_0a_2 :: _law_draw_q_0a_0a_3
def _law_draw_q_0a_0a_1 : List Stmt := _law_draw_s_0a_0a_1 :: _law_draw_q_0a_0a_2
def _law_draw_q_0a_0a_0 : List Stmt := _law_draw_s_0a_0a_0 :: _law_draw_q_0a_0a_1
def _law_draw_s_0a_0b_0 : Stmt := pL (pB (pL (pA (pL (defBody s__law_draw) 0)) 0)) 0
def _law_draw_q_0a_0b_1 : List Stmt := []
def _law_draw_q_0a_0b_0 : List Stmt := _law_draw_s_0a_0b_0 :: _law_draw_q_0a_0b_1
def _law_draw_c_0a_0 : Expr := pC (pL (pA (pL (defBody s__law_draw) 0)) 0)
def _law_draw_s_0a_0 : Stmt := .If _law_draw_c_0a_0 _law_draw_q_0a_0a_0 _law_draw_q_0a_0b_0 (pP (pL (pA (pL (defBody s__law_draw) 0)) 0))
def _law_draw_q_0a_1 : List Stmt := []
def _law_draw_q_0a_0 : List Stmt := _law_draw_s_0a_0 :: _law_draw_q_0a_1
def _law_draw_q_0b_0 : List Stmt := []
def _law_draw_c_0 : Expr := pC (pL (defBody s__law_draw) 0)
def _law_draw_s_0 : Stmt := .If _law_draw_c_0 _law_draw_q_0a_0 _law_draw_q_0b_0 (pP (pL (defBody s__law_draw) 0))
def _law_draw_s_1a_0 : Stmt := pL (pA (pL (defBody s__law_draw) 1)) 0
def _law_draw_s_1a_1 : Stmt := pL (pA (pL (defBody s__law_draw) 1)) 1
def _law_draw_s_1a_2 : Stmt := pL (pA (pL (defBody s__law_draw) 1)) 2
def _law_draw_q_1a_3 : List Stmt := []
def _law_draw_q_1a_2 : List Stmt := _law_draw_s_1a_2 :: _law_draw_q_1a_3
def _law_draw_q_1a_1 : List Stmt := _law_draw_s_1a_1 :: _law_draw_q_1a_2
def _law_draw_q_1a_0 : List Stmt := _law_draw_s_1a_0 :: _law_draw_q_1a_1
def _law_draw_q_1b_0 : List Stmt := []
def _law_draw_c_1 : Expr := pC (pL (defBody s__law_draw) 1)
def _law_draw_s_1 : Stmt := .If _law_draw_c_1 _law_draw_q_1a_0 _law_draw_q_1b_0 (pP (pL (defBody s__law_draw) 1))
def _law_draw_s_2 : Stmt := pL (defBody s__law_draw) 2
def _law_draw_q_3 : List Stmt := []
def _law_draw_q_2 : List Stmt := _law_draw_s_2 :: _law_draw_q_3
def _law_draw_q_1 : List Stmt := _law_draw_s_1 :: _law_draw_q_2
def _law_draw_q_0 : List Stmt := _law_draw_s_0 :: _law_draw_q_1
theorem hb__law_draw : defBody s__law_draw = _law_draw_q_0 := by kernel_rfl
theorem sc__law_draw : FnScope ["_law_draws", "_law_size", "_law_cell", "_law_found"] ["_law_draws", "_law_size"] (defScope s__law_draw) := ⟨rfl, rfl, rfl, by decide +kernel, rfl, by decide +kernel, by decide +kernel⟩
abbrev s__law_line : Stmt := top 37
theorem db__law_line : dbOk ["_law_letters", "_law_size", "_law_rows", "_law_k", "_law_row", "_law_letter"] = true := by kernel_rfl
theorem vl__law_line : visL (defScope s__law_line) ["_law_letters", "_law_size", "_law_rows", "_law_k", "_law_row", "_law_letter"] = true := by kernel_rfl
def _law_line_s_0 : Stmt := pL (defBody s__law_line) 0
def _law_line_s_1a_0 : Stmt := pL (pA (pL (defBody s__law_line) 1)) 0
def _law_line_s_1a_1a_0 : Stmt := pL (pA (pL (pA (pL (defBody s__law_line) 1)) 1)) 0
def _law_line_q_1a_1a_1 : List Stmt := []
def _law_line_q_1a_1a_0 : List Stmt := _law_line_s_1a_1a_0 :: _law_line_q_1a_1a_1
def _law_line_t_1a_1 : Expr := pT (pL (pA (pL (defBody s__law_line) 1)) 1)
def _law_line_i_1a_1 : Expr := pI (pL (pA (pL (defBody s__law_line) 1)) 1)
def _law_line_s_1a_1 : Stmt := .For _law_line_t_1a_1 _law_line_i_1a_1 _law_line_q_1a_1a_0 [] (pP (pL (pA (pL (defBody s__law_line) 1)) 1))
def _law_line_s_1a_2 : Stmt := pL (pA (pL (defBody s__law_line) 1)) 2
def _law_line_q_1a_3 : List Stmt := []
def _law_line_q_1a_2 : List Stmt := _law_line_s_1a_2 :: _law_line_q_1a_3
def _law_line_q_1a_1 : List Stmt := _law_line_s_1a_1 :: _law_line_q_1a_2
def _law_line_q_1a_0 : List Stmt := _law_line_s_1a_0 :: _law_line_q_1a_1
def _law_line_t_1 : Expr := pT (pL (defBody s__law_line) 1)
def _law_line_i_1 : Expr := pI (pL (defBody s__law_line) 1)
def _law_line_s_1 : Stmt := .For _law_line_t_1 _law_line_i_1 _law_line_q_1a_0 [] (pP (pL (defBody s__law_line) 1))
def _law_line_s_2 : Stmt := pL (defBody s__law_line) 2
def _law_line_q_3 : List Stmt := []
def _law_line_q_2 : List Stmt := _law_line_s_2 :: _law_line_q_3
def _law_line_q_1 : List Stmt := _law_line_s_1 :: _law_line_q_2
def _law_line_q_0 : List Stmt := _law_line_s_0 :: _law_line_q_1
theorem hb__law_line : defBody s__law_line = _law_line_q_0 := by kernel_rfl
theorem sc__law_line : FnScope ["_law_letters", "_law_size", "_law_rows", "_law_k", "_law_row", "_law_letter"] ["_law_letters", "_law_size"] (defScope s__law_line) := ⟨rfl, rfl, rfl, by decide +kernel, rfl, by decide +kernel, by decide +kernel⟩
abbrev s__law_upto : Stmt := top 38
theorem db__law_upto : dbOk ["_law_size", "_law_rows", "_law_k"] = true := by kernel_rfl
theorem vl__law_upto : visL (defScope s__law_upto) ["_law_size", "_law_rows"] = true := by kernel_rfl
def _law_upto_s_0 : Stmt := pL (defBody s__law_upto) 0
def _law_upto_s_1 : Stmt := pL (defBody s__law_upto) 1
def _law_upto_q_2 : List Stmt := []
def _law_upto_q_1 : List Stmt := _law_upto_s_1 :: _law_upto_q_2
def _law_upto_q_0 : List Stmt := _law_upto_s_0 :: _law_upto_q_1
theorem hb__law_upto : defBody s__law_upto = _law_upto_q_0 := by kernel_rfl
theorem sc__law_upto : FnScope ["_law_size", "_law_rows", "_law_k"] ["_law_size"] (defScope s__law_upto) := ⟨rfl, rfl, rfl, by decide +kernel, rfl, by decide +kernel, by decide +kernel⟩
abbrev s_law : Stmt := top 39
theorem db_law : dbOk ["_law_script", "_law_draws", "_law_put", "_law_take", "_law_change", "_law_prices", "_law_n", "_law_m", "_law_swap", "_law_wide", "_law_narrow", "_law_due", "_law_twos", "_law_ones", "_law_evens", "_law_both", "_law_turned", "_law_free", "_law_ends", "_law_k"] = true := by kernel_rfl
theorem vl_law : visL (defScope s_law) ["_law_script", "_law_draws", "_law_put", "_law_take", "_law_change", "_law_prices", "_law_n", "_law_m", "_law_swap", "_law_wide", "_law_narrow", "_law_due", "_law_twos", "_law_ones", "_law_evens", "_law_both", "_law_turned", "_law_free", "_law_ends"] = true := by kernel_rfl
def law_s_0 : Stmt := pL (defBody s_law) 0
def law_s_1 : Stmt := pL (defBody s_law) 1
def law_s_2 : Stmt := pL (defBody s_law) 2
def law_s_3 : Stmt := pL (defBody s_law) 3
def law_s_4 : Stmt := pL (defBody s_law) 4
def law_s_5 : Stmt := pL (defBody s_law) 5
def law_s_6 : Stmt := pL (defBody s_law) 6
def law_s_7a_0 : Stmt := pL (pA (pL (defBody s_law) 7)) 0
def law_q_7a_1 : List Stmt := []
def law_q_7a_0 : List Stmt := law_s_7a_0 :: law_q_7a_1
def law_q_7b_0 : List Stmt := []
def law_c_7 : Expr := pC (pL (defBody s_law) 7)
def law_s_7 : Stmt := .If law_c_7 law_q_7a_0 law_q_7b_0 (pP (pL (defBody s_law) 7))
def law_s_8 : Stmt := pL (defBody s_law) 8
def law_s_9a_0 : Stmt := pL (pA (pL (defBody s_law) 9)) 0
def law_q_9a_1 : List Stmt := []
def law_q_9a_0 : List Stmt := law_s_9a_0 :: law_q_9a_1
def law_q_9b_0 : List Stmt := []
def law_c_9 : Expr := pC (pL (defBody s_law) 9)
def law_s_9 : Stmt := .If law_c_9 law_q_9a_0 law_q_9b_0 (pP (pL (defBody s_law) 9))
def law_s_10a_0 : Stmt := pL (pA (pL (defBody s_law) 10)) 0
def law_q_10a_1 : List Stmt := []
def law_q_10a_0 : List Stmt := law_s_10a_0 :: law_q_10a_1
def law_q_10b_0 : List Stmt := []
def law_c_10 : Expr := pC (pL (defBody s_law) 10)
def law_s_10 : Stmt := .If law_c_10 law_q_10a_0 law_q_10b_0 (pP (pL (defBody s_law) 10))
def law_s_11 : Stmt := pL (defBody s_law) 11
def law_s_12 : Stmt := pL (defBody s_law) 12
def law_s_13 : Stmt := pL (defBody s_law) 13
def law_s_14a_0 : Stmt := pL (pA (pL (defBody s_law) 14)) 0
def law_q_14a_1 : List Stmt := []
def law_q_14a_0 : List Stmt := law_s_14a_0 :: law_q_14a_1
def law_q_14b_0 : List Stmt := []
def law_c_14 : Expr := pC (pL (defBody s_law) 14)
def law_s_14 : Stmt := .If law_c_14 law_q_14a_0 law_q_14b_0 (pP (pL (defBody s_law) 14))
def law_s_15a_0 : Stmt := pL (pA (pL (defBody s_law) 15)) 0
def law_q_15a_1 : List Stmt := []
def law_q_15a_0 : List Stmt := law_s_15a_0 :: law_q_15a_1
def law_q_15b_0 : List Stmt := []
def law_c_15 : Expr := pC (pL (defBody s_law) 15)
def law_s_15 : Stmt := .If law_c_15 law_q_15a_0 law_q_15b_0 (pP (pL (defBody s_law) 15))
def law_s_16 : Stmt := pL (defBody s_law) 16
def law_s_17 : Stmt := pL (defBody s_law) 17
def law_s_18 : Stmt := pL (defBody s_law) 18
def law_s_19 : Stmt := pL (defBody s_law) 19
def law_s_20a_0 : Stmt := pL (pA (pL (defBody s_law) 20)) 0
def law_q_20a_1 : List Stmt := []
def law_q_20a_0 : List Stmt := law_s_20a_0 :: law_q_20a_1
def law_q_20b_0 : List Stmt := []
def law_c_20 : Expr := pC (pL (defBody s_law) 20)
def law_s_20 : Stmt := .If law_c_20 law_q_20a_0 law_q_20b_0 (pP (pL (defBody s_law) 20))
def law_s_21 : Stmt := pL (defBody s_law) 21
def law_q_22 : List Stmt := []
def law_q_21 : List Stmt := law_s_21 :: law_q_22
def law_q_20 : List Stmt := law_s_20 :: law_q_21
def law_q_19 : List Stmt := law_s_19 :: law_q_20
def law_q_18 : List Stmt := law_s_18 :: law_q_19
def law_q_17 : List Stmt := law_s_17 :: law_q_18
def law_q_16 : List Stmt := law_s_16 :: law_q_17
def law_q_15 : List Stmt := law_s_15 :: law_q_16
def law_q_14 : List Stmt := law_s_14 :: law_q_15
def law_q_13 : List Stmt := law_s_13 :: law_q_14
def law_q_12 : List Stmt := law_s_12 :: law_q_13
def law_q_11 : List Stmt := law_s_11 :: law_q_12
def law_q_10 : List Stmt := law_s_10 :: law_q_11
def law_q_9 : List Stmt := law_s_9 :: law_q_10
def law_q_8 : List Stmt := law_s_8 :: law_q_9
def law_q_7 : List Stmt := law_s_7 :: law_q_8
def law_q_6 : List Stmt := law_s_6 :: law_q_7
def law_q_5 : List Stmt := law_s_5 :: law_q_6
def law_q_4 : List Stmt := law_s_4 :: law_q_5
def law_q_3 : List Stmt := law_s_3 :: law_q_4
def law_q_2 : List Stmt := law_s_2 :: law_q_3
def law_q_1 : List Stmt := law_s_1 :: law_q_2
def law_q_0 : List Stmt := law_s_0 :: law_q_1
theorem hb_law : defBody s_law = law_q_0 := by kernel_rfl
theorem sc_law : FnScope ["_law_script", "_law_draws", "_law_put", "_law_take", "_law_change", "_law_prices", "_law_n", "_law_m", "_law_swap", "_law_wide", "_law_narrow", "_law_due", "_law_twos", "_law_ones", "_law_evens", "_law_both", "_law_turned", "_law_free", "_law_ends", "_law_k"] ["_law_script"] (defScope s_law) := ⟨rfl, rfl, rfl, by decide +kernel, rfl, by decide +kernel, by decide +kernel⟩
-- names
section
variable {P : Program} {w : World} {K : PySem.W.Frag} {mg : Str → Option Value} {base : Heap}
/-- is_whole -/
def isWhole (x : V) (a b : Int) : Bool := match x with
  | .int i => decide (a ≤ i) && decide (i ≤ b)
  | _ => false
def spWhole : Prm := fun ds L KK KE => ∃ (x : V) (a b : Int), ds = [.v x, .int a, .int b] ∧ scalV x = true ∧ L = [] ∧ KK (.bl (isWhole x a b)) []
theorem ok_whole {f : Addr} {fd : FuncData} (FF : Fun K "is_whole" "is_whole" s_is_whole f fd) (B : Bi mg) : Def P w K mg base 1 f fd ["thing", "least", "most"] spWhole := by
  refine def_ok FF sc_is_whole ?_ ?_
  · rintro ds L KK KE ⟨x, a, b, rfl, _⟩
    rfl
  · rintro ds L KK KE ⟨x, a, b, rfl, hx, rfl, hk⟩ H0 F0
    refine run_ret ?_
    wtm_at "bg"
    rcases scal_cases hx with ⟨i, rfl⟩ | ⟨k, rfl⟩ | ⟨z, rfl⟩ | rfl
    all_goals wtm_at "go"
    all_goals simp_all [isWhole]
def letV : List V := [.str "a", .str "b", .str "c"]
def isLetter (x : V) : Bool := match x with
  | .str z => inD (.str z) (letV.map D.v)
  | _ => false
def spLetter : Prm := fun ds L KK KE => ∃ (x : V), ds = [.v x] ∧ scalV x = true ∧ L = [] ∧ KK (.bl (isLetter x)) []
theorem ok_letter {f : Addr} {fd : FuncData} (FF : Fun K "is_letter" "is_letter" s_is_letter f fd) (B : Bi mg) (gL : GTup K mg "LETTERS" letV) : Def P w K mg base 1 f fd ["thing"] spLetter := by
  refine def_ok FF sc_is_letter ?_ ?_
  · rintro ds L KK KE ⟨x, rfl, _⟩
    rfl
  · rintro ds L KK KE ⟨x, rfl, hx, rfl, hk⟩ H0 F0
    refine run_ret ?_
    wtm_at "bg"
    rcases scal_cases hx with ⟨i, rfl⟩ | ⟨k, rfl⟩ | ⟨z, rfl⟩ | rfl
    all_goals wtm_at "go"
    all_goals first | exact hk | skip
    refine op_inQ .ctup rfl rfl ?_
    exact hk
abbrev rowV (kvs : List (Key × V)) : D := .dK (kvs.map fun kv => (kv.1, .v kv.2))
def isRow (kvs : List (Key × V)) (many : Int) : Bool := kvs.all fun kv => isLetter (kV kv.1) && isWhole ((valV kvs kv.1).getD .non) 0 (many - 1)
def spRow : Prm := fun ds L KK KE => ∃ (kvs : List (Key × V)) (many : Int), ds = [rowV kvs, .int many] ∧ (∀ kv ∈ kvs, scalV kv.2 = true) ∧ kvs.length < 1000 ∧ L = [] ∧ KK (.bl (isRow kvs many)) []
theorem ok_row {f : Addr} {fd : FuncData} (FF : Fun K "is_row" "is_row" s_is_row f fd) (B : Bi mg) (g1 : Glob P w K mg base "is_letter" ["thing"] spLetter 1) (g2 : Glob P w K mg base "is_whole" ["thing", "least", "most"] spWhole 1) : Def P w K mg base 2 f fd ["thing", "many"] spRow := by
  refine def_ok FF sc_is_row ?_ ?_
  · rintro ds L KK KE ⟨x, m, rfl, _⟩
    rfl
  · rintro ds L KK KE ⟨kvs, many, rfl, hv, hl, rfl, hk⟩ H0 F0
    wtm_at "bg"
    wtm_at "go"
    refine ev_lcK [("letter", 2)] rfl (by kernel_rfl) (path_name (by wtm_at "lk") (by wtm_at "vis")) ?_
    intro H0 F0
    refine lc_pure (fun _ => true) (fun d => match d with | .v x => .bl (isLetter x && isWhole ((valV kvs (keyOf x)).getD .non) 0 (many - 1)) | _ => .non) ?_ (by intro s hs; cases hs) ?_ ?_
    · unfold keysD
      rw [List.length_map, List.length_map]
      exact sz_lt (by omega)
    · intro F1 Dl d acc hd
      unfold keysD at hd
      rw [List.map_map] at hd
      obtain ⟨kv, hkv, rfl⟩ := List.mem_map.mp hd
      refine tn_name (i := 2) (by wtm_at "loc") rfl (List.mem_singleton.mpr rfl) ?_
      refine ⟨rfl, List.Sublist.refl _, fun _ => ?_⟩
      show Ev _ [some (rowV kvs), some (.int many), some (.v (kV kv.1))] _ _ _
      have hs : scalV (kV kv.1) = true := by cases kv.1 <;> rfl
      wtm_at "go"
      refine calls0 ⟨_, rfl, hs, rfl, ?_⟩
      wtm_at "go"
      · obtain ⟨v, hv1, hv2⟩ : ∃ v, valV kvs kv.1 = some v ∧ scalV v = true := by
          unfold valV
          cases e : kvs.find? fun a => decide (a.1 = kv.1) with
          | none => exact absurd (List.find?_eq_none.mp e kv hkv) (by simp)
          | some b => exact ⟨b.2, rfl, hv b (List.mem_of_find?_eq_some e)⟩
        refine ix_K rfl .frz (by rw [valD_map, hv1]; rfl) ?_
        wtm_at "go"
        refine calls0 ⟨_, _, _, rfl, hv2, rfl, ?_, List.Sublist.refl _⟩
        rename_i hb
        show _ = D.bl (isLetter (kV kv.1) && isWhole ((valV kvs (keyOf (kV kv.1))).getD .non) 0 (many - 1))
        rw [keyOf_kV, hv1, hb]
        rfl
      · rename_i hb
        show _ = D.bl (isLetter (kV kv.1) && isWhole ((valV kvs (keyOf (kV kv.1))).getD .non) 0 (many - 1))
        rw [hb]
        rfl
    · intro Dl
      have e : ∀ l : List (Key × V), (keysD (l.map fun kv => (kv.1, D.v kv.2))).map (fun d => match d with | .v x => D.bl (isLetter x && isWhole ((valV kvs (keyOf x)).getD .non) 0 (many - 1)) | _ => .non) =
          l.map fun kv => D.bl (isLetter (kV kv.1) && isWhole ((valV kvs kv.1).getD .non) 0 (many - 1)) := by
        intro l
        unfold keysD
        rw [List.map_map, List.map_map]
        refine List.map_congr_left fun kv _ => ?_
        show D.bl (isLetter (kV kv.1) && isWhole ((valV kvs (keyOf (kV kv.1))).getD .non) 0 (many - 1)) = _
        rw [keyOf_kV]
      have f : (keysD (kvs.map fun kv => (kv.1, D.v kv.2))).filter (fun _ => true) = keysD (kvs.map fun kv => (kv.1, D.v kv.2)) := List.filter_eq_self.mpr fun _ _ => rfl
      rw [f, e]
      wtm_at "go"
end
end Rk10

open PySem L2 TL
namespace Rk10
section
variable {P : Program} {w : World} {K : PySem.W.Frag} {mg : Str → Option Value} {base : Heap}
def natV : V → Int
  | .int i => i
  | _ => 0
def risesI : List Int → Bool
  | a :: b :: r => decide (a < b) && risesI (b :: r)
  | _ => true
def isMach (rs : List (List (Key × V))) (es : List V) : Bool := !rs.isEmpty && rs.all (fun r => isRow r rs.length) && es.all (fun x => isWhole x 0 (rs.length - 1)) && risesI (es.map natV)
def RowsOk (rs : List (List (Key × V))) : Prop := rs.length < 1000 ∧ ∀ r ∈ rs, (∀ kv ∈ r, scalV kv.2 = true) ∧ r.length < 1000
inductive MachD : D → D → Bool → Prop
  | norow {rows ends : D} (h : rows = .non ∨ ∃ ds, rows = .lst ds) : MachD rows ends false
  | noend {rs : List (List (Key × V))} (h : RowsOk rs) : MachD (.tup (rs.map rowV)) .non false
  | ok {rs : List (List (Key × V))} {es : List V} (h : RowsOk rs) (h2 : ∀ x ∈ es, scalV x = true) (h3 : es.length < 1000) : MachD (.tup (rs.map rowV)) (.tup (es.map .v)) (isMach rs es)
def spMach : Prm := fun ds L KK KE => ∃ rows ends b, ds = [rows, ends] ∧ L = [] ∧ MachD rows ends b ∧ KK (.bl b) []
theorem risesI_zip : ∀ l : List Int, risesI l = (l.zip (l.drop 1)).all fun p => decide (p.1 < p.2)
  | [] => rfl
  | [_] => rfl
  | a :: b :: r => by
    show (decide (a < b) && risesI (b :: r)) = _
    rw [risesI_zip (b :: r)]
    rfl
theorem zipD_zip (l m : List D) : zipD l m = (l.zip m).map fun p => .tup [p.1, p.2] := by
  unfold zipD
  rw [List.zip, List.map_zipWith]
theorem ok_machine {f : Addr} {fd : FuncData} (FF : Fun K "is_machine" "is_machine" s_is_machine f fd) (B : Bi mg) (g1 : Glob P w K mg base "is_row" ["thing", "many"] spRow 2) (g2 : Glob P w K mg base "is_whole" ["thing", "least", "most"] spWhole 1) : Def P w K mg base 3 f fd ["rows", "ends"] spMach := by
  refine def_ok FF sc_is_machine ?_ ?_
  · rintro ds L KK KE ⟨x, m, b, rfl, _⟩
    rfl
  · rintro ds L KK KE ⟨rows, ends, b, rfl, rfl, hm, hk⟩ H0 F0
    wtm_at "bg"
    cases hm with
    | norow h =>
      rcases h with rfl | ⟨ds, rfl⟩
      all_goals wtm_at "go"
    | @noend rs h =>
      wtm_at "go"
      · refine ev_lc [("row", 2)] rfl (by kernel_rfl) (ei_tup ?_)
        wtm_at "ev"
        refine ⟨_, rfl, ?_⟩
        refine lc_all rs rowV (fun r => .bl (isRow r rs.length)) rfl (sz_lt (by have := h.1; omega)) (by intro s hs; cases hs) ?_ ?_
        · intro F1 Dl r acc hr
          refine tn_name (i := 2) (by wtm_at "loc") rfl (List.mem_singleton.mpr rfl) ?_
          wtm_at "wz"
          wtm_at "go"
          refine calls0 ⟨_, _, rfl, (h.2 r hr).1, (h.2 r hr).2, rfl, ?_, List.Sublist.refl _⟩
          rw [List.length_map]
        · intro Dl
          wtm_at "go"
    | @ok rs es h h2 h3 =>
      wtm_at "go"
      · refine ev_lc [("row", 2)] rfl (by kernel_rfl) (ei_tup ?_)
        wtm_at "ev"
        refine ⟨_, rfl, ?_⟩
        refine lc_all rs rowV (fun r => .bl (isRow r rs.length)) rfl (sz_lt (by have := h.1; omega)) (by intro s hs; cases hs) ?_ ?_
        · intro F1 Dl r acc hr
          refine tn_name (i := 2) (by wtm_at "loc") rfl (List.mem_singleton.mpr rfl) ?_
          wtm_at "wz"
          wtm_at "go"
          refine calls0 ⟨_, _, rfl, (h.2 r hr).1, (h.2 r hr).2, rfl, ?_, List.Sublist.refl _⟩
          rw [List.length_map]
        · intro Dl
          wtm_at "go"
          · rename_i q
            have e : isMach rs es = false := by
              have q' : rs.all (fun r => isRow r rs.length) = false := by simpa using q
              unfold isMach
              rw [q']
              simp
            rw [← e]; exact hk
          · refine ev_lc [("end", 3)] rfl (by kernel_rfl) (ei_tup ?_)
            wtm_at "ev"
            refine ⟨_, rfl, ?_⟩
            refine lc_all es D.v (fun x => .bl (isWhole x 0 (rs.length - 1))) rfl (sz_lt (by omega)) (by intro s hs; cases hs) ?_ ?_
            · intro F1 Dl x acc hx
              refine tn_name (i := 3) (by wtm_at "loc") rfl (List.mem_singleton.mpr rfl) ?_
              wtm_at "wz"
              wtm_at "go"
              refine calls0 ⟨_, _, _, rfl, h2 x hx, rfl, ?_, List.Sublist.refl _⟩
              rw [List.length_map]
            · intro Dl
              wtm_at "go"
              · rename_i q
                have e : isMach rs es = false := by
                  have q' : es.all (fun x => isWhole x 0 (rs.length - 1)) = false := by simpa using q
                  unfold isMach
                  rw [q']
                  simp
                rw [← e]; exact hk
              · rename_i q0 q1 q2 q3
                obtain ⟨ns, rfl⟩ : ∃ ns : List Int, es = ns.map V.int := by
                  have q' : es.all (fun x => isWhole x 0 (rs.length - 1)) = true := by simpa using q3
                  refine ⟨es.map natV, ?_⟩
                  rw [List.map_map]
                  refine (List.map_id _).symm.trans (List.map_congr_left fun x hx => ?_)
                  have := List.all_eq_true.mp q' x hx
                  cases x with
                  | int i => rfl
                  | _ => cases this
                refine ev_lc [("one", 4), ("other", 5)] rfl (by kernel_rfl) (ei_zip (by wtm_at "gl") (by wtm_at "bi") ?_)
                wtm_at "ev"
                wtm_at "ev"
                wtm_at "ev"
                refine ev_int ⟨_, rfl, ?_⟩
                refine sl_T (.inr ⟨_, _, rfl, rfl, ?_⟩)
                have e1 : cutD ((ns.map V.int).map D.v) (some 1) none = ((ns.drop 1).map D.int) := by
                  rw [show ((1 : Int)) = ((1 : Nat) : Int) from rfl, cut_from, List.map_map, ← List.map_drop]
                  rfl
                rw [e1, List.map_map]
                refine lc_all (ns.zip (ns.drop 1)) (fun p => .tup [.int p.1, .int p.2]) (fun p => .bl (decide (p.1 < p.2))) (zipD_map ns (ns.drop 1) D.int D.int) (sz_lt ?_) (by intro s hs; cases hs) ?_ ?_
                · rw [List.length_zip]
                  rw [List.length_map] at h3
                  omega
                · intro F1 Dl x acc hx
                  refine tn_two (i := 4) (j := 5) rfl (by wtm_at "loc") rfl (List.mem_cons_self) (by wtm_at "loc") rfl (List.mem_cons_of_mem _ List.mem_cons_self) ?_
                  wtm_at "wz"
                  wtm_at "go"
                · intro Dl
                  wtm_at "go"
                  have e : isMach rs (ns.map V.int) = (ns.zip (ns.drop 1)).all fun p => decide (p.1 < p.2) := by
                    have q2' : rs.all (fun r => isRow r rs.length) = true := by simpa using q2
                    have q3' : (ns.map V.int).all (fun x => isWhole x 0 (rs.length - 1)) = true := by simpa using q3
                    have q0' : (!rs.isEmpty) = true := by simpa using q0
                    have e2 : (ns.map V.int).map natV = ns := by
                      rw [List.map_map]
                      exact List.map_id _
                    unfold isMach
                    rw [q2', q3', q0', e2, risesI_zip]
                    rfl
                  rw [← e]; exact hk
      · rename_i q
        have e : isMach rs es = false := by
          have q' : rs.isEmpty = true := by simpa using q
          unfold isMach
          rw [q']
          simp
        rw [← e]; exact hk
end
end Rk10

open PySem L2 TL
namespace Rk10
section
variable {P : Program} {w : World} {K : PySem.W.Frag} {mg : Str → Option Value} {base : Heap}
def letK : List Key := [Sum.inr "a", Sum.inr "b", Sum.inr "c"]
def normRow (kvs : List (Key × V)) : List (Key × V) := (letK.filter fun l => (valV kvs l).isSome).map fun l => (l, (valV kvs l).getD .non)
def rdrD (Cr : Addr) (rs : List (List (Key × V))) (es : List V) : D := .ob Cr [("table", .tup (rs.map fun r => rowV (normRow r))), ("last", .tup (es.map .v))]
/-- rows a tuple or a list of dicts, ends a tuple -/
def spRInit (Cr : Addr) : Prm := fun ds L KK KE => ∃ (l : Addr) (rows : D) (rs : List (List (Key × V))) (es : List V), ds = [.ref l, rows, .tup (es.map .v)] ∧ (rows = .tup (rs.map rowV) ∨ rows = .lst (rs.map rowV)) ∧ rs.length < 1000 ∧ L = [(l, .ins Cr [])] ∧
  KK .non [(l, .ins Cr [("table", .tup (rs.map fun r => rowV (normRow r))), ("last", .tup (es.map .v))])]
theorem norm_disp (r : List (Key × V)) : dispE ((letK.filter fun l => (valV r l).isSome).map fun l => (l, D.v ((valV r l).getD .non))) = (normRow r).map fun kv => (kv.1, D.v kv.2) := by
  have nd : letK.Nodup := by decide +kernel
  rw [dispE_nodup]
  · unfold normRow
    rw [List.map_map]
    rfl
  · rw [List.map_map]
    refine (List.Nodup.sublist ?_ nd)
    have : (List.filter (fun l => (valV r l).isSome) letK).map ((fun x : Key × D => x.1) ∘ fun l => (l, D.v ((valV r l).getD V.non))) = List.filter (fun l => (valV r l).isSome) letK := List.map_id _
    rw [this]
    exact List.filter_sublist
theorem ok_reader_init {f Cr : Addr} {fd : FuncData} (FF : Fun K "__init__" "Reader.__init__" s_Reader_init f fd) (B : Bi mg) (gL : GTup K mg "LETTERS" letV) (c : Cls K Cr) (n1 : NoAttr K Cr "table") (n2 : NoAttr K Cr "last") : Def P w K mg base 1 f fd ["self", "rows", "ends"] (spRInit Cr) := by
  refine def_ok FF sc_Reader_init ?_ ?_
  · rintro ds L KK KE ⟨l, rows, rs, es, rfl, _⟩
    rfl
  · rintro ds L KK KE ⟨l, rows, rs, es, rfl, hr, hlen, rfl, hk⟩ H0 F0
    wtm_at "bg"
    rcases hr with rfl | rfl
    · refine run_fld c n1 ?_
      wtm_at "go"
      refine ev_lc [("row", 4)] rfl (by kernel_rfl) (ei_tup ?_)
      wtm_at "ev"
      refine ⟨_, rfl, ?_⟩
      refine lc_all rs rowV (fun r => rowV (normRow r)) rfl (sz_lt (by omega)) (by intro s hs; cases hs) ?_ ?_
      · intro F1 Dl r acc hr
        refine tn_name (i := 4) (by wtm_at "loc") rfl (List.mem_singleton.mpr rfl) ?_
        wtm_at "wz"
        refine ev_frz (ev_dc [("letter", 3)] rfl (by kernel_rfl) (ei_tup ?_))
        wtm_at "ev"
        refine ⟨_, rfl, ?_⟩
        refine dc_map letK (fun k => .v (kV k)) (fun k => (k, .v ((valV r k).getD .non))) (fun k => (valV r k).isSome) rfl (by decide +kernel) (by intro s hs; cases hs) ?_ ?_
        · intro F2 Dm k acc2 hk2
          refine tn_name (i := 3) (by wtm_at "loc") rfl (List.mem_singleton.mpr rfl) ?_
          wtm_at "wz"
          show TL.Tst _ _ _ _ _
          wtm_at "go"
          refine op_inK rfl .frz ⟨_, rfl, by rw [valD_map]; cases valV r k <;> rfl, List.Sublist.refl _, fun hs => ?_⟩
          obtain ⟨v, hv⟩ := Option.isSome_iff_exists.mp hs
          wtm_at "go"
          exact ix_K rfl .frz (by rw [valD_map, hv]; rfl) ⟨rfl, by rw [hv]; rfl, List.Sublist.refl _⟩
        · intro Dm
          refine ⟨_, _, _, rfl, .here, ?_, List.Sublist.refl _⟩
          show D.dK (dispE _) = D.dK _
          rw [norm_disp]
      · intro Dl
        wtm_at "go"
        refine ⟨_, _, _, rfl, .there .here, by simp [putD], ?_⟩
        refine run_fld c n2 ?_
        wtm_at "go"
        refine ⟨_, _, _, rfl, .there .here, by simp [putD], ?_⟩
        refine run_drop (List.sublist_cons_self _ _) ?_
        wtm_at "go"
    · refine run_fld c n1 ?_
      wtm_at "go"
      refine ev_lc [("row", 4)] rfl (by kernel_rfl) (ei_lst ?_)
      wtm_at "ev"
      refine ⟨_, .frz, ?_⟩
      refine lc_all rs rowV (fun r => rowV (normRow r)) rfl (sz_lt (by omega)) (by intro s hs; cases hs) ?_ ?_
      · intro F1 Dl r acc hr
        refine tn_name (i := 4) (by wtm_at "loc") rfl (List.mem_singleton.mpr rfl) ?_
        wtm_at "wz"
        refine ev_frz (ev_dc [("letter", 3)] rfl (by kernel_rfl) (ei_tup ?_))
        wtm_at "ev"
        refine ⟨_, rfl, ?_⟩
        refine dc_map letK (fun k => .v (kV k)) (fun k => (k, .v ((valV r k).getD .non))) (fun k => (valV r k).isSome) rfl (by decide +kernel) (by intro s hs; cases hs) ?_ ?_
        · intro F2 Dm k acc2 hk2
          refine tn_name (i := 3) (by wtm_at "loc") rfl (List.mem_singleton.mpr rfl) ?_
          wtm_at "wz"
          show TL.Tst _ _ _ _ _
          wtm_at "go"
          refine op_inK rfl .frz ⟨_, rfl, by rw [valD_map]; cases valV r k <;> rfl, List.Sublist.refl _, fun hs => ?_⟩
          obtain ⟨v, hv⟩ := Option.isSome_iff_exists.mp hs
          wtm_at "go"
          exact ix_K rfl .frz (by rw [valD_map, hv]; rfl) ⟨rfl, by rw [hv]; rfl, List.Sublist.refl _⟩
        · intro Dm
          refine ⟨_, _, _, rfl, .here, ?_, List.Sublist.refl _⟩
          show D.dK (dispE _) = D.dK _
          rw [norm_disp]
      · intro Dl
        wtm_at "go"
        refine ⟨_, _, _, rfl, .there .here, by simp [putD], ?_⟩
        refine run_fld c n2 ?_
        wtm_at "go"
        refine ⟨_, _, _, rfl, .there .here, by simp [putD], ?_⟩
        refine run_drop (List.sublist_cons_self _ _) ?_
        wtm_at "go"
end
end Rk10

open PySem L2 TL
namespace Rk10
section
variable {P : Program} {w : World} {K : PySem.W.Frag} {mg : Str → Option Value} {base : Heap}
def spMInit (Cm Cr CB : Addr) : Prm := fun ds L KK KE => ∃ (l : Addr) (rows ends : D), ds = [.ref l, rows, ends] ∧ L = [(l, .ins Cm [])] ∧
  ((∃ fs, rows = .ob Cr fs ∧ KK .non [(l, .ins Cm [("inner", rows)])]) ∨
    (∃ (rs : List (List (Key × V))) (es : List V), rows = .tup (rs.map rowV) ∧ ends = .tup (es.map D.v) ∧ RowsOk rs ∧ (∀ x ∈ es, scalV x = true) ∧ es.length < 1000 ∧ isMach rs es = true ∧ rs.length ≤ 6 ∧ KK .non [(l, .ins Cm [("inner", rdrD Cr rs es)])]) ∨
    (∃ b, MachD rows ends b ∧ (b = false ∨ ∃ rs : List (List (Key × V)), rows = .tup (rs.map rowV) ∧ 6 < rs.length) ∧ KE (.own CB) []))
theorem ok_machine_init {f Cm Cr CB : Addr} {fd : FuncData} (FF : Fun K "__init__" "Machine.__init__" s_Machine_init f fd) (B : Bi mg) (gR : GVal mg "Reader" (.ref Cr)) (gM : GVal mg "MOST_ROWS" (.int 6)) (c : Cls K Cm) (n1 : NoAttr K Cm "inner")
    (k1 : PySem.W.kitOne K (.type "tuple") (.ref Cr) = some false) (k2 : PySem.W.kitOne K (.type "NoneType") (.ref Cr) = some false) (k3 : PySem.W.kitOne K (.type "list") (.ref Cr) = some false) (k4 : PySem.W.kitOne K (.ref Cr) (.ref Cr) = some true) (ci : ClsI K Cr)
    (eB : ExcC K mg "BadMachine" CB) (g1 : Glob P w K mg base "is_machine" ["rows", "ends"] spMach 3) (g2 : Cla P w K mg base "Reader" Cr ["self", "rows", "ends"] (spRInit Cr) 1) : Def P w K mg base 4 f fd ["self", "rows", "ends"] (spMInit Cm Cr CB) := by
  refine def_ok FF sc_Machine_init ?_ ?_
  · rintro ds L KK KE ⟨l, rows, ends, rfl, _⟩
    rfl
  · rintro ds L KK KE ⟨l, rows, ends, rfl, rfl, hd⟩ H0 F0
    wtm_at "bg"
    rcases hd with ⟨fs, rfl, hk⟩ | ⟨rs, es, rfl, rfl, h1, h2, h3, h4, h5, hk⟩ | ⟨b, hm, hb, hk⟩
    · wtm_at "gk"
      refine run_fld c n1 ?_
      wtm_at "gk"
      refine ⟨_, _, _, rfl, .here, by simp [putD], ?_⟩
      wtm_at "gk"
    · wtm_at "gk"
      refine calls0 ⟨_, _, _, rfl, rfl, .ok h1 h2 h3, ?_⟩
      rw [h4]
      wtm_at "gk"
      · rename_i hb
        have hb' := of_decide_eq_true hb
        rw [List.length_map] at hb'
        omega
      · refine run_fld c n1 ?_
        refine ev_frz ?_
        wtm_at "gk"
        intro l2
        refine ⟨[(l2, .ins Cr [])], [(l, .ins Cm [])], List.Perm.refl _, _, fun _ => List.Perm.refl _, l2, _, rs, es, rfl, .inl rfl, (by omega), rfl, ?_⟩
        refine ⟨rfl, _, _, _, rfl, .here, ?_⟩
        wtm_at "gk"
        refine ⟨_, _, _, rfl, .here, by simp [putD], ?_⟩
        wtm_at "gk"
    · cases hm with
      | norow h =>
        rcases h with rfl | ⟨ds, rfl⟩
        all_goals
          wtm_at "gk"
          refine calls0 ⟨_, _, _, rfl, rfl, .norow ?_, ?_⟩
          · first | exact .inl rfl | exact .inr ⟨_, rfl⟩
          refine ⟨_, tr_bl, ?_⟩
          wtm_at "gk"
      | noend h =>
        wtm_at "gk"
        refine calls0 ⟨_, _, _, rfl, rfl, .noend h, ?_⟩
        wtm_at "gk"
      | @ok rs es h h2 h3 =>
        wtm_at "gk"
        refine calls0 ⟨_, _, _, rfl, rfl, .ok h h2 h3, ?_⟩
        wtm_at "gk"
        rename_i q1 q2
        exfalso
        have q2' := of_decide_eq_false q2
        rw [List.length_map] at q2'
        rcases hb with hb | ⟨rs', e, hb⟩
        · rw [hb] at q1; cases q1
        · have e2 : rs.length = rs'.length := by
            have := congrArg (fun d => match d with | D.tup ds => ds.length | _ => 0) e
            simpa using this
          omega
end
end Rk10

open PySem L2 TL
namespace Rk10
section
variable {P : Program} {w : World} {K : PySem.W.Frag} {mg : Str → Option Value} {base : Heap}
def cellD (ns : List Int) (pos w s : Int) : List D := [.lst (ns.map D.int), .int pos, .int w, .int s]
def spBegin : Prm := fun ds L KK KE => ∃ ns : List Int, ds = [.sq (ns.map D.int)] ∧ ns.length ≤ 63 ∧ L = [] ∧ ∀ p, KK (.ref p) [(p, .lst (cellD ns 0 0 7))]
def spDraw : Prm := fun ds L KK KE => ∃ (p : Addr) (ns : List Int) (pos w s size : Int), ds = [.ref p, .int size] ∧ L = [(p, .lst (cellD ns pos w s))] ∧ 0 ≤ pos ∧ 0 ≤ w ∧ 0 < size ∧ size < 1000 ∧
  ∀ r pos' w' s', 0 ≤ r → r < size → 0 ≤ pos' → 0 ≤ w' → KK (.int r) [(p, .lst (cellD ns pos' w' s'))]
theorem ok_begin {f : Addr} {fd : FuncData} (FF : Fun K "_law_begin" "_law_begin" s__law_begin f fd) (B : Bi mg) : Def P w K mg base 1 f fd ["_law_script"] spBegin := by
  refine def_ok FF sc__law_begin ?_ ?_
  · rintro ds L KK KE ⟨ns, rfl, _⟩
    rfl
  · rintro ds L KK KE ⟨ns, rfl, hn, rfl, hk⟩ H0 F0
    wtm_at "bg"
    refine run_ret (ev_lst (ea_cons (ev_frz (ev_blty (by wtm_at "gl") (by wtm_at "bi") (by wtm_at "bty") ?_))))
    wtm_at "go"
    refine cv_listQ fun p => ⟨_, _, _, rfl, .here, ?_⟩
    wtm_at "go"
    exact (by decide +kernel : 4 ≤ sizeLine)
def DrawQ (p : Addr) (ns : List Int) (size : Int) (G' : List (Option D)) (L' : Led) : Prop := ∃ (a b : Option D) (pos wv s : Int), 0 ≤ pos ∧ 0 ≤ wv ∧ G' = [some (.ref p), some (.int size), a, b] ∧ L' = [(p, .lst (cellD ns pos wv s))]
theorem ok_draw {f : Addr} {fd : FuncData} (FF : Fun K "_law_draw" "_law_draw" s__law_draw f fd) (B : Bi mg) : Def P w K mg base 1 f fd ["_law_draws", "_law_size"] spDraw := by
  refine def_ok FF sc__law_draw ?_ ?_
  · rintro ds L KK KE ⟨p, ns, pos, w, s, size, rfl, _⟩
    rfl
  · rintro ds L KK KE ⟨p, ns, pos, wv, s, size, rfl, rfl, hp, hw, hs, hs2, hk⟩ H0 F0
    wtm_at "bg"
    have IX : ∀ {M : Mode} {G : List (Option D)} {K2 : D → Led → Prop} (ns : List Int) (pos wv s : Int) (j : Nat) {d : D}, (cellD ns pos wv s)[j]? = some d → K2 d [(p, .lst (cellD ns pos wv s))] → IxV M G [(p, .lst (cellD ns pos wv s))] (.ref p) (.int j) K2 := fun ns pos wv s j d h1 h2 => ix_L (.own (.head _)) (at_nat rfl h1) h2
    have tail : ∀ (a b : Option D) (pos wv s : Int), 0 ≤ pos → 0 ≤ wv → Run ⟨ctxOf P w K mg base ["_law_draws", "_law_size", "_law_cell", "_law_found"] s__law_draw 0, H0, F0, fun ex _ L' => KE ex L'⟩ [some (.ref p), some (.int size), a, b] [(p, .lst (cellD ns pos wv s))] ((defBody s__law_draw).drop 1) ⟨fun _ L' => KK .non L', KK, fun _ _ => False, fun _ _ => False⟩ := by
      intro a b pos wv s hp hw
      wtm_at "gk"
      refine IX ns pos wv s 2 rfl ?_
      wtm_at "gk"
      · rename_i q
        have q' : 0 < wv := of_decide_eq_true q
        refine IX ns pos wv s 2 rfl ?_
        wtm_at "gk"
        refine op_modI hs ?_
        refine ⟨_, by wtm_at "pt", ?_⟩
        refine run_asg ?_
        wtm_at "gk"
        refine IX ns pos wv s 2 rfl ?_
        wtm_at "gk"
        refine op_fdivI ⟨hs, by omega⟩ ?_
        refine tgt_sub ?_
        wtm_at "gk"
        refine ⟨p, _, _, 2, _, rfl, rfl, rfl, .here, ?_⟩
        wtm_at "gk"
        exact hk _ pos (wv / size) s (Int.emod_nonneg _ (by omega)) (Int.emod_lt_of_pos _ hs) hp (Int.ediv_nonneg hw (by omega))
      · refine IX ns pos wv s 3 rfl ?_
        wtm_at "gk"
        refine op_mulI (.inr ⟨by decide, by decide⟩) ?_
        wtm_at "gk"
        refine op_modI (by decide) ?_
        wtm_at "gk"
        refine op_modI hs ?_
        exact hk _ pos wv s (Int.emod_nonneg _ (by omega)) (Int.emod_lt_of_pos _ hs) hp hw
    refine run_ifQ (DrawQ p ns size) ?_ (fun G' L' ⟨a, b, pos, wv, s, h1, h2, e1, e2⟩ => by rw [e1, e2]; exact tail a b pos wv s h1 h2)
    wtm_at "gk"
    refine IX ns pos wv s 2 rfl ?_
    wtm_at "gk"
    · refine IX ns pos wv s 1 rfl ?_
      wtm_at "gk"
      refine IX ns pos wv s 0 rfl ?_
      wtm_at "gk"
      · rename_i q1 q2
        have q2' := of_decide_eq_true q2
        rw [List.length_map] at q2'
        obtain ⟨c, hc⟩ : ∃ c, ns[pos.toNat]? = some c := ⟨ns[pos.toNat]'(by omega), List.getElem?_eq_getElem (by omega)⟩
        refine IX ns pos wv s 0 rfl ?_
        wtm_at "gk"
        refine IX ns pos wv s 1 rfl ?_
        refine ix_L .frz (at_nat (j := pos.toNat) (by omega) (by rw [List.getElem?_map, hc]; rfl)) ?_
        refine ⟨_, by wtm_at "pt", ?_⟩
        refine run_asg ?_
        wtm_at "gk"
        refine IX ns pos wv s 1 rfl ?_
        wtm_at "gk"
        refine tgt_sub ?_
        wtm_at "gk"
        refine ⟨p, _, _, 1, _, rfl, rfl, rfl, .here, ?_⟩
        show TL.Run _ _ [(p, .lst (cellD ns (pos + 1) wv s))] _ _
        wtm_at "gk"
        refine op_powI ⟨by decide, by decide, by decide⟩ ?_
        wtm_at "gk"
        · rename_i q3
          have q3' : (10 : Int) ^ (18 : Int).toNat ≤ c := of_decide_eq_true q3
          have q4 : (0 : Int) ≤ c := Int.le_trans (by decide) q3'
          refine run_asg ?_
          wtm_at "gk"
          refine tgt_sub ?_
          wtm_at "gk"
          refine ⟨p, _, _, 2, _, rfl, rfl, rfl, .here, ?_⟩
          wtm_at "gk"
          exact ⟨_, _, pos + 1, c, s, by omega, q4, rfl, rfl⟩
        · refine run_asg ?_
          wtm_at "gk"
          refine IX ns (pos + 1) wv s 3 rfl ?_
          wtm_at "gk"
          refine op_mulI (.inr ⟨by decide, by decide⟩) ?_
          wtm_at "gk"
          refine op_mulI (.inr ⟨by decide, by decide⟩) ?_
          wtm_at "gk"
          refine op_modI (by decide) ?_
          refine tgt_sub ?_
          wtm_at "gk"
          refine ⟨p, _, _, 3, _, rfl, rfl, rfl, .here, ?_⟩
          wtm_at "gk"
          exact ⟨_, _, pos + 1, wv, _, by omega, hw, rfl, rfl⟩
      · refine run_asg ?_
        wtm_at "gk"
        refine IX ns pos wv s 3 rfl ?_
        wtm_at "gk"
        refine op_mulI (.inr ⟨by decide, by decide⟩) ?_
        wtm_at "gk"
        refine op_modI (by decide) ?_
        refine tgt_sub ?_
        wtm_at "gk"
        refine ⟨p, _, _, 3, _, rfl, rfl, rfl, .here, ?_⟩
        wtm_at "gk"
        exact ⟨_, _, pos, wv, _, hp, hw, rfl, rfl⟩
    · exact ⟨_, _, pos, wv, s, hp, hw, rfl, rfl⟩
end
end Rk10

open PySem L2 TL
namespace Rk10
section
variable {P : Program} {w : World} {K : PySem.W.Frag} {mg : Str → Option Value} {base : Heap}
/-! machines, typed -/
def letS : Nat → Str
  | 0 => "a"
  | 1 => "b"
  | _ => "c"
abbrev lkey (l : Nat) : Key := Sum.inr (letS l)
abbrev Row := List (Option Nat)
def rowKf : Nat → Row → List (Key × V)
  | _, [] => []
  | i, some x :: r => (lkey i, .int (x : Nat)) :: rowKf (i + 1) r
  | i, none :: r => rowKf (i + 1) r
abbrev rowK (r : Row) : List (Key × V) := rowKf 0 r
structure Mac where
  tab : List Row
  last : List Nat
structure Mac.Ok (m : Mac) : Prop where
  pos : 0 < m.tab.length
  len : ∀ r ∈ m.tab, r.length ≤ 3
  lt : ∀ r ∈ m.tab, ∀ x, some x ∈ r → x < m.tab.length
  ends : ∀ e ∈ m.last, e < m.tab.length
  up : m.last.Pairwise (· < ·)
abbrev nV (n : Nat) : V := .int (n : Nat)
abbrev nD (n : Nat) : D := .v (nV n)
abbrev rowD (r : Row) : D := rowV (rowK r)
abbrev macR (Cr : Addr) (m : Mac) : D := .ob Cr [("table", .tup (m.tab.map rowD)), ("last", .tup (m.last.map nD))]
abbrev macD (Cm Cr : Addr) (m : Mac) : D := .ob Cm [("inner", macR Cr m)]
theorem rowKf_app : ∀ (r s : Row) (i : Nat), rowKf i (r ++ s) = rowKf i r ++ rowKf (i + r.length) s
  | [], s, i => rfl
  | some x :: r, s, i => by
    show (lkey i, _) :: rowKf (i + 1) (r ++ s) = (lkey i, _) :: rowKf (i + 1) r ++ _
    rw [rowKf_app r s (i + 1), List.length_cons, Nat.add_right_comm, Nat.add_assoc]
    rfl
  | none :: r, s, i => by
    show rowKf (i + 1) (r ++ s) = rowKf (i + 1) r ++ _
    rw [rowKf_app r s (i + 1), List.length_cons, Nat.add_right_comm, Nat.add_assoc]
/-- rows of at most three cells, one by one -/
theorem row_cases {P : Row → Prop} (h0 : P []) (h1 : ∀ a, P [a]) (h2 : ∀ a b, P [a, b]) (h3 : ∀ a b c, P [a, b, c]) {r : Row} (hl : r.length ≤ 3) : P r := by
  match r, hl with
  | [], _ => exact h0
  | [a], _ => exact h1 a
  | [a, b], _ => exact h2 a b
  | [a, b, c], _ => exact h3 a b c
  | _ :: _ :: _ :: _ :: _, h => simp at h
theorem lkey_dec : ∀ i j : Fin 3, decide (lkey i.val = lkey j.val) = decide (i.val = j.val) := by decide +kernel
theorem valV_cons (k k' : Key) (v : V) (l : List (Key × V)) : valV ((k', v) :: l) k = if decide (k' = k) = true then some v else valV l k := by
  unfold valV
  rw [List.find?_cons]
  cases decide (k' = k) <;> rfl
theorem valV_row {r : Row} (hl : r.length ≤ 3) {l : Nat} (h : l < 3) : valV (rowK r) (lkey l) = (r.getD l none).map nV := by
  have d := fun (i : Nat) (hi : i < 3) => lkey_dec ⟨i, hi⟩ ⟨l, h⟩
  have d0 := d 0 (by decide); have d1 := d 1 (by decide); have d2 := d 2 (by decide)
  simp only at d0 d1 d2
  have e : l = 0 ∨ l = 1 ∨ l = 2 := by omega
  refine row_cases (P := fun r => valV (rowK r) (lkey l) = (r.getD l none).map nV) ?_ ?_ ?_ ?_ hl
  · rfl
  · rintro (_ | a) <;> simp only [rowK, rowKf, valV_cons, d0] <;> rcases e with rfl | rfl | rfl <;> rfl
  · rintro (_ | a) (_ | b) <;> simp only [rowK, rowKf, valV_cons, d0, d1] <;> rcases e with rfl | rfl | rfl <;> rfl
  · rintro (_ | a) (_ | b) (_ | c) <;> simp only [rowK, rowKf, valV_cons, d0, d1, d2] <;> rcases e with rfl | rfl | rfl <;> rfl
theorem letK_eq : letK = [lkey 0, lkey 1, lkey 2] := rfl
theorem norm_row {r : Row} (hl : r.length ≤ 3) : normRow (rowK r) = rowK r := by
  refine row_cases (P := fun r => normRow (rowK r) = rowK r) ?_ ?_ ?_ ?_ hl
  · kernel_rfl
  · rintro (_ | a) <;> kernel_rfl
  · rintro (_ | a) (_ | b) <;> kernel_rfl
  · rintro (_ | a) (_ | b) (_ | c) <;> kernel_rfl
def rowLt (r : Row) (n : Nat) : Bool := r.all fun o => match o with | some x => decide (x < n) | none => true
theorem isLetter_l : isLetter (kV (lkey 0)) = true ∧ isLetter (kV (lkey 1)) = true ∧ isLetter (kV (lkey 2)) = true := by decide +kernel
theorem isWhole_n (x n : Nat) : isWhole (.int (x : Nat)) 0 ((n : Int) - 1) = decide (x < n) := by
  show (decide ((0 : Int) ≤ (x : Nat)) && decide (((x : Nat) : Int) ≤ (n : Int) - 1)) = _
  rw [decide_eq_true (show (0 : Int) ≤ (x : Nat) by omega), Bool.true_and]
  exact decide_eq_decide.mpr (by omega)
theorem lk_decs : (decide (lkey 0 = lkey 0) = true ∧ decide (lkey 0 = lkey 1) = false ∧ decide (lkey 0 = lkey 2) = false) ∧ (decide (lkey 1 = lkey 0) = false ∧ decide (lkey 1 = lkey 1) = true ∧ decide (lkey 1 = lkey 2) = false) ∧
    (decide (lkey 2 = lkey 0) = false ∧ decide (lkey 2 = lkey 1) = false ∧ decide (lkey 2 = lkey 2) = true) := by decide +kernel
theorem isRow_row {r : Row} (hl : r.length ≤ 3) (n : Nat) : isRow (rowK r) n = rowLt r n := by
  obtain ⟨l0, l1, l2⟩ := isLetter_l
  obtain ⟨⟨a0, a1, a2⟩, ⟨b0, b1, b2⟩, c0, c1, c2⟩ := lk_decs
  refine row_cases (P := fun r => isRow (rowK r) n = rowLt r n) ?_ ?_ ?_ ?_ hl
  · rfl
  · rintro (_ | a) <;> simp only [isRow, rowLt, rowK, rowKf, List.all_cons, List.all_nil, valV_cons, a0, a1, a2, b0, b1, b2, c0, c1, c2, l0, l1, l2, Bool.true_and, Bool.and_true, Bool.false_eq_true, ↓reduceIte, Option.getD_some, isWhole_n, decide_true, Nat.reduceAdd, Nat.zero_add]
  · rintro (_ | a) (_ | b) <;> simp only [isRow, rowLt, rowK, rowKf, List.all_cons, List.all_nil, valV_cons, a0, a1, a2, b0, b1, b2, c0, c1, c2, l0, l1, l2, Bool.true_and, Bool.and_true, Bool.false_eq_true, ↓reduceIte, Option.getD_some, isWhole_n, decide_true, Nat.reduceAdd, Nat.zero_add]
  · rintro (_ | a) (_ | b) (_ | c) <;> simp only [isRow, rowLt, rowK, rowKf, List.all_cons, List.all_nil, valV_cons, a0, a1, a2, b0, b1, b2, c0, c1, c2, l0, l1, l2, Bool.true_and, Bool.and_true, Bool.false_eq_true, ↓reduceIte, Option.getD_some, isWhole_n, decide_true, Nat.reduceAdd, Nat.zero_add]
theorem row_scal (r : Row) : ∀ (i : Nat), ∀ kv ∈ rowKf i r, scalV kv.2 = true := by
  induction r with
  | nil => intro i kv h; cases h
  | cons o r ih =>
    intro i kv h
    cases o with
    | none => exact ih (i + 1) kv h
    | some x =>
      rcases List.mem_cons.mp h with rfl | h
      · rfl
      · exact ih (i + 1) kv h
theorem row_len (r : Row) : ∀ i : Nat, (rowKf i r).length ≤ r.length := by
  induction r with
  | nil => intro i; exact Nat.le_refl _
  | cons o r ih =>
    intro i
    have := ih (i + 1)
    cases o with
    | none => exact Nat.le_trans this (Nat.le_succ _)
    | some x => exact Nat.succ_le_succ this
end
end Rk10

open PySem L2 TL
namespace Rk10
section
variable {P : Program} {w : World} {K : PySem.W.Frag} {mg : Str → Option Value} {base : Heap}
/-! Machine's rows and ends, the law's making, the writing -/
def spRows (Cm Cr : Addr) : Prm := fun ds L KK KE => ∃ m : Mac, ds = [macD Cm Cr m] ∧ m.tab.length < 1000 ∧ L = [] ∧ KK (.tup (m.tab.map rowD)) []
theorem ok_rows {f Cm Cr : Addr} {fd : FuncData} (FF : Fun K "rows" "Machine.rows" s_Machine_rows f fd) (B : Bi mg) (cM : Cls K Cm) (cR : Cls K Cr) (nI : NoAttr K Cm "inner") (nT : NoAttr K Cr "table") : Def P w K mg base 1 f fd ["self"] (spRows Cm Cr) := by
  refine def_ok FF sc_Machine_rows ?_ ?_
  · rintro ds L KK KE ⟨m, rfl, _⟩
    rfl
  · rintro ds L KK KE ⟨m, rfl, hl, rfl, hk⟩ H0 F0
    wtm_at "bg"
    wtm_at "go"
    refine ev_lc [("row", 1)] rfl (by kernel_rfl) (ei_tup ?_)
    wtm_at "go"
    refine lc_all m.tab rowD rowD rfl (sz_lt (by omega)) (fun _ h => nomatch h) ?_ ?_
    · intro F1 Dl r acc hr
      refine tn_name (i := 1) (by wtm_at "loc") rfl (List.mem_singleton.mpr rfl) ?_
      wtm_at "wz"
      refine ev_frz ?_
      wtm_at "go"
      exact fun p => ⟨_, _, _, rfl, .here, rfl, List.Sublist.refl _⟩
    · intro Dl
      wtm_at "go"
def spEndsM (Cm Cr : Addr) : Prm := fun ds L KK KE => ∃ m : Mac, ds = [macD Cm Cr m] ∧ L = [] ∧ KK (.tup (m.last.map nD)) []
theorem ok_endsm {f Cm Cr : Addr} {fd : FuncData} (FF : Fun K "ends" "Machine.ends" s_Machine_ends f fd) (B : Bi mg) (cM : Cls K Cm) (cR : Cls K Cr) (nI : NoAttr K Cm "inner") (nL : NoAttr K Cr "last") : Def P w K mg base 1 f fd ["self"] (spEndsM Cm Cr) := by
  refine def_ok FF sc_Machine_ends ?_ ?_
  · rintro ds L KK KE ⟨m, rfl, _⟩
    rfl
  · rintro ds L KK KE ⟨m, rfl, rfl, hk⟩ H0 F0
    wtm_at "bg"
    wtm_at "go"
theorem rises_pw : ∀ l : List Nat, l.Pairwise (· < ·) → risesI (l.map fun n => ((n : Nat) : Int)) = true
  | [], _ => rfl
  | [_], _ => rfl
  | a :: b :: r, h => by
    show (decide (((a : Nat) : Int) < ((b : Nat) : Int)) && risesI ((b :: r).map fun n => ((n : Nat) : Int))) = true
    rw [rises_pw (b :: r) (List.Pairwise.of_cons h), Bool.and_true]
    have := List.rel_of_pairwise_cons h (List.mem_cons_self (a := b))
    exact decide_eq_true (by omega)
theorem ok_isMach {m : Mac} (h : m.Ok) : isMach (m.tab.map rowK) (m.last.map nV) = true := by
  unfold isMach
  simp only [Bool.and_eq_true]
  have hl : (m.tab.map rowK).length = m.tab.length := List.length_map _
  refine ⟨⟨⟨?_, ?_⟩, ?_⟩, ?_⟩
  · cases e : m.tab with
    | nil => have := h.pos; rw [e] at this; cases this
    | cons r rs => rfl
  · rw [hl, List.all_map]
    refine List.all_eq_true.mpr fun r hr => ?_
    show isRow (rowK r) _ = true
    rw [isRow_row (h.len r hr)]
    unfold rowLt
    refine List.all_eq_true.mpr fun o ho => ?_
    cases o with
    | none => rfl
    | some x => exact decide_eq_true (h.lt r hr x ho)
  · rw [hl, List.all_map]
    refine List.all_eq_true.mpr fun e he => ?_
    show isWhole (.int (e : Nat)) 0 ((m.tab.length : Int) - 1) = true
    rw [isWhole_n]
    exact decide_eq_true (h.ends e he)
  · have e : (m.last.map nV).map natV = m.last.map fun n => ((n : Nat) : Int) := by
      rw [List.map_map]
      rfl
    rw [e]
    exact rises_pw _ h.up
theorem ok_rowsOk {m : Mac} (h : m.Ok) (hl : m.tab.length < 1000) : RowsOk (m.tab.map rowK) := by
  refine ⟨by rw [List.length_map]; exact hl, fun r hr => ?_⟩
  obtain ⟨q, hq, rfl⟩ := List.mem_map.mp hr
  have h1 : (rowK q).length ≤ q.length := row_len q 0
  have h2 := h.len q hq
  exact ⟨row_scal q 0, by omega⟩
theorem norm_tab {m : Mac} (h : ∀ r ∈ m.tab, r.length ≤ 3) : (m.tab.map rowK).map (fun r => rowV (normRow r)) = m.tab.map rowD := by
  rw [List.map_map]
  refine List.map_congr_left fun r hr => ?_
  show rowV (normRow (rowK r)) = rowV (rowK r)
  rw [norm_row (h r hr)]
theorem rdr_mac (Cr : Addr) {m : Mac} (h : ∀ r ∈ m.tab, r.length ≤ 3) : rdrD Cr (m.tab.map rowK) (m.last.map nV) = macR Cr m := by
  unfold rdrD
  rw [norm_tab h, List.map_map]
  rfl
theorem last_len {m : Mac} (h : m.Ok) : m.last.length ≤ m.tab.length := by
  have go : ∀ (n : Nat) (l : List Nat) (k : Nat), l.Pairwise (· < ·) → (∀ e ∈ l, k ≤ e ∧ e < k + n) → l.length ≤ n := by
    intro n
    induction n with
    | zero =>
      intro l k _ hb
      cases l with
      | nil => exact Nat.le_refl _
      | cons a r => have := hb a List.mem_cons_self; omega
    | succ n ih =>
      intro l k hp hb
      cases l with
      | nil => exact Nat.zero_le _
      | cons a r =>
        have ha := hb a List.mem_cons_self
        refine Nat.succ_le_succ (ih r (k + 1) (List.Pairwise.of_cons hp) fun e he => ?_)
        have h1 := List.rel_of_pairwise_cons hp he
        have h2 := hb e (List.mem_cons_of_mem _ he)
        omega
  refine go m.tab.length m.last 0 h.up fun e he => ⟨Nat.zero_le _, ?_⟩
  rw [Nat.zero_add]
  exact h.ends e he
/-- Machine(rows, ends) of a typed machine -/
theorem minit_mac {Cm Cr CB l : Addr} {m : Mac} (h : m.Ok) (h6 : m.tab.length ≤ 6) {KK : D → Led → Prop} {KE : EX → Led → Prop} (hk : KK .non [(l, .ins Cm [("inner", macR Cr m)])]) :
    spMInit Cm Cr CB [.ref l, .tup (m.tab.map rowD), .tup (m.last.map nD)] [(l, .ins Cm [])] KK KE := by
  have hl := last_len h
  refine ⟨l, _, _, rfl, rfl, .inr (.inl ⟨m.tab.map rowK, m.last.map nV, by rw [List.map_map]; rfl, by rw [List.map_map]; rfl, ok_rowsOk h (by omega), ?_, by rw [List.length_map]; omega, ok_isMach h, by rw [List.length_map]; exact h6, ?_⟩)⟩
  · intro x hx
    obtain ⟨n, _, rfl⟩ := List.mem_map.mp hx
    rfl
  · rw [rdr_mac Cr h.len]
    exact hk
end
end Rk10

open PySem L2 TL
namespace Rk10
section
variable {P : Program} {w : World} {K : PySem.W.Frag} {mg : Str → Option Value} {base : Heap}
abbrev natS (n : Nat) : Str := (toString ((n : Nat) : Int) : Str)
theorem letS_len (l : Nat) : (letS l).length = 1 := by
  match l with
  | 0 => rfl
  | 1 => rfl
  | n + 2 => rfl
theorem let_range : letV.map D.v = (List.range 3).map fun l => D.str (letS l) := rfl
theorem draw_sp {KK : D → Led → Prop} {KE : EX → Led → Prop} (ns : List Int) (p : Addr) (pos wv s : Int) (size : Int) (h1 : 0 ≤ pos) (h2 : 0 ≤ wv) (h3 : 0 < size) (h4 : size < 1000) (h5 : ∀ r pos' wv' s', 0 ≤ r → r < size → 0 ≤ pos' → 0 ≤ wv' → KK (.int r) [(p, .lst (cellD ns pos' wv' s'))]) :
    spDraw [.ref p, .int size] [(p, .lst (cellD ns pos wv s))] KK KE := ⟨p, ns, pos, wv, s, size, rfl, rfl, h1, h2, h3, h4, h5⟩
end
end Rk10

open PySem L2 TL
namespace Rk10
section
variable {P : Program} {w : World} {K : PySem.W.Frag} {mg : Str → Option Value} {base : Heap}
/-! reading on, the rows that are reached, those that lead to an end -/
abbrev optN (o : Option Nat) : D := match o with
  | none => .non
  | some n => nD n
def beh (m : Mac) (r l : Nat) : Option Nat := (m.tab.getD r []).getD l none
def Len3 (m : Mac) : Prop := ∀ r ∈ m.tab, r.length ≤ 3
def spBehind (Cr : Addr) : Prm := fun ds L KK KE => ∃ (m : Mac) (row : Option Nat) (l : Nat), ds = [macR Cr m, optN row, .str (letS l)] ∧ l < 3 ∧ Len3 m ∧ (∀ r, row = some r → r < m.tab.length) ∧ L = [] ∧ KK (optN (row.bind fun r => beh m r l)) []
theorem ok_behind {f Cr : Addr} {fd : FuncData} (FF : Fun K "behind" "Reader.behind" s_Reader_behind f fd) (B : Bi mg) (cR : Cls K Cr) (nT : NoAttr K Cr "table") : Def P w K mg base 1 f fd ["self", "row", "letter"] (spBehind Cr) := by
  refine def_ok FF sc_Reader_behind ?_ ?_
  · rintro ds L KK KE ⟨m, row, l, rfl, _⟩
    rfl
  · rintro ds L KK KE ⟨m, row, l, rfl, hl, h3, hr, rfl, hk⟩ H0 F0
    wtm_at "bg"
    cases row with
    | none =>
      wtm_at "go"
    | some r =>
      have hrt := hr r rfl
      have hg : m.tab[r]? = some m.tab[r] := List.getElem?_eq_getElem hrt
      refine run_ret0 (ev_if ?_)
      wtm_at "go"
      refine ev_get1 rfl ?_ (fun _ => ⟨rfl, rfl, rfl, rfl⟩)
      wtm_at "go"
      refine ix_T (at_nat (j := r) rfl (by rw [List.getElem?_map, hg]; rfl)) ?_
      refine ⟨_, .frz, ?_⟩
      wtm_at "go"
      refine ⟨lkey l, .frz, rfl, ?_⟩
      have hk' : KK (optN (beh m r l)) [] := hk
      have e : beh m r l = (m.tab[r]).getD l none := by
        have e2 : m.tab.getD r [] = m.tab[r] := by
          rw [List.getD_eq_getElem?_getD, hg]
          rfl
        unfold beh
        rw [e2]
      rw [valD_map, valV_row (h3 _ (List.getElem_mem hrt)) hl, ← e]
      cases h : beh m r l with
      | none => rw [h] at hk'; exact hk'
      | some x => rw [h] at hk'; exact hk'
abbrev WayL := List (Nat × Str)
def wayStep1 (m : Mac) (e : Nat × Str) (f : WayL) (l : Nat) : WayL := match beh m e.1 l with
  | some a => if a ∈ f.map (·.1) then f else f ++ [(a, e.2 ++ letS l)]
  | none => f
def wayStep (m : Mac) (f : WayL) (i : Nat) : WayL := (List.range 3).foldl (wayStep1 m (f.getD i (0, Str.empty))) f
def waysLoop (m : Mac) : Nat → Nat → WayL → WayL
  | 0, _, f => f
  | n + 1, i, f => if i < f.length then waysLoop m n (i + 1) (wayStep m f i) else f
def way0 : WayL := [(0, "")]
def ways (m : Mac) : WayL := waysLoop m (m.tab.length + 1) 0 way0
abbrev wayD (f : WayL) : List (Key × D) := f.map fun e => ((Sum.inl ((e.1 : Nat) : Int) : Key), D.str e.2)
structure WayOk (m : Mac) (f : WayL) : Prop where
  nd : (f.map (·.1)).Nodup
  lt : ∀ e ∈ f, e.1 < m.tab.length
  len : ∀ (i : Nat) (e : Nat × Str), f[i]? = some e → e.2.length ≤ i
theorem nodup_bd : ∀ (n : Nat) (l : List Nat), l.Nodup → (∀ x ∈ l, x < n) → l.length ≤ n
  | 0, l, _, h => by
    cases l with
    | nil => exact Nat.le_refl _
    | cons a r => have := h a List.mem_cons_self; omega
  | n + 1, l, nd, h => by
    have h1 := nodup_bd n (l.erase n) (nd.erase n) fun x hx => by
      have h2 := h x (List.mem_of_mem_erase hx)
      have h3 : x ≠ n := fun e => (nd.not_mem_erase (a := n)) (e ▸ hx)
      omega
    have h4 := List.length_erase (a := n) (l := l)
    split at h4 <;> omega
theorem WayOk.bd {m : Mac} {f : WayL} (h : WayOk m f) : f.length ≤ m.tab.length := by
  have := nodup_bd m.tab.length (f.map (·.1)) h.nd fun x hx => by
    obtain ⟨e, he, rfl⟩ := List.mem_map.mp hx
    exact h.lt e he
  rwa [List.length_map] at this
theorem beh_lt {m : Mac} (h : m.Ok) {r l a : Nat} (e : beh m r l = some a) : a < m.tab.length := by
  unfold beh at e
  by_cases hr : r < m.tab.length
  · have hg : m.tab.getD r [] = m.tab[r] := by rw [List.getD_eq_getElem?_getD, List.getElem?_eq_getElem hr]; rfl
    rw [hg] at e
    exact h.lt _ (List.getElem_mem hr) a (by
      rw [List.getD_eq_getElem?_getD] at e
      cases q : m.tab[r][l]? with
      | none => rw [q] at e; cases e
      | some o =>
        rw [q] at e
        have : o = some a := e
        rw [← this]
        exact List.mem_of_getElem? q)
  · have hg : m.tab.getD r [] = [] := by rw [List.getD_eq_getElem?_getD, List.getElem?_eq_none (by omega)]; rfl
    rw [hg] at e
    simp at e
theorem WayOk.step1 {m : Mac} (h : m.Ok) {f : WayL} (w : WayOk m f) {e : Nat × Str} (he : e.2.length + 1 ≤ f.length) (l : Nat) : WayOk m (wayStep1 m e f l) ∧ f.length ≤ (wayStep1 m e f l).length := by
  unfold wayStep1
  split
  · rename_i a ha
    split
    · exact ⟨w, Nat.le_refl _⟩
    · rename_i hn
      refine ⟨⟨?_, ?_, ?_⟩, by rw [List.length_append]; omega⟩
      · rw [List.map_append]
        refine List.nodup_append.mpr ⟨w.nd, List.nodup_cons.mpr ⟨(fun q => nomatch q), List.nodup_nil⟩, fun x hx y hy => ?_⟩
        rw [List.mem_singleton.mp hy]
        intro q
        have q2 : x = a := q
        exact hn (q2 ▸ hx)
      · intro x hx
        rcases List.mem_append.mp hx with hx | hx
        · exact w.lt x hx
        · rw [List.mem_singleton.mp hx]
          exact beh_lt h ha
      · intro i x hx
        by_cases hi : i < f.length
        · rw [List.getElem?_append_left hi] at hx
          exact w.len i x hx
        · rw [List.getElem?_append_right (by omega)] at hx
          have e0 : i - f.length = 0 := by
            cases q : i - f.length with
            | zero => rfl
            | succ j => rw [q] at hx; simp at hx
          rw [e0] at hx
          cases hx
          rw [app_len]
          have := letS_len l
          omega
  · exact ⟨w, Nat.le_refl _⟩
theorem valD_cons {k k' : Key} {d : D} {l : List (Key × D)} : valD ((k', d) :: l) k = if decide (k' = k) = true then some d else valD l k := by
  unfold valD
  rw [List.find?_cons]
  cases decide (k' = k) <;> rfl
theorem ikey_dec (a b : Nat) : decide ((Sum.inl ((a : Nat) : Int) : Key) = Sum.inl ((b : Nat) : Int)) = decide (a = b) :=
  decide_eq_decide.mpr ⟨fun q => by injection q with q; omega, fun q => by rw [q]⟩
abbrev ikD {α : Type} (g : α → D) (f : List (Nat × α)) : List (Key × D) := f.map fun e => ((Sum.inl ((e.1 : Nat) : Int) : Key), g e.2)
/-- a dict with numbers for keys: what stands at one -/
theorem valD_ik {α : Type} (g : α → D) (f : List (Nat × α)) (a : Nat) : valD (ikD g f) (Sum.inl ((a : Nat) : Int)) = (f.lookup a).map g := by
  induction f with
  | nil => rfl
  | cons x f ih =>
    rw [show ikD g (x :: f) = ((Sum.inl ((x.1 : Nat) : Int) : Key), g x.2) :: ikD g f from rfl, valD_cons, ikey_dec, ih]
    obtain ⟨k, v⟩ := x
    rw [List.lookup_cons]
    by_cases q : k = a
    · subst q; simp
    · have q2 : (a == k) = false := by simpa using fun z => q z.symm
      simp [q, q2]
theorem lookup_none {α : Type} {f : List (Nat × α)} {a : Nat} : f.lookup a = none ↔ a ∉ f.map (·.1) := by
  induction f with
  | nil => simp
  | cons x f ih =>
    obtain ⟨k, v⟩ := x
    rw [List.lookup_cons]
    by_cases q : a = k
    · subst q; simp
    · have q2 : (a == k) = false := by simpa using q
      rw [q2]
      simp [ih, q]
theorem lookup_mem {α : Type} {f : List (Nat × α)} (nd : (f.map (·.1)).Nodup) {e : Nat × α} (he : e ∈ f) : f.lookup e.1 = some e.2 := by
  induction f with
  | nil => cases he
  | cons x f ih =>
    rw [List.map_cons] at nd
    obtain ⟨n1, n2⟩ := List.nodup_cons.mp nd
    obtain ⟨k, v⟩ := x
    rw [List.lookup_cons]
    rcases List.mem_cons.mp he with rfl | he
    · simp
    · have ne : (e.1 == k) = false := by
        have : e.1 ≠ k := fun q => n1 (q ▸ List.mem_map.mpr ⟨e, he, rfl⟩)
        simpa using this
      rw [ne]
      exact ih n2 he
theorem isSome_ik {α : Type} (g : α → D) (f : List (Nat × α)) (a : Nat) : (valD (ikD g f) (Sum.inl ((a : Nat) : Int))).isSome = decide (a ∈ f.map (·.1)) := by
  rw [valD_ik, Option.isSome_map]
  cases e : f.lookup a with
  | none =>
    have := lookup_none.mp e
    simp [this]
  | some v =>
    have h : ¬ a ∉ f.map (·.1) := fun q => by rw [lookup_none.mpr q] at e; cases e
    have h2 : a ∈ f.map (·.1) := Decidable.not_not.mp h
    simp only [h2, decide_true]
    rfl
def spWays (Cr : Addr) : Prm := fun ds L KK KE => ∃ m : Mac, ds = [macR Cr m] ∧ m.Ok ∧ m.tab.length < 1000 ∧ L = [] ∧ KK (.dK (wayD (ways m))) []
theorem ok_ways {f Cr : Addr} {fd : FuncData} (FF : Fun K "ways_of" "ways_of" s_ways_of f fd) (B : Bi mg) (gL : GTup K mg "LETTERS" letV) (cR : Cls K Cr) (m1 : Mth P w K mg base Cr "behind" ["self", "row", "letter"] (spBehind Cr) 1) : Def P w K mg base 2 f fd ["reader"] (spWays Cr) := by
  refine def_ok FF sc_ways_of ?_ ?_
  · rintro ds L KK KE ⟨m, rfl, _⟩
    rfl
  · rintro ds L KK KE ⟨m, rfl, hok, hlt, rfl, hk⟩ H0 F0
    wtm_at "bg"
    refine run_set (by wtm_at "loc") (by wtm_at "mem") (ev_dnew1 fun pf => ?_)
    wtm_at "go"
    refine ⟨Sum.inl 0, rfl, _, rfl, ?_⟩
    refine ⟨_, by wtm_at "pt", ?_⟩
    wtm_at "gn"
    · exact Nat.le_of_ble_eq_true rfl
    intro pw
    refine ⟨_, by wtm_at "pt", ?_⟩
    wtm_at "gn"
    have hpos := hok.pos
    refine run_while rfl (fun n G' L' => ∃ (a b c : Option D) (i : Nat) (fo : WayL), G' = [some (macR Cr m), some (.ref pf), some (.ref pw), some (nD i), a, b, c] ∧ L' = [(pw, .lst ((fo.map (·.1)).map nD)), (pf, .dK (wayD fo))] ∧ WayOk m fo ∧ 0 < fo.length ∧ i ≤ fo.length ∧ n + i = m.tab.length + 1 ∧ waysLoop m n i fo = ways m)
      (m.tab.length + 1) ⟨_, _, _, 0, way0, rfl, rfl, ⟨by decide +kernel, fun e he => ?_, fun i e he => ?_⟩, Nat.zero_lt_one, Nat.zero_le _, rfl, rfl⟩ ?_
    · rw [List.mem_singleton.mp he]
      exact hpos
    · cases i with
      | zero => cases he; exact Nat.le_refl _
      | succ j => simp [way0] at he
    · rintro n G' L' ⟨a, b, c, i, fo, rfl, rfl, wo, hf0, hif, hni, hl⟩
      wtm_at "gn"
      · rename_i q
        have q' : i < fo.length := by
          rw [List.length_map, List.length_map] at q
          have := of_decide_eq_true q
          omega
        have hfi : fo[i]? = some fo[i] := List.getElem?_eq_getElem q'
        generalize he : fo[i] = e at hfi
        have hem := List.mem_of_getElem? hfi
        have hel := wo.lt e hem
        have hec := wo.len i e hfi
        refine ix_L (.own (.head _)) (at_nat (j := i) rfl (by rw [List.getElem?_map, List.getElem?_map, hfi]; rfl)) ?_
        wtm_at "gn"
        refine ip_addI ?_
        refine ⟨_, by wtm_at "pt", ?_⟩
        refine run_for rfl rfl (ei_tup ?_)
        wtm_at "gn"
        have hb := wo.bd
        have step : ∀ l : Nat, l ≤ 3 → WayOk m ((List.range l).foldl (wayStep1 m e) fo) ∧ fo.length ≤ ((List.range l).foldl (wayStep1 m e) fo).length ∧ e ∈ ((List.range l).foldl (wayStep1 m e) fo) := by
          intro l
          induction l with
          | zero => intro _; exact ⟨wo, Nat.le_refl _, hem⟩
          | succ l ih =>
            intro hl3
            obtain ⟨h1, h2, h3⟩ := ih (by omega)
            rw [List.range_succ, List.foldl_append]
            obtain ⟨h4, h5⟩ := h1.step1 hok (e := e) (by omega) l
            refine ⟨h4, Nat.le_trans h2 h5, ?_⟩
            show e ∈ wayStep1 m e _ l
            unfold wayStep1
            split
            · split
              · exact h3
              · exact List.mem_append_left _ h3
            · exact h3
        refine for_map (List.range 3) (fun l => .str (letS l)) let_range (fun l G' L' => ∃ b c : Option D, G' = [some (macR Cr m), some (.ref pf), some (.ref pw), some (nD (i + 1)), some (nD e.1), b, c] ∧
          L' = [(pw, .lst ((((List.range l).foldl (wayStep1 m e) fo).map (·.1)).map nD)), (pf, .dK (wayD ((List.range l).foldl (wayStep1 m e) fo)))]) ⟨_, _, rfl, rfl⟩ (fun _ _ _ _ _ h => (nomatch h)) ?_ ?_
        · rintro F1 l x G' L' hx hlt2 ⟨b, c, rfl, rfl⟩
          rw [List.length_range] at hlt2
          obtain ⟨_, ey⟩ := List.getElem?_eq_some_iff.mp hx
          rw [List.getElem_range] at ey
          subst ey
          obtain ⟨s1, s2, s3⟩ := step l (by omega)
          have sb := s1.bd
          have nx : (List.range (l + 1)).foldl (wayStep1 m e) fo = wayStep1 m e ((List.range l).foldl (wayStep1 m e) fo) l := by
            rw [List.range_succ, List.foldl_append]
            rfl
          rw [nx]
          generalize (List.range l).foldl (wayStep1 m e) fo = fl at s1 s2 s3 sb
          refine tgt_name (by wtm_at "loc") (by wtm_at "pt") ?_
          wtm_at "gn"
          refine calls0 ⟨m, some e.1, l, rfl, hlt2, hok.len, fun r hr => by cases hr; exact hel, rfl, ?_⟩
          refine ⟨_, by wtm_at "pt", ?_⟩
          show TL.Run _ [some (macR Cr m), some (.ref pf), some (.ref pw), some (nD (i + 1)), some (nD e.1), some (.str (letS l)), some (optN (beh m e.1 l))] _ _ _
          cases hbe : beh m e.1 l with
          | none =>
            have ew : wayStep1 m e fl l = fl := by unfold wayStep1; rw [hbe]
            rw [ew]
            wtm_at "gn"
            exact ⟨_, _, rfl, rfl⟩
          | some a =>
            wtm_at "gn"
            refine op_niK (k := Sum.inl ((a : Nat) : Int)) rfl (.own (.tail _ (.head _))) ?_
            rw [isSome_ik]
            by_cases hin : a ∈ fl.map (·.1)
            · have ew : wayStep1 m e fl l = fl := by unfold wayStep1; rw [hbe]; simp only [hin, if_true]
              rw [ew, decide_eq_true hin]
              wtm_at "gn"
              exact ⟨_, _, rfl, rfl⟩
            · have ew : wayStep1 m e fl l = fl ++ [(a, e.2 ++ letS l)] := by unfold wayStep1; rw [hbe]; simp only [hin, if_false]
              rw [ew, decide_eq_false hin]
              wtm_at "gn"
              refine run_dput rfl ?_
              wtm_at "gn"
              refine ix_K (k := Sum.inl ((e.1 : Nat) : Int)) rfl (.own (.tail _ (.head _))) (d := .str e.2) ?_ ?_
              · rw [valD_ik, lookup_mem s1.nd s3]
                rfl
              wtm_at "gn"
              refine op_addS ?_ ?_
              · have := letS_len l
                exact sz_of (show e.2.length + (letS l).length ≤ 1000000 by omega)
              wtm_at "gn"
              refine ⟨pf, _, Sum.inl ((a : Nat) : Int), _, rfl, rfl, .there .here, by rw [List.length_map]; exact sz_lt (by omega), ?_⟩
              wtm_at "gn"
              refine ev_append ?_
              wtm_at "gn"
              refine ⟨pw, _, rfl, .head _, ?_⟩
              wtm_at "gn"
              refine ⟨_, _, .here, by rw [List.length_map, List.length_map]; exact sz_lt (by omega), ?_⟩
              refine run_nil (run_nil ⟨_, _, rfl, ?_⟩)
              rw [putE_new]
              · simp only [List.map_append, List.map_cons, List.map_nil]
              · rw [List.map_map]
                intro hm
                obtain ⟨z, hz, ez⟩ := List.mem_map.mp hm
                refine hin (List.mem_map.mpr ⟨z, hz, ?_⟩)
                injection ez with ez
                omega
        · rintro G' L' ⟨b, c, rfl, rfl⟩
          rw [List.length_range]
          obtain ⟨s1, s2, s3⟩ := step 3 (Nat.le_refl _)
          refine run_nil ⟨n - 1, by omega, _, _, _, i + 1, _, rfl, rfl, s1, by omega, by omega, by omega, ?_⟩
          obtain ⟨k, rfl⟩ : ∃ k, n = k + 1 := ⟨n - 1, by omega⟩
          have e1 : waysLoop m (k + 1) i fo = waysLoop m k (i + 1) (wayStep m fo i) := by
            show (if i < fo.length then _ else _) = _
            rw [if_pos q']
          have e2 : wayStep m fo i = (List.range 3).foldl (wayStep1 m e) fo := by
            unfold wayStep
            rw [List.getD_eq_getElem?_getD, hfi]
            rfl
          rw [← hl, e1, e2]
          rfl
      · rename_i q
        have q' : ¬ i < fo.length := by
          rw [List.length_map, List.length_map] at q
          have := of_decide_eq_false q
          omega
        have e1 : waysLoop m n i fo = fo := by
          cases n with
          | zero => rfl
          | succ k =>
            show (if i < fo.length then _ else _) = _
            rw [if_neg q']
        rw [e1] at hl
        refine run_frz (x := "found") (by wtm_at "lk") (.there .here) (by wtm_at "pt") ?_
        wtm_at "go"
        rw [hl]
        exact hk
/-- the rows from which some text leads to an end -/
def anyIn (m : Mac) (f : List Nat) (r : Nat) : Bool := (List.range 3).any fun l => match beh m r l with
  | some a => decide (a ∈ f)
  | none => false
def leadStep (m : Mac) (f : List Nat) (r : Nat) : List Nat := if r ∉ f ∧ anyIn m f r = true then f ++ [r] else f
def leadSweep (m : Mac) (f : List Nat) : List Nat := (List.range m.tab.length).foldl (leadStep m) f
def leadLoop (m : Mac) : Nat → List Nat → List Nat
  | 0, f => f
  | n + 1, f => if (leadSweep m f).length = f.length then leadSweep m f else leadLoop m n (leadSweep m f)
def lead (m : Mac) : List Nat := leadLoop m (m.tab.length + 1) m.last
abbrev setD (f : List Nat) : List (Key × D) := f.map fun r => ((Sum.inl ((r : Nat) : Int) : Key), D.bl true)
theorem isSome_set (f : List Nat) (a : Nat) : (valD (setD f) (Sum.inl ((a : Nat) : Int))).isSome = decide (a ∈ f) := by
  have e : setD f = ikD (fun _ : Unit => D.bl true) (f.map fun r => (r, ())) := by
    show _ = List.map _ (List.map _ f)
    rw [List.map_map]
    rfl
  rw [e, isSome_ik, List.map_map]
  show decide (a ∈ f.map id) = _
  rw [List.map_id]
structure LeadOk (m : Mac) (f : List Nat) : Prop where
  nd : f.Nodup
  lt : ∀ r ∈ f, r < m.tab.length
theorem LeadOk.bd {m : Mac} {f : List Nat} (h : LeadOk m f) : f.length ≤ m.tab.length := nodup_bd _ _ h.nd h.lt
theorem LeadOk.step {m : Mac} {f : List Nat} (h : LeadOk m f) {r : Nat} (hr : r < m.tab.length) : LeadOk m (leadStep m f r) ∧ f.length ≤ (leadStep m f r).length := by
  unfold leadStep
  split
  · rename_i q
    refine ⟨⟨List.nodup_append.mpr ⟨h.nd, List.nodup_cons.mpr ⟨(fun q => nomatch q), List.nodup_nil⟩, fun x hx y hy => ?_⟩, fun x hx => ?_⟩, by rw [List.length_append]; omega⟩
    · rw [List.mem_singleton.mp hy]
      intro e
      exact q.1 (e ▸ hx)
    · rcases List.mem_append.mp hx with hx | hx
      · exact h.lt x hx
      · rw [List.mem_singleton.mp hx]; exact hr
  · exact ⟨h, Nat.le_refl _⟩
theorem LeadOk.sweep {m : Mac} {f : List Nat} (h : LeadOk m f) : ∀ k : Nat, k ≤ m.tab.length → LeadOk m ((List.range k).foldl (leadStep m) f) ∧ f.length ≤ ((List.range k).foldl (leadStep m) f).length := by
  intro k
  induction k with
  | zero => intro _; exact ⟨h, Nat.le_refl _⟩
  | succ k ih =>
    intro hk
    obtain ⟨h1, h2⟩ := ih (by omega)
    rw [List.range_succ, List.foldl_append]
    obtain ⟨h3, h4⟩ := h1.step (r := k) (by omega)
    exact ⟨h3, Nat.le_trans h2 h4⟩
def spLead (Cr : Addr) : Prm := fun ds L KK KE => ∃ m : Mac, ds = [macR Cr m] ∧ m.Ok ∧ m.tab.length < 1000 ∧ L = [] ∧ KK (.dK (setD (lead m))) []
theorem last_nd {m : Mac} (h : m.Ok) : LeadOk m m.last := ⟨h.up.imp (fun h => Nat.ne_of_lt h), h.ends⟩
theorem disp_set {f : List Nat} (nd : f.Nodup) : dispE (setD f) = setD f := by
  refine dispE_nodup ?_
  rw [List.map_map]
  refine List.pairwise_map.mpr (nd.imp fun {a b} hab => ?_)
  intro q
  injection q with q
  omega
theorem ok_lead {f Cr : Addr} {fd : FuncData} (FF : Fun K "leading_rows" "leading_rows" s_leading_rows f fd) (B : Bi mg) (gL : GTup K mg "LETTERS" letV) (cR : Cls K Cr) (nT : NoAttr K Cr "table") (nL : NoAttr K Cr "last") (m1 : Mth P w K mg base Cr "behind" ["self", "row", "letter"] (spBehind Cr) 1) : Def P w K mg base 2 f fd ["reader"] (spLead Cr) := by
  refine def_ok FF sc_leading_rows ?_ ?_
  · rintro ds L KK KE ⟨m, rfl, _⟩
    rfl
  · rintro ds L KK KE ⟨m, rfl, hok, hlt, rfl, hk⟩ H0 F0
    wtm_at "bg"
    have hll := last_len hok
    have l0 := last_nd hok
    refine run_setC (by kernel_rfl) rfl (by wtm_at "mem") (ev_dc [("end", 4)] rfl (by kernel_rfl) (ei_tup ?_)) (fun _ h => sw_cellD h)
    wtm_at "ea"
    refine ⟨_, rfl, ?_⟩
    refine dc_map m.last nD (fun n => (Sum.inl ((n : Nat) : Int), .bl true)) (fun _ => true) rfl (sz_lt (by omega)) (fun _ h => (nomatch h)) ?_ ?_
    · intro F1 Dl e acc he
      refine tn_name (i := 4) (by wtm_at "loc") rfl (List.mem_singleton.mpr rfl) ?_
      wtm_at "wz"
      refine ⟨rfl, List.Sublist.refl _, fun _ => ?_⟩
      wtm_at "ea"
      exact ⟨rfl, rfl, List.Sublist.refl _⟩
    · intro pf
      have ef : m.last.filter (fun _ => true) = m.last := List.filter_eq_self.mpr fun _ _ => rfl
      rw [ef, show (m.last.map fun n => ((Sum.inl ((n : Nat) : Int) : Key), D.bl true)) = setD m.last from rfl, disp_set l0.nd]
      refine ⟨_, by wtm_at "pt", ?_⟩
      wtm_at "gn"
      refine run_while rfl (fun n G' L' => ∃ (g : Bool) (b : Option D) (fo : List Nat), G' = [some (macR Cr m), some (.ref pf), some (.bl g), b, none, none] ∧ L' = [(pf, .dK (setD fo))] ∧ LeadOk m fo ∧
        (g = true → 0 < n ∧ leadLoop m (n - 1) fo = lead m ∧ m.tab.length + 1 ≤ n - 1 + fo.length) ∧ (g = false → fo = lead m))
        (m.tab.length + 2) ⟨true, _, m.last, rfl, rfl, l0, fun _ => ⟨by omega, rfl, by omega⟩, fun h => (nomatch h)⟩ ?_
      rintro n G' L' ⟨g, b, fo, rfl, rfl, ho, hg1, hg2⟩
      cases g with
      | false =>
        have hfo := hg2 rfl
        wtm_at "gn"
        refine run_frz (x := "found") (by wtm_at "lk") .here (by wtm_at "pt") ?_
        wtm_at "go"
        rw [hfo]
        exact hk
      | true =>
        obtain ⟨hn0, hl, hnl⟩ := hg1 rfl
        have hb := ho.bd
        wtm_at "gn"
        refine run_for rfl rfl (ei_rng1 (by wtm_at "gl") (by wtm_at "bi") ?_)
        wtm_at "ea"
        rw [List.length_map]
        refine ⟨_, rfl, by omega, by omega, ?_⟩
        refine for_map (List.range m.tab.length) (fun k => nD k) (rng0 _) (fun k G' L' => ∃ b : Option D, G' = [some (macR Cr m), some (.ref pf), some (.bl (decide (((List.range k).foldl (leadStep m) fo).length ≠ fo.length))), b, none, none] ∧
          L' = [(pf, .dK (setD ((List.range k).foldl (leadStep m) fo)))]) ⟨b, by simp, rfl⟩ (fun _ _ _ _ _ h => (nomatch h)) ?_ ?_
        · rintro F1 k x G' L' hx hlt2 ⟨b, rfl, rfl⟩
          rw [List.length_range] at hlt2
          obtain ⟨_, ey⟩ := List.getElem?_eq_some_iff.mp hx
          rw [List.getElem_range] at ey
          subst ey
          obtain ⟨s1, s2⟩ := ho.sweep k (by omega)
          have sb := s1.bd
          have nx : (List.range (k + 1)).foldl (leadStep m) fo = leadStep m ((List.range k).foldl (leadStep m) fo) k := by
            rw [List.range_succ, List.foldl_append]
            rfl
          rw [nx]
          generalize (List.range k).foldl (leadStep m) fo = fl at s1 s2 sb
          refine tgt_name (by wtm_at "loc") (by wtm_at "pt") ?_
          wtm_at "gn"
          refine op_niK (k := Sum.inl ((k : Nat) : Int)) rfl (.own (.head _)) ?_
          rw [isSome_set]
          by_cases hin : k ∈ fl
          · have ew : leadStep m fl k = fl := by unfold leadStep; rw [if_neg (fun q => q.1 hin)]
            rw [ew, decide_eq_true hin]
            wtm_at "gn"
            all_goals exact ⟨_, rfl, rfl⟩
          · rw [decide_eq_false hin]
            wtm_at "gn"
            refine ev_lc [("letter", 5)] rfl (by kernel_rfl) (ei_tup ?_)
            wtm_at "gn"
            refine lc_all (List.range 3) (fun l => .str (letS l)) (fun l => .bl (match beh m k l with | some a => decide (a ∈ fl) | none => false)) let_range (sz_lt (by decide)) (fun _ h => (nomatch h)) ?_ ?_
            · intro F2 Dl l acc hl2
              have hl3 := List.mem_range.mp hl2
              refine tn_name (i := 5) (by wtm_at "loc") rfl (List.mem_singleton.mpr rfl) ?_
              wtm_at "wz"
              wtm_at "gn"
              refine calls0 ⟨m, some k, l, rfl, hl3, hok.len, fun r hr => by cases hr; exact hlt2, rfl, ?_⟩
              show TL.Ev _ _ _ _ _
              wtm_at "gn"
              show TL.Op2 _ _ _ _ (optN (beh m k l)) _ _
              cases hbe : beh m k l with
              | none =>
                refine op_inKn (.own (.tail _ (.head _))) ⟨rfl, List.Sublist.refl _⟩
              | some a =>
                refine op_inK (k := Sum.inl ((a : Nat) : Int)) rfl (.own (.tail _ (.head _))) ?_
                rw [isSome_set]
                exact ⟨rfl, List.Sublist.refl _⟩
            · intro Dl
              have ea : ((List.range 3).any fun l => match beh m k l with | some a => decide (a ∈ fl) | none => false) = anyIn m fl k := rfl
              wtm_at "gm"
              · rename_i q
                have ew : leadStep m fl k = fl ++ [k] := by
                  unfold leadStep
                  rw [if_pos ⟨hin, q⟩]
                rw [ew]
                refine run_dput rfl ?_
                wtm_at "gn"
                refine ⟨pf, _, Sum.inl ((k : Nat) : Int), _, rfl, rfl, .there .here, by rw [List.length_map]; exact sz_lt (by omega), ?_⟩
                wtm_at "gm"
                refine run_drop (List.sublist_cons_self _ _) ?_
                refine run_nil ?_
                refine run_nil ?_
                refine ⟨some (nD k), ?_, ?_⟩
                · have e : decide ((fl ++ [k]).length ≠ fo.length) = true := decide_eq_true (by rw [List.length_append]; simp; omega)
                  rw [e]
                · rw [putE_new]
                  · simp only [List.map_append, List.map_cons, List.map_nil]
                  · rw [List.map_map]
                    intro hm
                    obtain ⟨z, hz, ez⟩ := List.mem_map.mp hm
                    injection ez with ez
                    exact hin (by rw [show k = z by omega]; exact hz)
              · rename_i q
                have ew : leadStep m fl k = fl := by
                  unfold leadStep
                  rw [if_neg (fun z => by rw [show anyIn m fl k = false from q] at z; exact absurd z.2 (by decide))]
                rw [ew]
                refine run_drop (List.sublist_cons_self _ _) ?_
                refine run_nil ?_
                refine run_nil ?_
                exact ⟨_, rfl, rfl⟩
        · rintro G' L' ⟨b, rfl, rfl⟩
          rw [List.length_range]
          obtain ⟨s1, s2⟩ := ho.sweep m.tab.length (Nat.le_refl _)
          have es : (List.range m.tab.length).foldl (leadStep m) fo = leadSweep m fo := rfl
          rw [es] at s1 s2 ⊢
          have sb := s1.bd
          obtain ⟨k, hk2⟩ : ∃ k, n - 1 = k + 1 := ⟨n - 2, by omega⟩
          rw [hk2] at hl hnl
          have el : leadLoop m (k + 1) fo = if (leadSweep m fo).length = fo.length then leadSweep m fo else leadLoop m k (leadSweep m fo) := rfl
          rw [el] at hl
          refine run_nil ⟨k + 1, by omega, _, _, _, rfl, rfl, s1, fun hg => ?_, fun hg => ?_⟩
          · have hne : ¬ (leadSweep m fo).length = fo.length := of_decide_eq_true hg
            rw [if_neg hne] at hl
            exact ⟨Nat.succ_pos _, hl, by simp only [Nat.add_sub_cancel]; omega⟩
          · have hne : (leadSweep m fo).length = fo.length := by
              have := of_decide_eq_false hg
              omega
            rw [if_pos hne] at hl
            exact hl
end
end Rk10

open PySem L2 TL
namespace Rk10
section
variable {P : Program} {w : World} {K : PySem.W.Frag} {mg : Str → Option Value} {base : Heap}
/-! the needed rows -/
def isKey (m : Mac) (r : Nat) : Bool := decide (r ∈ (ways m).map (·.1))
def needed (m : Mac) : List Nat := ((List.range m.tab.length).filter (isKey m)).filter fun r => decide (r ∈ lead m)
theorem ways_ok {m : Mac} (h : m.Ok) : WayOk m (ways m) := by
  have hp := h.pos
  have w0 : WayOk m way0 := ⟨by decide +kernel, fun e he => by rw [List.mem_singleton.mp he]; exact hp, fun i e he => by
    cases i with
    | zero => cases he; exact Nat.le_refl _
    | succ j => simp [way0] at he⟩
  have go : ∀ (n i : Nat) (f : WayL), WayOk m f → WayOk m (waysLoop m n i f) := by
    intro n
    induction n with
    | zero => intro i f w; exact w
    | succ n ih =>
      intro i f w
      show WayOk m (if i < f.length then waysLoop m n (i + 1) (wayStep m f i) else f)
      split
      · rename_i hi
        refine ih (i + 1) _ ?_
        have hfi : f[i]? = some f[i] := List.getElem?_eq_getElem hi
        have hec := w.len i _ hfi
        have step : ∀ l : Nat, WayOk m ((List.range l).foldl (wayStep1 m f[i]) f) ∧ f.length ≤ ((List.range l).foldl (wayStep1 m f[i]) f).length := by
          intro l
          induction l with
          | zero => exact ⟨w, Nat.le_refl _⟩
          | succ l ihl =>
            rw [List.range_succ, List.foldl_append]
            obtain ⟨h4, h5⟩ := ihl.1.step1 h (e := f[i]) (by have := ihl.2; omega) l
            exact ⟨h4, Nat.le_trans ihl.2 h5⟩
        have e : wayStep m f i = (List.range 3).foldl (wayStep1 m f[i]) f := by
          unfold wayStep
          rw [List.getD_eq_getElem?_getD, hfi]
          rfl
        rw [e]
        exact (step 3).1
      · exact w
  exact go _ _ _ w0
theorem lead_ok {m : Mac} (h : m.Ok) : LeadOk m (lead m) := by
  have go : ∀ (n : Nat) (f : List Nat), LeadOk m f → LeadOk m (leadLoop m n f) := by
    intro n
    induction n with
    | zero => intro f w; exact w
    | succ n ih =>
      intro f w
      have s := (w.sweep m.tab.length (Nat.le_refl _)).1
      show LeadOk m (if (leadSweep m f).length = f.length then leadSweep m f else leadLoop m n (leadSweep m f))
      split
      · exact s
      · exact ih _ s
  exact go _ _ (last_nd h)
theorem sorted_eq {ys : List Int} {ks : List Nat} {n : Nat} (hp : ys.Perm (ks.map fun k => ((k : Nat) : Int))) (hs : ys.Pairwise (· ≤ ·)) (nd : ks.Nodup) (hb : ∀ k ∈ ks, k < n) : ys = ((List.range n).filter fun r => decide (r ∈ ks)).map fun k => ((k : Nat) : Int) := by
  have inj : ∀ a b : Nat, ((a : Nat) : Int) = ((b : Nat) : Int) → a = b := fun a b h => by omega
  have p2 : (ks.map fun k => ((k : Nat) : Int)).Perm (((List.range n).filter fun r => decide (r ∈ ks)).map fun k => ((k : Nat) : Int)) := by
    refine List.Perm.map _ ((List.perm_ext_iff_of_nodup nd (List.nodup_range.filter _)).mpr fun a => ?_)
    rw [List.mem_filter, List.mem_range, decide_eq_true_eq]
    exact ⟨fun h => ⟨hb a h, h⟩, fun h => h.2⟩
  refine List.Perm.eq_of_pairwise (le := (· ≤ ·)) (fun a b _ _ h1 h2 => Int.le_antisymm h1 h2) hs ?_ (hp.trans p2)
  refine List.pairwise_map.mpr ?_
  have : (List.range n).Pairwise fun a b => ((a : Nat) : Int) ≤ ((b : Nat) : Int) := List.pairwise_lt_range.imp fun h => by omega
  exact this.filter _
def spNeeded (Cr : Addr) : Prm := fun ds L KK KE => ∃ m : Mac, ds = [macR Cr m] ∧ m.Ok ∧ m.tab.length < 64 ∧ L = [] ∧ KK (.tup ((needed m).map nD)) []
theorem ok_needed {f Cr : Addr} {fd : FuncData} (FF : Fun K "needed_rows" "needed_rows" s_needed_rows f fd) (B : Bi mg) (g1 : Glob P w K mg base "ways_of" ["reader"] (spWays Cr) 2) (g2 : Glob P w K mg base "leading_rows" ["reader"] (spLead Cr) 2) : Def P w K mg base 3 f fd ["reader"] (spNeeded Cr) := by
  refine def_ok FF sc_needed_rows ?_ ?_
  · rintro ds L KK KE ⟨m, rfl, _⟩
    rfl
  · rintro ds L KK KE ⟨m, rfl, hok, hlt, rfl, hk⟩ H0 F0
    wtm_at "bg"
    have wo := ways_ok hok
    have wb := wo.bd
    refine run_setC (by kernel_rfl) rfl (by wtm_at "mem") ?_ (fun _ _ => rfl)
    wtm_at "ea"
    refine calls0 ⟨m, rfl, hok, by omega, rfl, ?_⟩
    refine ⟨_, by wtm_at "pt", ?_⟩
    refine run_ret0 ?_
    wtm_at "ev"
    wtm_at "ev"
    refine ev_lc [("row", 2)] rfl (by kernel_rfl) (ei_lst ?_)
    wtm_at "ev"
    wtm_at "ev"
    wtm_at "ea"
    refine calls0 ⟨m, rfl, hok, by omega, rfl, ?_⟩
    wtm_at "ea"
    refine cv_sortedDI (ks := ((ways m).map (·.1)).map fun k => ((k : Nat) : Int)) rfl .frz ?_ ?_ fun ys ps hp hs => ?_
    · rw [List.map_map, List.map_map, List.map_map]
      rfl
    · rw [List.length_map, List.length_map]
      omega
    have ey := sorted_eq (n := m.tab.length) hp hs wo.nd fun k hk => by
      obtain ⟨e, he, rfl⟩ := List.mem_map.mp hk
      exact wo.lt e he
    subst ey
    rw [List.map_map]
    refine ⟨_, .own (.head _), ?_⟩
    have hfl : ((List.range m.tab.length).filter fun r => decide (r ∈ (ways m).map (·.1))).length ≤ m.tab.length := by
      have := List.length_filter_le (fun r => decide (r ∈ (ways m).map (·.1))) (List.range m.tab.length)
      rwa [List.length_range] at this
    refine lc_map ((List.range m.tab.length).filter fun r => decide (r ∈ (ways m).map (·.1))) nD nD (fun r => decide (r ∈ lead m)) rfl (sz_lt (by omega)) (fun s hs => hs) ?_ ?_
    · intro F1 Dl r acc hr
      refine tn_name (i := 2) (by wtm_at "loc") rfl (List.mem_singleton.mpr rfl) ?_
      wtm_at "wz"
      show TL.Tst _ _ _ _ _
      refine tst_cmp ?_
      wtm_at "ea"
      refine op_inK (k := Sum.inl ((r : Nat) : Int)) rfl .frz ?_
      rw [isSome_set]
      refine ⟨_, rfl, rfl, List.Sublist.refl _, fun _ => ?_⟩
      wtm_at "ea"
      exact ⟨rfl, List.Sublist.refl _⟩
    · intro Dl
      wtm_at "ea"
      exact hk
end
end Rk10

open PySem L2 TL
namespace Rk10
section
variable {P : Program} {w : World} {K : PySem.W.Frag} {mg : Str → Option Value} {base : Heap}
/-! prices; how many letters lead from row to row -/
structure Pr where
  put : Nat
  take : Nat
  change : Nat
structure Pr.Ok (p : Pr) : Prop where
  p1 : 1 ≤ p.put
  p9 : p.put ≤ 9
  t1 : 1 ≤ p.take
  t9 : p.take ≤ 9
  c1 : 1 ≤ p.change
  c9 : p.change ≤ 9
abbrev prD (Cp : Addr) (p : Pr) : D := .ob Cp [("put", nD p.put), ("take", nD p.take), ("change", nD p.change)]
def spPInit (Cp CB : Addr) : Prm := fun ds L KK KE => ∃ (l : Addr) (x y z : V), ds = [.ref l, .v x, .v y, .v z] ∧ scalV x = true ∧ scalV y = true ∧ scalV z = true ∧ L = [(l, .ins Cp [])] ∧
  ([x, y, z].all (fun v => isWhole v 1 9) = true → KK .non [(l, .ins Cp [("put", .v x), ("take", .v y), ("change", .v z)])]) ∧ ([x, y, z].all (fun v => isWhole v 1 9) = false → KE (.own CB) [])
theorem ok_prices_init {f Cp CB : Addr} {fd : FuncData} (FF : Fun K "__init__" "Prices.__init__" s_Prices_init f fd) (B : Bi mg) (c : Cls K Cp) (n1 : NoAttr K Cp "put") (n2 : NoAttr K Cp "take") (n3 : NoAttr K Cp "change") (eB : ExcC K mg "BadPrices" CB)
    (g1 : Glob P w K mg base "is_whole" ["thing", "least", "most"] spWhole 1) : Def P w K mg base 2 f fd ["self", "put", "take", "change"] (spPInit Cp CB) := by
  refine def_ok FF sc_Prices_init ?_ ?_
  · rintro ds L KK KE ⟨l, x, y, z, rfl, _⟩
    rfl
  · rintro ds L KK KE ⟨l, x, y, z, rfl, hx, hy, hz, rfl, hk, he⟩ H0 F0
    wtm_at "bg"
    wtm_at "gm"
    refine ev_lc [("price", 4)] rfl (by kernel_rfl) (ei_tup ?_)
    wtm_at "ea"
    refine ⟨by show 3 ≤ sizeLine; decide, _, rfl, ?_⟩
    refine lc_all [x, y, z] D.v (fun v => .bl (isWhole v 1 9)) rfl (sz_lt (by show 3 ≤ 1000000; decide)) (fun _ h => (nomatch h)) ?_ ?_
    · intro F1 Dl v acc hv
      refine tn_name (i := 4) (by wtm_at "loc") rfl (List.mem_singleton.mpr rfl) ?_
      wtm_at "wz"
      have hs : scalV v = true := by
        rcases List.mem_cons.mp hv with rfl | hv
        · exact hx
        rcases List.mem_cons.mp hv with rfl | hv
        · exact hy
        rw [List.mem_singleton.mp hv]
        exact hz
      wtm_at "ea"
      exact calls0 ⟨_, _, _, rfl, hs, rfl, rfl, List.Sublist.refl _⟩
    · intro Dl
      wtm_at "gm"
      · rename_i q
        have q' : [x, y, z].all (fun v => isWhole v 1 9) = false := by simpa only [Bool.not_eq_true'] using q
        exact he q'
      · rename_i q
        have q' : [x, y, z].all (fun v => isWhole v 1 9) = true := by simpa only [Bool.not_eq_false'] using q
        refine run_nil ?_
        refine run_fld c n1 ?_
        wtm_at "ea"
        refine ⟨_, _, _, rfl, .there .here, Nat.le_of_ble_eq_true (by kernel_rfl), ?_⟩
        refine run_fld c n2 ?_
        wtm_at "ea"
        refine ⟨_, _, _, rfl, .there .here, Nat.le_of_ble_eq_true (by kernel_rfl), ?_⟩
        refine run_fld c n3 ?_
        wtm_at "ea"
        refine ⟨_, _, _, rfl, .there .here, Nat.le_of_ble_eq_true (by kernel_rfl), ?_⟩
        refine run_drop (List.sublist_cons_self _ _) ?_
        refine run_nil ?_
        exact hk q'
abbrev DistL := List (Nat × Nat)
def putStep1 (m : Mac) (rows : List Nat) (e : Nat × Nat) (f : DistL) (l : Nat) : DistL := match beh m e.1 l with
  | some a => if a ∈ rows ∧ a ∉ f.map (·.1) then f ++ [(a, e.2 + 1)] else f
  | none => f
def putStep (m : Mac) (rows : List Nat) (f : DistL) (i : Nat) : DistL := (List.range 3).foldl (putStep1 m rows (f.getD i (0, 0))) f
def putLoop (m : Mac) (rows : List Nat) : Nat → Nat → DistL → DistL
  | 0, _, f => f
  | n + 1, i, f => if i < f.length then putLoop m rows n (i + 1) (putStep m rows f i) else f
def putsTo (m : Mac) (rows : List Nat) (row : Nat) : DistL := putLoop m rows (m.tab.length + 1) 0 [(row, 0)]
abbrev distD (f : DistL) : List (Key × D) := f.map fun e => ((Sum.inl ((e.1 : Nat) : Int) : Key), nD e.2)
abbrev pwaysD (m : Mac) (rows : List Nat) (rs : List Nat) : List (Key × D) := rs.map fun r => ((Sum.inl ((r : Nat) : Int) : Key), D.dK (distD (putsTo m rows r)))
structure DistOk (m : Mac) (f : DistL) : Prop where
  nd : (f.map (·.1)).Nodup
  lt : ∀ e ∈ f, e.1 < m.tab.length
  val : ∀ (i : Nat) (e : Nat × Nat), f[i]? = some e → e.2 ≤ i
theorem DistOk.bd {m : Mac} {f : DistL} (h : DistOk m f) : f.length ≤ m.tab.length := by
  have := nodup_bd m.tab.length (f.map (·.1)) h.nd fun x hx => by
    obtain ⟨e, he, rfl⟩ := List.mem_map.mp hx
    exact h.lt e he
  rwa [List.length_map] at this
theorem DistOk.step1 {m : Mac} (h : m.Ok) {rows : List Nat} {f : DistL} (w : DistOk m f) {e : Nat × Nat} (he : e.2 + 1 ≤ f.length) (l : Nat) : DistOk m (putStep1 m rows e f l) ∧ f.length ≤ (putStep1 m rows e f l).length := by
  unfold putStep1
  split
  · rename_i a ha
    split
    · rename_i hn
      refine ⟨⟨?_, ?_, ?_⟩, by rw [List.length_append]; omega⟩
      · rw [List.map_append]
        refine List.nodup_append.mpr ⟨w.nd, List.nodup_cons.mpr ⟨(fun q => nomatch q), List.nodup_nil⟩, fun x hx y hy => ?_⟩
        rw [List.mem_singleton.mp hy]
        intro q
        have q2 : x = a := q
        exact hn.2 (q2 ▸ hx)
      · intro x hx
        rcases List.mem_append.mp hx with hx | hx
        · exact w.lt x hx
        · rw [List.mem_singleton.mp hx]
          exact beh_lt h ha
      · intro i x hx
        by_cases hi : i < f.length
        · rw [List.getElem?_append_left hi] at hx
          exact w.val i x hx
        · rw [List.getElem?_append_right (by omega)] at hx
          have e0 : i - f.length = 0 := by
            cases q : i - f.length with
            | zero => rfl
            | succ j => rw [q] at hx; simp at hx
          rw [e0] at hx
          cases hx
          show e.2 + 1 ≤ i
          omega
    · exact ⟨w, Nat.le_refl _⟩
  · exact ⟨w, Nat.le_refl _⟩
theorem DistOk.steps {m : Mac} (h : m.Ok) {rows : List Nat} {f : DistL} (w : DistOk m f) {e : Nat × Nat} (he : e.2 + 1 ≤ f.length) (hem : e ∈ f) : ∀ l : Nat, DistOk m ((List.range l).foldl (putStep1 m rows e) f) ∧ f.length ≤ ((List.range l).foldl (putStep1 m rows e) f).length ∧ e ∈ ((List.range l).foldl (putStep1 m rows e) f) := by
  intro l
  induction l with
  | zero => exact ⟨w, Nat.le_refl _, hem⟩
  | succ l ih =>
    obtain ⟨h1, h2, h3⟩ := ih
    rw [List.range_succ, List.foldl_append]
    obtain ⟨h4, h5⟩ := h1.step1 h (rows := rows) (e := e) (by omega) l
    refine ⟨h4, Nat.le_trans h2 h5, ?_⟩
    show e ∈ putStep1 m rows e _ l
    unfold putStep1
    split
    · split
      · exact List.mem_append_left _ h3
      · exact h3
    · exact h3
theorem in_rows (o : Option Nat) (rows : List Nat) : inD (match o with | none => V.non | some a => nV a) (rows.map nD) = (match o with | none => false | some a => decide (a ∈ rows)) := by
  unfold inD
  rw [List.any_map]
  cases o with
  | none =>
    induction rows with
    | nil => rfl
    | cons r rs ih => rw [List.any_cons, ih]; rfl
  | some a =>
    induction rows with
    | nil => rfl
    | cons r rs ih =>
      rw [List.any_cons, ih]
      have e : (decide (((r : Nat) : Int) = ((a : Nat) : Int))) = decide (a = r) := decide_eq_decide.mpr ⟨fun h => by omega, fun h => by rw [h]⟩
      show (eqV (nV r) (nV a) || _) = _
      have e2 : eqV (nV r) (nV a) = decide (a = r) := by
        rw [← e]
        rfl
      rw [e2]
      simp
theorem valD_snoc {kvs : List (Key × D)} {k : Key} {d : D} (h : k ∉ kvs.map (·.1)) : valD (kvs ++ [(k, d)]) k = some d := by
  induction kvs with
  | nil => simp [valD]
  | cons x l ih =>
    rw [List.map_cons] at h
    have h1 := fun q => h (List.mem_cons.mpr (.inl q))
    obtain ⟨k2, v⟩ := x
    rw [List.cons_append, valD_cons, decide_eq_false (fun q => h1 q.symm)]
    exact ih fun q => h (List.mem_cons_of_mem _ q)
def spPutWays (Cr : Addr) : Prm := fun ds L KK KE => ∃ (m : Mac) (rows : List Nat), ds = [macR Cr m, .tup (rows.map nD)] ∧ m.Ok ∧ m.tab.length < 64 ∧ rows.Nodup ∧ (∀ r ∈ rows, r < m.tab.length) ∧ L = [] ∧ KK (.dK (pwaysD m rows rows)) []
theorem pways_keys (m : Mac) (rows rs : List Nat) (a : Nat) : valD (pwaysD m rows rs) (Sum.inl ((a : Nat) : Int)) = if a ∈ rs then some (.dK (distD (putsTo m rows a))) else none := by
  have e : pwaysD m rows rs = ikD (fun r : Nat => D.dK (distD (putsTo m rows r))) (rs.map fun r => (r, r)) := by
    show _ = List.map _ (List.map _ rs)
    rw [List.map_map]
    rfl
  rw [e, valD_ik]
  induction rs with
  | nil => rfl
  | cons r rs ih =>
    rw [List.map_cons, List.lookup_cons]
    by_cases q : a = r
    · subst q; simp
    · have q2 : (a == r) = false := by simpa using q
      rw [q2]
      simp only [List.mem_cons, q, false_or]
      exact ih (by
        show _ = List.map _ (List.map _ rs)
        rw [List.map_map]
        rfl)
theorem ok_put_ways {f Cr : Addr} {fd : FuncData} (FF : Fun K "put_ways" "put_ways" s_put_ways f fd) (B : Bi mg) (gL : GTup K mg "LETTERS" letV) (cR : Cls K Cr) (m1 : Mth P w K mg base Cr "behind" ["self", "row", "letter"] (spBehind Cr) 1) : Def P w K mg base 2 f fd ["reader", "rows"] (spPutWays Cr) := by
  refine def_ok FF sc_put_ways ?_ ?_
  · rintro ds L KK KE ⟨m, rows, rfl, _⟩
    rfl
  · rintro ds L KK KE ⟨m, rows, rfl, hok, hlt, hnd, hrows, rfl, hk⟩ H0 F0
    wtm_at "bg"
    have hrl := nodup_bd _ _ hnd hrows
    refine run_set (by wtm_at "loc") (by wtm_at "mem") (ev_dnew fun pf => ?_)
    refine ⟨_, by wtm_at "pt", ?_⟩
    refine run_for rfl rfl (ei_tup ?_)
    wtm_at "ea"
    refine ⟨_, rfl, ?_⟩
    refine for_pre rows nD rfl (fun pre G' L' => ∃ a b c d e : Option D, G' = [some (macR Cr m), some (.tup (rows.map nD)), some (.ref pf), a, b, c, d, e] ∧ L' = [(pf, .dK (pwaysD m rows pre))]) ⟨_, _, _, _, _, rfl, rfl⟩ (fun _ _ _ _ _ h => (nomatch h)) ?_ ?_
    · rintro F1 pre row suf G' L' hsp ⟨a, b, c, d, e, rfl, rfl⟩
      have hrow : row < m.tab.length := hrows row (by rw [hsp]; exact List.mem_append_right _ List.mem_cons_self)
      have hpn : row ∉ pre := fun q => by
        rw [hsp] at hnd
        exact (List.nodup_append.mp hnd).2.2 _ q _ List.mem_cons_self rfl
      have hpl : pre.length < 64 := by
        have := congrArg List.length hsp
        rw [List.length_append, List.length_cons] at this
        omega
      refine tgt_name (by wtm_at "loc") (by wtm_at "pt") ?_
      refine run_dput rfl (ev_dnew1 fun pd => ?_)
      wtm_at "ea"
      refine ⟨Sum.inl ((row : Nat) : Int), rfl, _, rfl, ?_⟩
      wtm_at "ea"
      have keyn : (Sum.inl ((row : Nat) : Int) : Key) ∉ (pwaysD m rows pre).map (·.1) := by
        rw [List.map_map]
        intro hm
        obtain ⟨z, hz, ez⟩ := List.mem_map.mp hm
        injection ez with ez
        exact hpn (by rw [show row = z by omega]; exact hz)
      refine ⟨pf, _, Sum.inl ((row : Nat) : Int), _, rfl, rfl, .there .here, by rw [List.length_map]; exact sz_lt (by omega), ?_⟩
      rw [putE_new keyn]
      refine run_set (by wtm_at "loc") (by wtm_at "mem") (ev_lst ?_)
      wtm_at "ea"
      refine ⟨Nat.le_of_ble_eq_true rfl, fun pw => ?_⟩
      refine ⟨_, by wtm_at "pt", ?_⟩
      have getf : valD (pwaysD m rows pre ++ [((Sum.inl ((row : Nat) : Int) : Key), D.ref pd)]) (Sum.inl ((row : Nat) : Int)) = some (.ref pd) := valD_snoc keyn
      refine run_while rfl (fun n G' L' => ∃ (c d e : Option D) (i : Nat) (fo : DistL), G' = [some (macR Cr m), some (.tup (rows.map nD)), some (.ref pf), some (nD row), some (.ref pw), c, d, e] ∧
        L' = [(pw, .lst (((fo.map (·.1)).drop i).map nD)), (pd, .dK (distD fo)), (pf, .dK (pwaysD m rows pre ++ [((Sum.inl ((row : Nat) : Int) : Key), D.ref pd)]))] ∧ DistOk m fo ∧ 0 < fo.length ∧ i ≤ fo.length ∧ n + i = m.tab.length + 1 ∧ putLoop m rows n i fo = putsTo m rows row)
        (m.tab.length + 1) ⟨_, _, _, 0, [(row, 0)], rfl, rfl, ⟨List.nodup_cons.mpr ⟨(fun q => nomatch q), List.nodup_nil⟩, fun e he => by rw [List.mem_singleton.mp he]; exact hrow, fun i e he => ?_⟩, Nat.zero_lt_one, Nat.zero_le _, rfl, rfl⟩ ?_
      · cases i with
        | zero => cases he; exact Nat.le_refl _
        | succ j => simp at he
      · rintro n G' L' ⟨c, d, e, i, fo, rfl, rfl, wo, hf0, hif, hni, hl⟩
        have hb := wo.bd
        wtm_at "gm"
        · rename_i q
          have q' : i < fo.length := by
            rcases Nat.lt_or_ge i fo.length with h | h
            · exact h
            · have e0 : (fo.map (·.1)).drop i = [] := List.drop_eq_nil_of_le (by rw [List.length_map]; exact h)
              rw [e0] at q
              cases q
          have hfi : fo[i]? = some fo[i] := List.getElem?_eq_getElem q'
          generalize he : fo[i] = en at hfi
          have hem := List.mem_of_getElem? hfi
          have hel := wo.lt en hem
          have hec := wo.val i en hfi
          have hdr : (fo.map (·.1)).drop i = en.1 :: (fo.map (·.1)).drop (i + 1) := by
            have hil : i < (fo.map (·.1)).length := by rw [List.length_map]; exact q'
            rw [List.drop_eq_getElem_cons hil, List.getElem_map, he]
          rw [hdr]
          refine ev_pop0 ?_
          wtm_at "ea"
          refine ⟨pw, _, _, _, rfl, .here, ?_⟩
          refine ⟨_, by wtm_at "pt", ?_⟩
          have steps := wo.steps hok (rows := rows) (e := en) (by omega) hem
          refine run_for rfl rfl (ei_tup ?_)
          wtm_at "ea"
          refine ⟨_, rfl, ?_⟩
          refine for_map (List.range 3) (fun l => .str (letS l)) let_range (fun l G' L' => ∃ d e : Option D, G' = [some (macR Cr m), some (.tup (rows.map nD)), some (.ref pf), some (nD row), some (.ref pw), some (nD en.1), d, e] ∧
            L' = [(pw, .lst (((((List.range l).foldl (putStep1 m rows en) fo).map (·.1)).drop (i + 1)).map nD)), (pd, .dK (distD ((List.range l).foldl (putStep1 m rows en) fo))), (pf, .dK (pwaysD m rows pre ++ [((Sum.inl ((row : Nat) : Int) : Key), D.ref pd)]))]) ⟨_, _, rfl, rfl⟩ (fun _ _ _ _ _ h => (nomatch h)) ?_ ?_
          · rintro F2 l x G' L' hx hlt2 ⟨d, e, rfl, rfl⟩
            rw [List.length_range] at hlt2
            obtain ⟨_, ey⟩ := List.getElem?_eq_some_iff.mp hx
            rw [List.getElem_range] at ey
            subst ey
            obtain ⟨s1, s2, s3⟩ := steps l
            have sb := s1.bd
            have nx : (List.range (l + 1)).foldl (putStep1 m rows en) fo = putStep1 m rows en ((List.range l).foldl (putStep1 m rows en) fo) l := by
              rw [List.range_succ, List.foldl_append]
              rfl
            rw [nx]
            generalize (List.range l).foldl (putStep1 m rows en) fo = fl at s1 s2 s3 sb
            refine tgt_name (by wtm_at "loc") (by wtm_at "pt") ?_
            wtm_at "gm"
            refine calls0 ⟨m, some en.1, l, rfl, hlt2, hok.len, fun r hr => by cases hr; exact hel, rfl, ?_⟩
            refine ⟨_, by wtm_at "pt", ?_⟩
            show TL.Run _ [some (macR Cr m), some (.tup (rows.map nD)), some (.ref pf), some (nD row), some (.ref pw), some (nD en.1), some (.str (letS l)), some (optN (beh m en.1 l))] _ _ _
            have fl1 : ∀ a : Nat, flatV (nV a) = true := fun _ => rfl
            have flr : (rows.map nD).all flatD = true := by
              rw [List.all_map]
              exact List.all_eq_true.mpr fun _ _ => rfl
            cases hbe : beh m en.1 l with
            | none =>
              have ew : putStep1 m rows en fl l = fl := by unfold putStep1; rw [hbe]
              rw [ew]
              wtm_at "gm"
              refine op_inQ .tup rfl flr ?_
              rw [show inD V.non (rows.map nD) = false from in_rows none rows]
              wtm_at "gm"
              exact run_nil (run_nil ⟨_, _, rfl, rfl⟩)
            | some a =>
              wtm_at "gm"
              refine op_inQ .tup rfl flr ?_
              rw [show inD (nV a) (rows.map nD) = decide (a ∈ rows) from in_rows (some a) rows]
              by_cases hin : a ∈ rows
              · rw [decide_eq_true hin]
                wtm_at "gm"
                refine ix_K (k := Sum.inl ((row : Nat) : Int)) rfl (.own (.tail _ (.tail _ (.head _)))) getf ?_
                refine op_niK (k := Sum.inl ((a : Nat) : Int)) rfl (.own (.tail _ (.head _))) ?_
                rw [isSome_ik]
                by_cases hin2 : a ∈ fl.map (·.1)
                · have ew : putStep1 m rows en fl l = fl := by unfold putStep1; rw [hbe]; simp only [hin2, not_true_eq_false, and_false, if_false]
                  rw [ew, decide_eq_true hin2]
                  wtm_at "gm"
                  exact run_nil (run_nil ⟨_, _, rfl, rfl⟩)
                · have ew : putStep1 m rows en fl l = fl ++ [(a, en.2 + 1)] := by unfold putStep1; rw [hbe]; simp only [hin, hin2, not_false_eq_true, and_self, if_true]
                  rw [ew, decide_eq_false hin2]
                  wtm_at "gm"
                  refine run_dput rfl ?_
                  wtm_at "ea"
                  refine ix_K (k := Sum.inl ((row : Nat) : Int)) rfl (.own (.tail _ (.tail _ (.head _)))) getf ?_
                  wtm_at "ea"
                  refine ix_K (k := Sum.inl ((en.1 : Nat) : Int)) rfl (.own (.tail _ (.head _))) (d := nD en.2) ?_ ?_
                  · rw [valD_ik, lookup_mem s1.nd s3]
                    rfl
                  wtm_at "ea"
                  refine op_addI ?_
                  wtm_at "ea"
                  refine ix_K (k := Sum.inl ((row : Nat) : Int)) rfl (.own (.tail _ (.tail _ (.head _)))) getf ?_
                  wtm_at "ea"
                  refine ⟨pd, _, Sum.inl ((a : Nat) : Int), _, rfl, rfl, .there .here, by rw [List.length_map]; exact sz_lt (by omega), ?_⟩
                  refine run_expr (ev_append ?_)
                  wtm_at "ea"
                  refine ⟨pw, _, rfl, .head _, ?_⟩
                  wtm_at "ea"
                  refine ⟨_, _, .here, by rw [List.length_map, List.length_drop, List.length_map]; exact sz_lt (by omega), ?_⟩
                  refine run_nil (run_nil ⟨_, _, rfl, ?_⟩)
                  rw [putE_new]
                  · rw [List.map_append, List.drop_append_of_le_length (by rw [List.length_map]; omega)]
                    simp only [List.map_append, List.map_cons, List.map_nil]
                    rfl
                  · rw [List.map_map]
                    intro hm
                    obtain ⟨z, hz, ez⟩ := List.mem_map.mp hm
                    refine hin2 (List.mem_map.mpr ⟨z, hz, ?_⟩)
                    injection ez with ez
                    omega
              · have ew : putStep1 m rows en fl l = fl := by unfold putStep1; rw [hbe]; simp only [hin, false_and, if_false]
                rw [ew, decide_eq_false hin]
                wtm_at "gm"
                exact run_nil (run_nil ⟨_, _, rfl, rfl⟩)
          · rintro G' L' ⟨d, e, rfl, rfl⟩
            rw [List.length_range]
            obtain ⟨s1, s2, s3⟩ := steps 3
            refine run_nil ⟨n - 1, by omega, _, _, _, i + 1, _, rfl, rfl, s1, by omega, by omega, by omega, ?_⟩
            obtain ⟨k, rfl⟩ : ∃ k, n = k + 1 := ⟨n - 1, by omega⟩
            have e1 : putLoop m rows (k + 1) i fo = putLoop m rows k (i + 1) (putStep m rows fo i) := by
              show (if i < fo.length then _ else _) = _
              rw [if_pos q']
            have e2 : putStep m rows fo i = (List.range 3).foldl (putStep1 m rows en) fo := by
              unfold putStep
              rw [List.getD_eq_getElem?_getD, hfi]
              rfl
            rw [← hl, e1, e2]
            rfl
        · rename_i q
          have q' : ¬ i < fo.length := fun h => by
            have hil : i < (fo.map (·.1)).length := by rw [List.length_map]; exact h
            rw [List.drop_eq_getElem_cons hil] at q
            cases q
          have e1 : putLoop m rows n i fo = fo := by
            cases n with
            | zero => rfl
            | succ k =>
              show (if i < fo.length then _ else _) = _
              rw [if_neg q']
          rw [e1] at hl
          refine run_drop (List.sublist_cons_self _ _) ?_
          refine run_frzInK (pd := pd) (pf := pf) .here .here ?_
          refine run_nil ⟨_, _, _, _, _, rfl, ?_⟩
          have e2 : (pwaysD m rows pre).map (fun kv => (kv.1, subR pd (OW.dK (distD fo)).frz kv.2)) = pwaysD m rows pre := by
            rw [List.map_map]
            rfl
          have e3 : subR pd (OW.dK (distD fo)).frz (.ref pd) = .dK (distD fo) := if_pos rfl
          have e4 : pwaysD m rows (pre ++ [row]) = pwaysD m rows pre ++ [((Sum.inl ((row : Nat) : Int) : Key), D.dK (distD (putsTo m rows row)))] := by
            show List.map _ (pre ++ [row]) = _
            rw [List.map_append]
            rfl
          rw [List.map_append, e2, List.map_cons, List.map_nil, e3, hl, e4]
    · rintro G' L' ⟨a, b, c, d, e, rfl, rfl⟩
      refine run_frz (x := "found") (by wtm_at "lk") .here (by wtm_at "pt") ?_
      wtm_at "go"
end
end Rk10

open PySem L2 TL
namespace Rk10
section
variable {P : Program} {w : World} {K : PySem.W.Frag} {mg : Str → Option Value} {base : Heap}
/-! costs: letters put in, and letters read -/
theorem zip_rows (rows : List Nat) : enumD (rows.map nD) = (List.range rows.length).map fun i => D.tup [nD i, nD (rows.getD i 0)] := by
  unfold enumD
  rw [List.length_map]
  refine List.map_congr_left fun i hi => ?_
  have hi := List.mem_range.mp hi
  rw [List.getD_eq_getElem?_getD, List.getElem?_map, List.getElem?_eq_getElem hi, List.getD_eq_getElem?_getD, List.getElem?_eq_getElem hi]
  rfl
abbrev atL (rows : List Nat) : DistL := (List.range rows.length).map fun i => (rows.getD i 0, i)
theorem at_keys (rows : List Nat) : (atL rows).map (·.1) = rows := by
  rw [List.map_map]
  refine List.ext_getElem (by rw [List.length_map, List.length_range]) fun i h1 h2 => ?_
  rw [List.getElem_map, List.getElem_range]
  show rows.getD i 0 = _
  rw [List.getD_eq_getElem?_getD, List.getElem?_eq_getElem h2]
  rfl
theorem needed_nd (m : Mac) : (needed m).Nodup := (List.nodup_range.filter _).filter _
theorem needed_lt {m : Mac} {r : Nat} (h : r ∈ needed m) : r < m.tab.length := List.mem_range.mp (List.mem_filter.mp (List.mem_filter.mp h).1).1
theorem needed_len (m : Mac) : (needed m).length ≤ m.tab.length := nodup_bd _ _ (needed_nd m) fun _ h => needed_lt h
abbrev costF (Cp Cr : Addr) (m : Mac) (p : Pr) : List (Str × D) := [("reader", macR Cr m), ("prices", prD Cp p), ("needed_ones", .tup ((needed m).map nD)), ("ways", .dK (pwaysD m (needed m) (needed m))), ("at", .dK (distD (atL (needed m))))]
abbrev costD (Cc Cp Cr : Addr) (m : Mac) (p : Pr) : D := .ob Cc (costF Cp Cr m p)
def spCInit (Cc Cp Cm Cr : Addr) : Prm := fun ds L KK KE => ∃ (l : Addr) (m : Mac) (p : Pr), ds = [.ref l, macD Cm Cr m, prD Cp p] ∧ m.Ok ∧ m.tab.length < 64 ∧ L = [(l, .ins Cc [])] ∧ KK .non [(l, .ins Cc (costF Cp Cr m p))]
theorem ok_costs_init {f Cc Cp Cm Cr : Addr} {fd : FuncData} (FF : Fun K "__init__" "Costs.__init__" s_Costs_init f fd) (B : Bi mg) (cM : Cls K Cm) (c : Cls K Cc) (nI : NoAttr K Cm "inner") (n1 : NoAttr K Cc "reader") (n2 : NoAttr K Cc "prices") (n3 : NoAttr K Cc "needed_ones") (n4 : NoAttr K Cc "ways") (n5 : NoAttr K Cc "at")
    (g1 : Glob P w K mg base "needed_rows" ["reader"] (spNeeded Cr) 3) (g2 : Glob P w K mg base "put_ways" ["reader", "rows"] (spPutWays Cr) 2) : Def P w K mg base 4 f fd ["self", "machine", "prices"] (spCInit Cc Cp Cm Cr) := by
  refine def_ok FF sc_Costs_init ?_ ?_
  · rintro ds L KK KE ⟨l, m, p, rfl, _⟩
    rfl
  · rintro ds L KK KE ⟨l, m, p, rfl, hok, hlt, rfl, hk⟩ H0 F0
    wtm_at "bg"
    have hnl := needed_len m
    refine run_fld c n1 ?_
    wtm_at "ea"
    refine ⟨_, _, _, rfl, .here, Nat.le_of_ble_eq_true (by kernel_rfl), ?_⟩
    refine run_fld c n2 ?_
    wtm_at "ea"
    refine ⟨_, _, _, rfl, .here, Nat.le_of_ble_eq_true (by kernel_rfl), ?_⟩
    refine run_fld c n3 ?_
    wtm_at "ea"
    refine calls0 ⟨m, rfl, hok, hlt, rfl, ?_⟩
    wtm_at "ea"
    refine ⟨_, _, _, rfl, .here, Nat.le_of_ble_eq_true (by kernel_rfl), ?_⟩
    refine run_fld c n4 ?_
    wtm_at "ea"
    refine calls0 ⟨m, needed m, rfl, hok, hlt, needed_nd m, fun r hr => needed_lt hr, rfl, ?_⟩
    wtm_at "ea"
    refine ⟨_, _, _, rfl, .here, Nat.le_of_ble_eq_true (by kernel_rfl), ?_⟩
    refine run_fld c n5 ?_
    refine ev_frz ?_
    refine ev_dc [("place", 3), ("row", 4)] rfl (by kernel_rfl) (ei_enumT (by wtm_at "gl") (by wtm_at "bi") ?_)
    wtm_at "ea"
    refine ⟨_, rfl, ?_⟩
    refine dc_map (List.range (needed m).length) (fun i => .tup [nD i, nD ((needed m).getD i 0)]) (fun i => (Sum.inl (((needed m).getD i 0 : Nat) : Int), nD i)) (fun _ => true) (zip_rows _) (by rw [List.length_range]; exact sz_lt (by omega)) (fun _ h => (nomatch h)) ?_ ?_
    · intro F1 Dl e acc he
      refine tn_two (i := 3) (j := 4) rfl (by wtm_at "loc") rfl (by decide) (by wtm_at "loc") rfl (by decide) ?_
      wtm_at "wz"
      refine ⟨rfl, List.Sublist.refl _, fun _ => ?_⟩
      wtm_at "ea"
      exact ⟨rfl, rfl, List.Sublist.refl _⟩
    · intro Dl
      have ef : (List.range (needed m).length).filter (fun _ => true) = List.range (needed m).length := List.filter_eq_self.mpr fun _ _ => rfl
      have ed : dispE ((List.range (needed m).length).map fun i => ((Sum.inl (((needed m).getD i 0 : Nat) : Int) : Key), nD i)) = distD (atL (needed m)) := by
        have e1 : ((List.range (needed m).length).map fun i => ((Sum.inl (((needed m).getD i 0 : Nat) : Int) : Key), nD i)) = distD (atL (needed m)) := by
          show _ = List.map _ (List.map _ _)
          rw [List.map_map]
          rfl
        rw [e1]
        refine dispE_nodup ?_
        rw [List.map_map]
        have e2 : ((fun x : Key × D => x.1) ∘ fun e : Nat × Nat => ((Sum.inl ((e.1 : Nat) : Int) : Key), nD e.2)) = fun e => Sum.inl ((e.1 : Nat) : Int) := rfl
        rw [e2]
        have nd : ((atL (needed m)).map (·.1)).Nodup := by rw [at_keys]; exact needed_nd m
        refine List.pairwise_map.mpr ((List.pairwise_map.mp nd).imp fun {a b} hab => ?_)
        intro q
        injection q with q
        omega
      rw [ef, ed]
      refine ⟨Dl, _, _, rfl, .here, ?_⟩
      wtm_at "ea"
      refine ⟨_, _, _, rfl, .here, Nat.le_of_ble_eq_true (by kernel_rfl), ?_⟩
      refine run_nil ?_
      exact hk
def putC (m : Mac) (p : Pr) (a b : Nat) : Option Nat := ((putsTo m (needed m) a).lookup b).map (· * p.put)
def spPutC (Cc Cp Cr : Addr) : Prm := fun ds L KK KE => ∃ (m : Mac) (p : Pr) (a b : Nat), ds = [costD Cc Cp Cr m p, nD a, nD b] ∧ m.Ok ∧ m.tab.length < 64 ∧ p.Ok ∧ a ∈ needed m ∧ L = [] ∧ KK (optN (putC m p a b)) []
theorem ok_put_cost {f Cc Cp Cr : Addr} {fd : FuncData} (FF : Fun K "put_cost" "Costs.put_cost" s_Costs_put_cost f fd) (B : Bi mg) (c : Cls K Cc) (cP : Cls K Cp) (n2 : NoAttr K Cc "prices") (n4 : NoAttr K Cc "ways") (nP : NoAttr K Cp "put") : Def P w K mg base 1 f fd ["self", "row", "other"] (spPutC Cc Cp Cr) := by
  refine def_ok FF sc_Costs_put_cost ?_ ?_
  · rintro ds L KK KE ⟨m, p, a, b, rfl, _⟩
    rfl
  · rintro ds L KK KE ⟨m, p, a, b, rfl, hok, hlt, hp, ha, rfl, hk⟩ H0 F0
    wtm_at "bg"
    refine run_set (by wtm_at "loc") (by wtm_at "mem") (ev_get1 rfl ?_ (fun _ => ⟨rfl, rfl, rfl, rfl⟩))
    wtm_at "ea"
    have hw : valD (pwaysD m (needed m) (needed m)) (Sum.inl ((a : Nat) : Int)) = some (.dK (distD (putsTo m (needed m) a))) := by
      rw [pways_keys, if_pos ha]
    refine ix_K (k := Sum.inl ((a : Nat) : Int)) rfl .frz hw ?_
    refine ⟨_, .frz, ?_⟩
    wtm_at "ea"
    refine ⟨Sum.inl ((b : Nat) : Int), .frz, rfl, ?_⟩
    rw [valD_ik]
    refine ⟨_, by wtm_at "pt", ?_⟩
    have hk' : KK (optN (((putsTo m (needed m) a).lookup b).map (· * p.put))) [] := hk
    cases e : (putsTo m (needed m) a).lookup b with
    | none =>
      rw [e] at hk'
      show TL.Run _ [some (costD Cc Cp Cr m p), some (nD a), some (nD b), some .non] _ _ _
      wtm_at "go"
    | some n =>
      rw [e] at hk'
      show TL.Run _ [some (costD Cc Cp Cr m p), some (nD a), some (nD b), some (nD n)] _ _ _
      wtm_at "go"
      refine op_mulI (.inr ?_) ?_
      · have := hp.p9
        constructor <;> omega
      · have e2 : ((n : Nat) : Int) * ((p.put : Nat) : Int) = ((n * p.put : Nat) : Int) := (Int.natCast_mul n p.put).symm
        rw [e2]
        exact hk'
/-- one letter read at a row -/
def moveF (m : Mac) (rows : List Nat) (p : Pr) (row l o : Nat) : Option (Nat × Nat) := match beh m row o with
  | some a => if a ∈ rows then some (a, if o = l then 0 else p.change) else none
  | none => none
def movesL (m : Mac) (rows : List Nat) (p : Pr) (row l : Nat) : List (Nat × Nat) := (row, p.take) :: (List.range 3).filterMap (moveF m rows p row l)
abbrev pairD (e : Nat × Nat) : D := .tup [nD e.1, nD e.2]
theorem letS_eq {i j : Nat} (hi : i < 3) (hj : j < 3) : decide (letS i = letS j) = decide (i = j) := by
  have e1 : i = 0 ∨ i = 1 ∨ i = 2 := by omega
  have e2 : j = 0 ∨ j = 1 ∨ j = 2 := by omega
  rcases e1 with rfl | rfl | rfl <;> rcases e2 with rfl | rfl | rfl <;> decide +kernel
def spMoves (Cc Cp Cr : Addr) : Prm := fun ds L KK KE => ∃ (m : Mac) (p : Pr) (row l : Nat), ds = [costD Cc Cp Cr m p, nD row, .str (letS l)] ∧ m.Ok ∧ m.tab.length < 64 ∧ row < m.tab.length ∧ l < 3 ∧ L = [] ∧ KK (.lst ((movesL m (needed m) p row l).map pairD)) []
theorem ok_moves {f Cc Cp Cr : Addr} {fd : FuncData} (FF : Fun K "moves" "Costs.moves" s_Costs_moves f fd) (B : Bi mg) (gL : GTup K mg "LETTERS" letV) (c : Cls K Cc) (cP : Cls K Cp) (cR : Cls K Cr) (n1 : NoAttr K Cc "reader") (n2 : NoAttr K Cc "prices") (n5 : NoAttr K Cc "at") (nT : NoAttr K Cp "take") (nC : NoAttr K Cp "change")
    (m1 : Mth P w K mg base Cr "behind" ["self", "row", "letter"] (spBehind Cr) 1) : Def P w K mg base 2 f fd ["self", "row", "letter"] (spMoves Cc Cp Cr) := by
  refine def_ok FF sc_Costs_moves ?_ ?_
  · rintro ds L KK KE ⟨m, p, row, l, rfl, _⟩
    rfl
  · rintro ds L KK KE ⟨m, p, row, l, rfl, hok, hlt, hrow, hl, rfl, hk⟩ H0 F0
    wtm_at "bg"
    refine run_set (by wtm_at "loc") (by wtm_at "mem") (ev_lst ?_)
    wtm_at "ea"
    refine ⟨Nat.le_of_ble_eq_true rfl, ?_⟩
    wtm_at "ea"
    refine ⟨Nat.le_of_ble_eq_true rfl, fun pf => ?_⟩
    refine ⟨_, by wtm_at "pt", ?_⟩
    refine run_for rfl rfl (ei_tup ?_)
    wtm_at "ea"
    refine ⟨_, rfl, ?_⟩
    refine for_pre (List.range 3) (fun o => .str (letS o)) let_range (fun pre G' L' => ∃ d e : Option D, G' = [some (costD Cc Cp Cr m p), some (nD row), some (.str (letS l)), some (.ref pf), d, e] ∧ L' = [(pf, .lst ((((row, p.take) :: pre.filterMap (moveF m (needed m) p row l))).map pairD))]) ⟨_, _, rfl, rfl⟩ (fun _ _ _ _ _ h => (nomatch h)) ?_ ?_
    · rintro F1 pre o suf G' L' hsp ⟨d, e, rfl, rfl⟩
      have ho : o < 3 := List.mem_range.mp (by rw [hsp]; exact List.mem_append_right _ List.mem_cons_self)
      have hpl : pre.length ≤ 3 := by
        have := congrArg List.length hsp
        rw [List.length_append, List.length_range] at this
        omega
      have hfl : (pre.filterMap (moveF m (needed m) p row l)).length ≤ 3 := Nat.le_trans (List.length_filterMap_le _ _) hpl
      refine tgt_name (by wtm_at "loc") (by wtm_at "pt") ?_
      wtm_at "gm"
      refine calls0 ⟨m, some row, o, rfl, ho, hok.len, fun r hr => by cases hr; exact hrow, rfl, ?_⟩
      refine ⟨_, by wtm_at "pt", ?_⟩
      show TL.Run _ [some (costD Cc Cp Cr m p), some (nD row), some (.str (letS l)), some (.ref pf), some (.str (letS o)), some (optN (beh m row o))] _ _ _
      rw [List.filterMap_append]
      have fl1 : ∀ a : Nat, flatV (nV a) = true := fun _ => rfl
      cases hbe : beh m row o with
      | none =>
        have ew : [o].filterMap (moveF m (needed m) p row l) = [] := by simp only [List.filterMap_cons, moveF, hbe, List.filterMap_nil]
        rw [ew, List.append_nil]
        wtm_at "gm"
        refine op_inKn .frz ?_
        wtm_at "gm"
        exact run_nil (run_nil ⟨_, _, rfl, rfl⟩)
      | some a =>
        wtm_at "gm"
        refine op_inK (k := Sum.inl ((a : Nat) : Int)) rfl .frz ?_
        rw [isSome_ik, at_keys]
        by_cases hin : a ∈ needed m
        · have ew : [o].filterMap (moveF m (needed m) p row l) = [(a, if o = l then 0 else p.change)] := by simp only [List.filterMap_cons, moveF, hbe, hin, if_true, List.filterMap_nil]
          rw [ew, decide_eq_true hin]
          wtm_at "gm"
          refine ev_append ?_
          wtm_at "ea"
          refine ⟨pf, _, rfl, .head _, ?_⟩
          have fin : ∀ x : Nat, x = (if o = l then 0 else p.change) → ∃ (ds : List D) (L3 : Led), Chg [(pf, OW.lst (((row, p.take) :: pre.filterMap (moveF m (needed m) p row l)).map pairD))] pf (.lst ds) (.lst (ds ++ [pairD (a, x)])) L3 ∧ ds.length < sizeLine ∧
              L3 = [(pf, OW.lst (((row, p.take) :: (pre.filterMap (moveF m (needed m) p row l) ++ [(a, if o = l then 0 else p.change)])).map pairD))] := by
            intro x hx
            subst hx
            refine ⟨_, _, .here, by rw [List.length_map, List.length_cons]; exact sz_lt (by omega), ?_⟩
            rw [← List.cons_append, List.map_append]
            rfl
          wtm_at "ea"
          refine tst_cmp ?_
          wtm_at "ea"
          refine op_eqS ?_
          rw [letS_eq ho hl]
          by_cases hol : o = l
          · rw [decide_eq_true hol]
            refine ⟨_, rfl, fun _ => ?_, fun h => (nomatch h)⟩
            wtm_at "ea"
            refine ⟨Nat.le_of_ble_eq_true rfl, ?_⟩
            obtain ⟨ds, L3, h1, h2, h3⟩ := fin 0 (by rw [if_pos hol])
            refine ⟨ds, L3, h1, h2, ?_⟩
            subst h3
            exact run_nil (run_nil ⟨_, _, rfl, rfl⟩)
          · rw [decide_eq_false hol]
            refine ⟨_, rfl, fun h => (nomatch h), fun _ => ?_⟩
            wtm_at "ea"
            refine ⟨Nat.le_of_ble_eq_true rfl, ?_⟩
            obtain ⟨ds, L3, h1, h2, h3⟩ := fin p.change (by rw [if_neg hol])
            refine ⟨ds, L3, h1, h2, ?_⟩
            subst h3
            exact run_nil (run_nil ⟨_, _, rfl, rfl⟩)
        · have ew : [o].filterMap (moveF m (needed m) p row l) = [] := by simp only [List.filterMap_cons, moveF, hbe, hin, if_false, List.filterMap_nil]
          rw [ew, List.append_nil, decide_eq_false hin]
          wtm_at "gm"
          exact run_nil (run_nil ⟨_, _, rfl, rfl⟩)
    · rintro G' L' ⟨d, e, rfl, rfl⟩
      refine run_frz (x := "found") (by wtm_at "lk") .here (by wtm_at "pt") ?_
      wtm_at "go"
end
end Rk10

open PySem L2 TL
namespace Rk10
section
variable {P : Program} {w : World} {K : PySem.W.Frag} {mg : Str → Option Value} {base : Heap}
/-! the game: ends, answers -/
def minN (ns : List Nat) : Nat := ns.min?.getD 0
theorem min_eq {ns : List Nat} {x : Int} (h1 : x ∈ ns.map fun n => ((n : Nat) : Int)) (h2 : ∀ y ∈ ns.map (fun n => ((n : Nat) : Int)), x ≤ y) : x = ((minN ns : Nat) : Int) := by
  obtain ⟨n, hn, rfl⟩ := List.mem_map.mp h1
  have e : ns.min? = some n := List.min?_eq_some_iff.mpr ⟨hn, fun b hb => by
    have := h2 _ (List.mem_map.mpr ⟨b, hb, rfl⟩)
    omega⟩
  unfold minN
  rw [e]
  rfl
def maxN (ns : List Nat) : Nat := ns.max?.getD 0
theorem max_eq {ns : List Nat} {x : Int} (h1 : x ∈ ns.map fun n => ((n : Nat) : Int)) (h2 : ∀ y ∈ ns.map (fun n => ((n : Nat) : Int)), y ≤ x) : x = ((maxN ns : Nat) : Int) := by
  obtain ⟨n, hn, rfl⟩ := List.mem_map.mp h1
  have e : ns.max? = some n := List.max?_eq_some_iff.mpr ⟨hn, fun b hb => by
    have := h2 _ (List.mem_map.mpr ⟨b, hb, rfl⟩)
    omega⟩
  unfold maxN
  rw [e]
  rfl
theorem opt_list (xs : List (Option Nat)) : (xs.filter Option.isSome).map optN = ((xs.filterMap id).map fun n => ((n : Nat) : Int)).map D.int := by
  induction xs with
  | nil => rfl
  | cons o xs ih =>
    cases o with
    | none => exact ih
    | some n =>
      show optN (some n) :: (xs.filter Option.isSome).map optN = _
      rw [ih]
      rfl
def endsOf (m : Mac) : List Nat := (needed m).filter fun r => decide (r ∈ m.last)
def endC (m : Mac) (p : Pr) (a : Nat) : Nat := minN ((((endsOf m).map (putC m p a))).filterMap id)
/-- each needed row is led to itself and to an end -/
def gok (m : Mac) : Bool := (needed m).all fun a => ((putsTo m (needed m) a).lookup a == some 0) && (endsOf m).any fun e => ((putsTo m (needed m) a).lookup e).isSome
theorem endC_ne {m : Mac} (h : gok m = true) (p : Pr) {a : Nat} (ha : a ∈ needed m) : 0 < (((endsOf m).map (putC m p a)).filterMap id).length := by
  have h1 := List.all_eq_true.mp h a ha
  rw [Bool.and_eq_true] at h1
  obtain ⟨e, he, h2⟩ := List.any_eq_true.mp h1.2
  obtain ⟨n, hn⟩ := Option.isSome_iff_exists.mp h2
  refine List.length_pos_of_mem (a := n * p.put) (List.mem_filterMap.mpr ⟨some (n * p.put), List.mem_map.mpr ⟨e, he, ?_⟩, rfl⟩)
  unfold putC
  rw [hn]
  rfl
def spEndCost (Cg Cc Cp Cr : Addr) : Prm := fun ds L KK KE => ∃ (l : Addr) (fs : List (Str × D)) (m : Mac) (p : Pr) (a : Nat), ds = [.ref l, nD a] ∧ L = [(l, .ins Cg fs)] ∧ fs.lookup ("costs" : Str) = some (costD Cc Cp Cr m p) ∧ m.Ok ∧ m.tab.length < 64 ∧ p.Ok ∧ gok m = true ∧ a ∈ needed m ∧ KK (nD (endC m p a)) L
theorem ok_end_cost {f Cg Cc Cp Cr : Addr} {fd : FuncData} (FF : Fun K "end_cost" "Game.end_cost" s_Game_end_cost f fd) (B : Bi mg) (cG : Cls K Cg) (c : Cls K Cc) (cR : Cls K Cr) (nG : NoAttr K Cg "costs") (n3 : NoAttr K Cc "needed_ones") (n1 : NoAttr K Cc "reader") (nL : NoAttr K Cr "last")
    (m1 : Mth P w K mg base Cc "put_cost" ["self", "row", "other"] (spPutC Cc Cp Cr) 1) : Def P w K mg base 2 f fd ["self", "second"] (spEndCost Cg Cc Cp Cr) := by
  refine def_ok FF sc_Game_end_cost ?_ ?_
  · rintro ds L KK KE ⟨l, fs, m, p, a, rfl, _⟩
    rfl
  · rintro ds L KK KE ⟨l, fs, m, p, a, rfl, rfl, hfs, hok, hlt, hp, hg, ha, hk⟩ H0 F0
    wtm_at "bg"
    have hnl := needed_len m
    have flr : (m.last.map nD).all flatD = true := by
      rw [List.all_map]
      exact List.all_eq_true.mpr fun _ _ => rfl
    have hel : (endsOf m).length ≤ m.tab.length := Nat.le_trans (List.length_filter_le _ _) hnl
    refine run_setlc [("row", 4)] rfl (by kernel_rfl) (by wtm_at "mem") (by kernel_rfl) (ei_tup ?_) rfl rfl rfl
    wtm_at "ea"
    refine ⟨fs, _, .own (.head _), hfs, ?_⟩
    wtm_at "ea"
    refine ⟨_, rfl, ?_⟩
    refine lc_map (needed m) nD nD (fun r => decide (r ∈ m.last)) rfl (sz_lt (by omega)) (fun _ h => (nomatch h)) ?_ ?_
    · intro F1 Dl r acc hr
      refine tn_name (i := 4) (by wtm_at "loc") rfl (List.mem_singleton.mpr rfl) ?_
      wtm_at "wz"
      show TL.Tst _ _ _ _ _
      refine tst_cmp ?_
      wtm_at "ea"
      refine ⟨fs, _, .own (.tail _ (.head _)), hfs, ?_⟩
      wtm_at "ea"
      refine op_inQ .tup rfl flr ?_
      rw [show inD (nV r) (m.last.map nD) = decide (r ∈ m.last) from in_rows (some r) m.last]
      refine ⟨_, rfl, rfl, List.Sublist.refl _, fun _ => ?_⟩
      wtm_at "ea"
      exact ⟨rfl, List.Sublist.refl _⟩
    · intro pe
      refine ⟨_, by wtm_at "pt", ?_⟩
      refine run_setlc [("end", 5)] rfl (by kernel_rfl) (by wtm_at "mem") (by kernel_rfl) (ei_lst ?_) rfl rfl rfl
      wtm_at "ea"
      refine ⟨_, .own (.head _), ?_⟩
      refine lc_map (endsOf m) nD (fun e => optN (putC m p a e)) (fun _ => true) rfl (sz_lt (by omega)) (fun s hs => by rw [List.mem_singleton.mp hs]; exact .head _) ?_ ?_
      · intro F1 Dl e acc he
        refine tn_name (i := 5) (by wtm_at "loc") rfl (List.mem_singleton.mpr rfl) ?_
        wtm_at "wz"
        refine ⟨rfl, List.Sublist.refl _, fun _ => ?_⟩
        wtm_at "ea"
        refine ⟨fs, _, .own (.tail _ (.tail _ (.head _))), hfs, ?_⟩
        wtm_at "ea"
        exact calls0 ⟨m, p, a, e, rfl, hok, hlt, hp, ha, rfl, rfl, List.Sublist.refl _⟩
      · intro ps
        have ef : (endsOf m).filter (fun _ => true) = endsOf m := List.filter_eq_self.mpr fun _ _ => rfl
        rw [ef]
        refine ⟨_, by wtm_at "pt", ?_⟩
        refine run_ret (ev_drop ?_)
        wtm_at "ea"
        refine ev_lc [("price", 6)] rfl (by kernel_rfl) (ei_lst ?_)
        wtm_at "ea"
        refine ⟨_, .own (.head _), ?_⟩
        refine lc_map ((endsOf m).map (putC m p a)) optN optN Option.isSome (by rw [List.map_map]; rfl) (by rw [List.length_map]; exact sz_lt (by omega)) (fun s hs => by rw [List.mem_singleton.mp hs]; exact .head _) ?_ ?_
        · intro F1 Dl o acc ho
          refine tn_name (i := 6) (by wtm_at "loc") rfl (List.mem_singleton.mpr rfl) ?_
          wtm_at "wz"
          show TL.Tst _ _ _ _ _
          refine tst_cmp ?_
          wtm_at "ea"
          refine op_notN ?_
          have e : (!isN (optN o)) = o.isSome := by cases o <;> rfl
          rw [e]
          refine ⟨_, rfl, rfl, List.Sublist.refl _, fun _ => ?_⟩
          wtm_at "ea"
          exact ⟨rfl, List.Sublist.refl _⟩
        · intro pl
          rw [opt_list]
          wtm_at "ea"
          refine cv_minL rfl (.own (.head _)) (by rw [List.length_map]; exact endC_ne hg p ha) fun x h1 h2 => ?_
          rw [min_eq h1 h2]
          exact ⟨[(l, .ins Cg fs)], .cons _ (.cons _ (.cons _ (List.Sublist.refl _))), hk⟩
/-- a number at a key -/
def putN (f : DistL) (k v : Nat) : DistL := if (f.any fun e => decide (e.1 = k)) = true then f.map (fun e => if e.1 = k then (e.1, v) else e) else f ++ [(k, v)]
theorem natkey {a b : Nat} : decide ((Sum.inl ((a : Nat) : Int) : Key) = Sum.inl ((b : Nat) : Int)) = decide (a = b) := decide_eq_decide.mpr ⟨fun h => by injection h with h; omega, fun h => by rw [h]⟩
theorem putE_dist (f : DistL) (k v : Nat) : putE (distD f) (Sum.inl ((k : Nat) : Int)) (nD v) = distD (putN f k v) := by
  unfold putE putN
  have e1 : ((distD f).any fun kv => decide (kv.1 = (Sum.inl ((k : Nat) : Int) : Key))) = f.any fun e => decide (e.1 = k) := by
    rw [List.any_map]
    refine congrArg (List.any f) (funext fun e => ?_)
    exact natkey
  rw [e1]
  split
  · show List.map _ (List.map _ f) = List.map _ (List.map _ f)
    rw [List.map_map, List.map_map]
    refine List.map_congr_left fun e _ => ?_
    by_cases q : e.1 = k
    · have q2 : (Sum.inl ((e.1 : Nat) : Int) : Key) = Sum.inl ((k : Nat) : Int) := by rw [q]
      show (if _ then _ else _) = ((_ : Key), nD (if e.1 = k then (e.1, v) else e).2)
      rw [if_pos q2, if_pos q, q]
      simp [q]
    · have q2 : ¬ (Sum.inl ((e.1 : Nat) : Int) : Key) = Sum.inl ((k : Nat) : Int) := fun h => q (by injection h with h; omega)
      show (if _ then _ else _) = _
      rw [if_neg q2]
      simp [q]
  · show _ = List.map _ (f ++ [(k, v)])
    rw [List.map_append]
    rfl
def ansStep (ahead : Nat) (f : DistL) (e : Nat × Nat) : DistL := match f.lookup e.1 with
  | none => putN f e.1 (ahead + e.2)
  | some v => if ahead + e.2 < v then putN f e.1 (ahead + e.2) else f
def ansRow (m : Mac) (p : Pr) (a l : Nat) (f : DistL) (row : Nat) : DistL := match putC m p a row with
  | none => f
  | some ahead => (movesL m (needed m) p row l).foldl (ansStep ahead) f
def ansL (m : Mac) (p : Pr) (a l : Nat) : DistL := (needed m).foldl (ansRow m p a l) []
structure AnsOk (m : Mac) (f : DistL) : Prop where
  nd : (f.map (·.1)).Nodup
  mem : ∀ e ∈ f, e.1 ∈ needed m
theorem AnsOk.bd {m : Mac} {f : DistL} (h : AnsOk m f) : f.length ≤ m.tab.length := by
  have := nodup_bd m.tab.length (f.map (·.1)) h.nd fun x hx => by
    obtain ⟨e, he, rfl⟩ := List.mem_map.mp hx
    exact needed_lt (h.mem e he)
  rwa [List.length_map] at this
theorem AnsOk.put {m : Mac} {f : DistL} (h : AnsOk m f) {k v : Nat} (hk : k ∈ needed m) : AnsOk m (putN f k v) := by
  unfold putN
  split
  · refine ⟨?_, fun e he => ?_⟩
    · have e1 : (f.map fun e => if e.1 = k then (e.1, v) else e).map (·.1) = f.map (·.1) := by
        rw [List.map_map]
        refine List.map_congr_left fun e _ => ?_
        show (if e.1 = k then (e.1, v) else e).1 = e.1
        split <;> rfl
      rw [e1]
      exact h.nd
    · obtain ⟨x, hx, rfl⟩ := List.mem_map.mp he
      have := h.mem x hx
      split <;> exact this
  · rename_i hn
    refine ⟨?_, fun e he => ?_⟩
    · rw [List.map_append]
      refine List.nodup_append.mpr ⟨h.nd, List.nodup_cons.mpr ⟨(fun q => nomatch q), List.nodup_nil⟩, fun x hx y hy => ?_⟩
      rw [List.mem_singleton.mp hy]
      intro q
      obtain ⟨z, hz, rfl⟩ := List.mem_map.mp hx
      exact hn (List.any_eq_true.mpr ⟨z, hz, decide_eq_true q⟩)
    · rcases List.mem_append.mp he with he | he
      · exact h.mem e he
      · rw [List.mem_singleton.mp he]; exact hk
theorem AnsOk.step {m : Mac} {f : DistL} (h : AnsOk m f) {ahead : Nat} {e : Nat × Nat} (he : e.1 ∈ needed m) : AnsOk m (ansStep ahead f e) := by
  unfold ansStep
  split
  · exact h.put he
  · split
    · exact h.put he
    · exact h
theorem AnsOk.steps {m : Mac} {ahead : Nat} : ∀ {es : List (Nat × Nat)} {f : DistL}, AnsOk m f → (∀ e ∈ es, e.1 ∈ needed m) → AnsOk m (es.foldl (ansStep ahead) f) := by
  intro es
  induction es with
  | nil => intro f h _; exact h
  | cons e es ih => intro f h he; exact ih (h.step (he e List.mem_cons_self)) fun x hx => he x (List.mem_cons_of_mem _ hx)
theorem moves_mem {m : Mac} {p : Pr} {row l : Nat} (hr : row ∈ needed m) : ∀ e ∈ movesL m (needed m) p row l, e.1 ∈ needed m := by
  intro e he
  rcases List.mem_cons.mp he with rfl | he
  · exact hr
  · obtain ⟨o, _, h⟩ := List.mem_filterMap.mp he
    unfold moveF at h
    split at h
    · split at h
      · cases h
        assumption
      · cases h
    · cases h
theorem AnsOk.row {m : Mac} {p : Pr} {a l row : Nat} {f : DistL} (h : AnsOk m f) (hr : row ∈ needed m) : AnsOk m (ansRow m p a l f row) := by
  unfold ansRow
  split
  · exact h
  · exact h.steps (moves_mem hr)
theorem AnsOk.rows {m : Mac} {p : Pr} {a l : Nat} : ∀ {rs : List Nat} {f : DistL}, AnsOk m f → (∀ r ∈ rs, r ∈ needed m) → AnsOk m (rs.foldl (ansRow m p a l) f) := by
  intro rs
  induction rs with
  | nil => intro f h _; exact h
  | cons r rs ih => intro f h hr; exact ih (h.row (hr r List.mem_cons_self)) fun x hx => hr x (List.mem_cons_of_mem _ hx)
theorem ans_ok (m : Mac) (p : Pr) (a l : Nat) : AnsOk m (ansL m p a l) := AnsOk.rows ⟨List.nodup_nil, fun _ h => (nomatch h)⟩ fun _ h => h
end
end Rk10

open PySem L2 TL
namespace Rk10
section
variable {P : Program} {w : World} {K : PySem.W.Frag} {mg : Str → Option Value} {base : Heap}
theorem look_dist (f : DistL) (k : Nat) : valD (distD f) (Sum.inl ((k : Nat) : Int)) = (f.lookup k).map nD := valD_ik nD f k
def spAnswers (Cg Cc Cp Cr : Addr) : Prm := fun ds L KK KE => ∃ (lf : Addr) (fs : List (Str × D)) (m : Mac) (p : Pr) (a l : Nat), ds = [.ref lf, nD a, .str (letS l)] ∧ L = [(lf, .ins Cg fs)] ∧ fs.lookup ("costs" : Str) = some (costD Cc Cp Cr m p) ∧ m.Ok ∧ m.tab.length < 64 ∧ p.Ok ∧ a ∈ needed m ∧ l < 3 ∧ KK (.dK (distD (ansL m p a l))) L
theorem ok_answers {f Cg Cc Cp Cr : Addr} {fd : FuncData} (FF : Fun K "answers" "Game.answers" s_Game_answers f fd) (B : Bi mg) (cG : Cls K Cg) (c : Cls K Cc) (nG : NoAttr K Cg "costs") (n3 : NoAttr K Cc "needed_ones")
    (m1 : Mth P w K mg base Cc "put_cost" ["self", "row", "other"] (spPutC Cc Cp Cr) 1) (m2 : Mth P w K mg base Cc "moves" ["self", "row", "letter"] (spMoves Cc Cp Cr) 2) : Def P w K mg base 3 f fd ["self", "second", "letter"] (spAnswers Cg Cc Cp Cr) := by
  refine def_ok FF sc_Game_answers ?_ ?_
  · rintro ds L KK KE ⟨lf, fs, m, p, a, l, rfl, _⟩
    rfl
  · rintro ds L KK KE ⟨lf, fs, m, p, a, l, rfl, rfl, hfs, hok, hlt, hp, ha, hl, hk⟩ H0 F0
    wtm_at "bg"
    refine run_set (by wtm_at "loc") (by wtm_at "mem") (ev_dnew fun pf => ?_)
    refine ⟨_, by wtm_at "pt", ?_⟩
    refine run_for rfl rfl (ei_tup ?_)
    wtm_at "ea"
    refine ⟨fs, _, .own (.tail _ (.head _)), hfs, ?_⟩
    wtm_at "ea"
    refine ⟨_, rfl, ?_⟩
    refine for_pre (needed m) nD rfl (fun pre G' L' => ∃ b c d e : Option D, G' = [some (.ref lf), some (nD a), some (.str (letS l)), some (.ref pf), b, c, d, e] ∧ L' = [(pf, .dK (distD (pre.foldl (ansRow m p a l) []))), (lf, .ins Cg fs)] ∧ ∀ r ∈ pre, r ∈ needed m) ⟨_, _, _, _, rfl, rfl, fun _ h => (nomatch h)⟩ (fun _ _ _ _ _ h => (nomatch h)) ?_ ?_
    · rintro F1 pre row suf G' L' hsp ⟨b, c', d, e, rfl, rfl, hpre⟩
      have hrow : row ∈ needed m := by rw [hsp]; exact List.mem_append_right _ List.mem_cons_self
      have hpre2 : ∀ r ∈ pre ++ [row], r ∈ needed m := fun r hr => by
        rcases List.mem_append.mp hr with hr | hr
        · exact hpre r hr
        · rw [List.mem_singleton.mp hr]; exact hrow
      have ok0 : AnsOk m (pre.foldl (ansRow m p a l) []) := AnsOk.rows ⟨List.nodup_nil, fun _ h => (nomatch h)⟩ hpre
      have nx : (pre ++ [row]).foldl (ansRow m p a l) [] = ansRow m p a l (pre.foldl (ansRow m p a l) []) row := by
        rw [List.foldl_append]
        rfl
      rw [nx]
      generalize pre.foldl (ansRow m p a l) [] = fo at ok0
      refine tgt_name (by wtm_at "loc") (by wtm_at "pt") ?_
      refine run_set (by wtm_at "loc") (by wtm_at "mem") ?_
      wtm_at "ea"
      refine ⟨fs, _, .own (.tail _ (.head _)), hfs, ?_⟩
      wtm_at "ea"
      refine calls0 ⟨m, p, a, row, rfl, hok, hlt, hp, ha, rfl, ?_⟩
      refine ⟨_, by wtm_at "pt", ?_⟩
      show TL.Run _ [some (.ref lf), some (nD a), some (.str (letS l)), some (.ref pf), some (nD row), some (optN (putC m p a row)), d, e] _ _ _
      cases hpc : putC m p a row with
      | none =>
        have ew : ansRow m p a l fo row = fo := by unfold ansRow; rw [hpc]
        rw [ew]
        wtm_at "gm"
        exact run_nil (run_nil ⟨_, _, _, _, rfl, rfl, hpre2⟩)
      | some ahead =>
        have ew : ansRow m p a l fo row = (movesL m (needed m) p row l).foldl (ansStep ahead) fo := by unfold ansRow; rw [hpc]
        rw [ew]
        wtm_at "gm"
        refine run_for rfl rfl (ei_lst ?_)
        wtm_at "ea"
        refine ⟨fs, _, .own (.tail _ (.head _)), hfs, ?_⟩
        wtm_at "ea"
        refine calls0 ⟨m, p, row, l, rfl, hok, hlt, needed_lt hrow, hl, rfl, ?_⟩
        refine ⟨_, .frz, ?_⟩
        have mm := moves_mem (p := p) (l := l) hrow
        generalize movesL m (needed m) p row l = es at mm
        refine for_pre es pairD rfl (fun pre2 G' L' => ∃ d e : Option D, G' = [some (.ref lf), some (nD a), some (.str (letS l)), some (.ref pf), some (nD row), some (nD ahead), d, e] ∧ L' = [(pf, .dK (distD (pre2.foldl (ansStep ahead) fo))), (lf, .ins Cg fs)]) ⟨_, _, rfl, rfl⟩ (fun _ _ _ _ _ h => (nomatch h)) ?_ ?_
        · rintro F2 pre2 en suf2 G' L' hsp2 ⟨d, e, rfl, rfl⟩
          have hen : en.1 ∈ needed m := mm en (by rw [hsp2]; exact List.mem_append_right _ List.mem_cons_self)
          have ok1 : AnsOk m (pre2.foldl (ansStep ahead) fo) := ok0.steps fun x hx => mm x (by rw [hsp2]; exact List.mem_append_left _ hx)
          have ob := ok1.bd
          have nx2 : (pre2 ++ [en]).foldl (ansStep ahead) fo = ansStep ahead (pre2.foldl (ansStep ahead) fo) en := by
            rw [List.foldl_append]
            rfl
          rw [nx2]
          generalize pre2.foldl (ansStep ahead) fo = fl at ok1 ob
          refine tgt_two rfl (tgt_name (by wtm_at "loc") (by wtm_at "pt") (tgt_name (by wtm_at "loc") (by wtm_at "pt") ?_))
          wtm_at "gm"
          refine op_niK (k := Sum.inl ((en.1 : Nat) : Int)) rfl (.own (.head _)) ?_
          rw [look_dist]
          have eadd : ((ahead : Nat) : Int) + ((en.2 : Nat) : Int) = ((ahead + en.2 : Nat) : Int) := (Int.natCast_add ahead en.2).symm
          cases hlo : fl.lookup en.1 with
          | none =>
            have ea : ansStep ahead fl en = putN fl en.1 (ahead + en.2) := by unfold ansStep; rw [hlo]
            rw [ea]
            wtm_at "gm"
            refine run_dput rfl ?_
            wtm_at "ea"
            refine op_addI ?_
            rw [eadd]
            wtm_at "ea"
            refine ⟨pf, _, Sum.inl ((en.1 : Nat) : Int), _, rfl, rfl, .here, by rw [List.length_map]; exact sz_lt (by omega), ?_⟩
            rw [show putE (distD fl) (Sum.inl ((en.1 : Nat) : Int)) (D.int ((ahead + en.2 : Nat) : Int)) = distD (putN fl en.1 (ahead + en.2)) from putE_dist fl en.1 (ahead + en.2)]
            exact run_nil (run_nil ⟨_, _, rfl, rfl⟩)
          | some v =>
            wtm_at "gm"
            refine ix_K (k := Sum.inl ((en.1 : Nat) : Int)) rfl (.own (.head _)) (d := nD v) ?_ ?_
            · rw [look_dist, hlo]
              rfl
            wtm_at "gm"
            · rename_i q
              have q1 := of_decide_eq_true q
              have q2 : ahead + en.2 < v := by omega
              have ea : ansStep ahead fl en = putN fl en.1 (ahead + en.2) := by unfold ansStep; rw [hlo]; exact if_pos q2
              rw [ea]
              refine run_dput rfl ?_
              wtm_at "ea"
              refine op_addI ?_
              rw [eadd]
              wtm_at "ea"
              refine ⟨pf, _, Sum.inl ((en.1 : Nat) : Int), _, rfl, rfl, .here, by rw [List.length_map]; exact sz_lt (by omega), ?_⟩
              rw [show putE (distD fl) (Sum.inl ((en.1 : Nat) : Int)) (D.int ((ahead + en.2 : Nat) : Int)) = distD (putN fl en.1 (ahead + en.2)) from putE_dist fl en.1 (ahead + en.2)]
              exact run_nil (run_nil ⟨_, _, rfl, rfl⟩)
            · rename_i q
              have q1 := of_decide_eq_false q
              have q2 : ¬ ahead + en.2 < v := by omega
              have ea : ansStep ahead fl en = fl := by unfold ansStep; rw [hlo]; exact if_neg q2
              rw [ea]
              exact run_nil (run_nil ⟨_, _, rfl, rfl⟩)
        · rintro G' L' ⟨d, e, rfl, rfl⟩
          exact run_nil (run_nil ⟨_, _, _, _, rfl, rfl, hpre2⟩)
    · rintro G' L' ⟨b, c', d, e, rfl, rfl, _⟩
      refine run_frz (x := "found") (by wtm_at "lk") .here (by wtm_at "pt") ?_
      refine run_ret ?_
      wtm_at "ea"
      exact hk
end
end Rk10

open PySem L2 TL
namespace Rk10
section
variable {P : Program} {w : World} {K : PySem.W.Frag} {mg : Str → Option Value} {base : Heap}
/-! the game itself -/
def pairsL (m1 m2 : Mac) : List (Nat × Nat) := (needed m1).flatMap fun a => (needed m2).map fun b => (a, b)
abbrev endL (m : Mac) (p : Pr) : DistL := (needed m).map fun a => (a, endC m p a)
abbrev ansK (a l : Nat) : List Key := [Sum.inl ((a : Nat) : Int), lkey l]
abbrev ansE (m : Mac) (p : Pr) (a l : Nat) : List Key × D := (ansK a l, D.dK (distD (ansL m p a l)))
abbrev ansRowD (m : Mac) (p : Pr) (a : Nat) : List (List Key × D) := (List.range 3).map (ansE m p a)
abbrev ansD (m : Mac) (p : Pr) : List (List Key × D) := (needed m).flatMap (ansRowD m p)
abbrev gameF (Cc Cp Cr : Addr) (m1 m2 : Mac) (p : Pr) : List (Str × D) := [("reader", macR Cr m1), ("firsts", .tup ((needed m1).map nD)), ("costs", costD Cc Cp Cr m2 p), ("pairs", .lst ((pairsL m1 m2).map pairD)), ("end_costs", .dK (distD (endL m2 p))), ("all_answers", .dT (ansD m2 p))]
abbrev gameD (Cg Cc Cp Cr : Addr) (m1 m2 : Mac) (p : Pr) : D := .ob Cg (gameF Cc Cp Cr m1 m2 p)
structure GameOk (m1 m2 : Mac) (p : Pr) : Prop where
  o1 : m1.Ok
  o2 : m2.Ok
  l1 : m1.tab.length < 64
  l2 : m2.tab.length < 64
  pr : p.Ok
  g : gok m2 = true
theorem pairs_len {m1 m2 : Mac} (h1 : m1.tab.length < 64) (h2 : m2.tab.length < 64) : ((needed m1).flatMap fun _ => needed m2).length < sizeLine := by
  have e : ∀ xs : List Nat, (xs.flatMap fun _ => needed m2).length = xs.length * (needed m2).length := by
    intro xs
    induction xs with
    | nil => rw [List.flatMap_nil, List.length_nil, Nat.zero_mul]
    | cons x xs ih => rw [List.flatMap_cons, List.length_append, ih, List.length_cons, Nat.succ_mul, Nat.add_comm]
  rw [e]
  have a1 := needed_len m1
  have a2 := needed_len m2
  have : (needed m1).length * (needed m2).length ≤ 64 * 64 := Nat.mul_le_mul (by omega) (by omega)
  exact sz_lt (by omega)
theorem ans_len (m : Mac) (p : Pr) (pre : List Nat) : (pre.flatMap (ansRowD m p)).length = 3 * pre.length := by
  induction pre with
  | nil => rfl
  | cons r pre ih =>
    rw [List.flatMap_cons, List.length_append, ih, List.length_cons, List.length_map, List.length_range]
    omega
theorem end_disp (m : Mac) (p : Pr) : dispE ((needed m).map fun a => ((Sum.inl ((a : Nat) : Int) : Key), nD (endC m p a))) = distD (endL m p) := by
  have e1 : ((needed m).map fun a => ((Sum.inl ((a : Nat) : Int) : Key), nD (endC m p a))) = distD (endL m p) := by
    show _ = List.map _ (List.map _ _)
    rw [List.map_map]
    rfl
  rw [e1]
  refine dispE_nodup ?_
  rw [List.map_map]
  have nd : ((endL m p).map (·.1)).Nodup := by
    rw [List.map_map]
    have : (needed m).map ((fun x : Nat × Nat => x.1) ∘ fun a => (a, endC m p a)) = needed m := List.map_id' _
    rw [this]
    exact needed_nd m
  refine List.pairwise_map.mpr ((List.pairwise_map.mp nd).imp fun {a b} hab => ?_)
  intro q
  have q2 : (Sum.inl ((a.1 : Nat) : Int) : Key) = Sum.inl ((b.1 : Nat) : Int) := q
  injection q2 with q2
  omega
def spGInit (Cg Cc Cp Cm Cr : Addr) : Prm := fun ds L KK KE => ∃ (l : Addr) (m1 m2 : Mac) (p : Pr), ds = [.ref l, macD Cm Cr m1, macD Cm Cr m2, prD Cp p] ∧ GameOk m1 m2 p ∧ L = [(l, .ins Cg [])] ∧ KK .non [(l, .ins Cg (gameF Cc Cp Cr m1 m2 p))]
theorem ans_new {m : Mac} {p : Pr} {pre : List Nat} {row l : Nat} {ls : List Nat} (h1 : row ∉ pre) (h2 : l < 3) (h3 : ∀ x ∈ ls, x < 3 ∧ x ≠ l) : ansK row l ∉ (pre.flatMap (ansRowD m p) ++ ls.map (ansE m p row)).map (·.1) := by
  intro hm
  rw [List.map_append] at hm
  rcases List.mem_append.mp hm with hm | hm
  · obtain ⟨z, hz, e⟩ := List.mem_map.mp hm
    obtain ⟨r, hr, hz⟩ := List.mem_flatMap.mp hz
    obtain ⟨x, _, rfl⟩ := List.mem_map.mp hz
    have e1 : (Sum.inl ((r : Nat) : Int) : Key) = Sum.inl ((row : Nat) : Int) := (List.cons.inj e).1
    injection e1 with e1
    exact h1 (by rw [show row = r by omega]; exact hr)
  · rw [List.map_map] at hm
    obtain ⟨x, hx, e⟩ := List.mem_map.mp hm
    have e1 : lkey x = lkey l := (List.cons.inj (List.cons.inj e).2).1
    obtain ⟨h4, h5⟩ := h3 x hx
    have := lkey_dec ⟨x, h4⟩ ⟨l, h2⟩
    rw [decide_eq_true e1, eq_comm, decide_eq_true_eq] at this
    exact h5 this
theorem ok_game_init {f Cg Cc Cp Cm Cr : Addr} {fd : FuncData} (FF : Fun K "__init__" "Game.__init__" s_Game_init f fd) (B : Bi mg) (gL : GTup K mg "LETTERS" letV) (cM : Cls K Cm) (cG : Cls K Cg) (c : Cls K Cc) (nI : NoAttr K Cm "inner")
    (n1 : NoAttr K Cg "reader") (n2 : NoAttr K Cg "firsts") (n3 : NoAttr K Cg "costs") (n4 : NoAttr K Cg "pairs") (n5 : NoAttr K Cg "end_costs") (n6 : NoAttr K Cg "all_answers") (n7 : NoAttr K Cc "needed_ones")
    (g1 : Glob P w K mg base "needed_rows" ["reader"] (spNeeded Cr) 3) (g2 : Cla P w K mg base "Costs" Cc ["self", "machine", "prices"] (spCInit Cc Cp Cm Cr) 4)
    (m1 : Mth P w K mg base Cg "end_cost" ["self", "second"] (spEndCost Cg Cc Cp Cr) 2) (m2 : Mth P w K mg base Cg "answers" ["self", "second", "letter"] (spAnswers Cg Cc Cp Cr) 3) : Def P w K mg base 6 f fd ["self", "one", "other", "prices"] (spGInit Cg Cc Cp Cm Cr) := by
  refine def_ok FF sc_Game_init ?_ ?_
  · rintro ds L KK KE ⟨l, a1, a2, p, rfl, _⟩
    rfl
  · rintro ds L KK KE ⟨l, a1, a2, p, rfl, ok, rfl, hk⟩ H0 F0
    wtm_at "bg"
    refine run_fld cG n1 ?_
    wtm_at "ea"
    refine ⟨_, _, _, rfl, .here, Nat.le_of_ble_eq_true (by kernel_rfl), ?_⟩
    refine run_fld cG n2 ?_
    wtm_at "ea"
    refine calls0 ⟨a1, rfl, ok.o1, ok.l1, rfl, ?_⟩
    wtm_at "ea"
    refine ⟨_, _, _, rfl, .here, Nat.le_of_ble_eq_true (by kernel_rfl), ?_⟩
    refine run_fld cG n3 ?_
    refine ev_frz ?_
    wtm_at "ea"
    intro l2
    refine ⟨[(l2, .ins Cc [])], [(l, .ins Cg _)], List.Perm.refl _, _, fun _ => List.Perm.refl _, l2, a2, p, rfl, ok.o2, ok.l2, rfl, ?_⟩
    refine ⟨rfl, _, _, _, rfl, .here, ?_⟩
    wtm_at "ea"
    refine ⟨_, _, _, rfl, .here, Nat.le_of_ble_eq_true (by kernel_rfl), ?_⟩
    refine run_fld cG n4 ?_
    refine ev_frz ?_
    refine ev_lc2 [("first", 6), ("second", 7)] [7] rfl (by kernel_rfl) (by decide) (ei_tup ?_)
    wtm_at "ea"
    refine ⟨_, rfl, ?_⟩
    refine ⟨Nat, Nat, needed a1, fun _ => needed a2, nD, fun _ => nD, fun a b => pairD (a, b), rfl, (fun _ h => (nomatch h)), pairs_len ok.l1 ok.l2, ?_, ?_⟩
    · intro F1 Dl x acc hx
      refine tn_name (i := 6) (by wtm_at "loc") rfl (by decide) ?_
      wtm_at "wz"
      refine ei_tup ?_
      wtm_at "ea"
      refine ⟨_, rfl, rfl, (fun _ h => (nomatch h)), rfl, ?_⟩
      intro F2 y acc2 hy
      refine tn_name (i := 7) (by wtm_at "loc") rfl (by decide) ?_
      wtm_at "wz"
      wtm_at "ea"
      refine ⟨Nat.le_of_ble_eq_true rfl, ?_⟩
      exact ⟨rfl, List.Sublist.refl _⟩
    intro pl
    have epl : ((needed a1).flatMap fun x => (needed a2).map fun b => pairD (x, b)) = (pairsL a1 a2).map pairD := by
      unfold pairsL
      rw [List.map_flatMap]
      refine congrArg (List.flatMap · (needed a1)) (funext fun a => ?_)
      rw [List.map_map]
      rfl
    rw [epl]
    refine ⟨pl, _, _, rfl, .here, ?_⟩
    wtm_at "ea"
    refine ⟨_, _, _, rfl, .here, Nat.le_of_ble_eq_true (by kernel_rfl), ?_⟩
    refine run_fld cG n5 ?_
    refine ev_frz ?_
    refine ev_dc [("row", 4)] rfl (by kernel_rfl) (ei_tup ?_)
    wtm_at "ea"
    refine ⟨_, rfl, ?_⟩
    have nl2 := needed_len a2
    have l2' := ok.l2
    refine dc_map (needed a2) nD (fun a => (Sum.inl ((a : Nat) : Int), nD (endC a2 p a))) (fun _ => true) rfl (sz_lt (by omega)) (fun _ h => (nomatch h)) ?_ ?_
    · intro F1 Dl a acc ha
      refine tn_name (i := 4) (by wtm_at "loc") rfl (by decide) ?_
      wtm_at "wz"
      refine ⟨rfl, List.Sublist.refl _, fun _ => ?_⟩
      wtm_at "ea"
      refine calls_2 ⟨l, _, a2, p, a, rfl, rfl, rfl, ok.o2, ok.l2, ok.pr, ok.g, ha, ?_⟩
      exact ⟨rfl, rfl, List.Sublist.refl _⟩
    intro pd
    have ef : (needed a2).filter (fun _ => true) = needed a2 := List.filter_eq_self.mpr fun _ _ => rfl
    rw [ef, end_disp]
    refine ⟨pd, _, _, rfl, .here, ?_⟩
    wtm_at "ea"
    refine ⟨_, _, _, rfl, .here, Nat.le_of_ble_eq_true (by kernel_rfl), ?_⟩
    refine run_fld cG n6 (ev_dnewT fun pa => ?_)
    wtm_at "ea"
    refine ⟨_, _, _, rfl, .there .here, Nat.le_of_ble_eq_true (by kernel_rfl), ?_⟩
    refine run_for rfl rfl (ei_tup ?_)
    wtm_at "ea"
    refine ⟨_, rfl, ?_⟩
    refine for_pre (needed a2) nD rfl (fun pre G' L' => ∃ r t : Option D, G' = [some (.ref l), some (macD Cm Cr a1), some (macD Cm Cr a2), some (prD Cp p), r, t, none, none] ∧ L' = [(pa, .dT (pre.flatMap (ansRowD a2 p))), (l, .ins Cg [("reader", macR Cr a1), ("firsts", .tup ((needed a1).map nD)), ("costs", costD Cc Cp Cr a2 p), ("pairs", .lst ((pairsL a1 a2).map pairD)), ("end_costs", .dK (distD (endL a2 p))), ("all_answers", .ref pa)])]) ⟨_, _, rfl, rfl⟩ (fun _ _ _ _ _ h => (nomatch h)) ?_ ?_
    · rintro F1 pre row suf G' L' hsp ⟨r, t, rfl, rfl⟩
      have hrow : row ∈ needed a2 := by rw [hsp]; exact List.mem_append_right _ List.mem_cons_self
      have hnp : row ∉ pre := fun q => by
        have nd := needed_nd a2
        rw [hsp] at nd
        exact (List.nodup_append.mp nd).2.2 _ q _ List.mem_cons_self rfl
      have hpl : pre.length < 64 := by
        have := congrArg List.length hsp
        rw [List.length_append, List.length_cons] at this
        omega
      have nx : (pre ++ [row]).flatMap (ansRowD a2 p) = pre.flatMap (ansRowD a2 p) ++ ansRowD a2 p row := by
        rw [List.flatMap_append, List.flatMap_cons, List.flatMap_nil, List.append_nil]
      have hal := ans_len a2 p pre
      rw [nx]
      refine tgt_name (by wtm_at "loc") (by wtm_at "pt") ?_
      refine run_for rfl rfl (ei_tup ?_)
      wtm_at "ea"
      refine ⟨_, rfl, ?_⟩
      refine for_pre (List.range 3) (fun o => .str (letS o)) let_range (fun pre2 G' L' => ∃ t : Option D, G' = [some (.ref l), some (macD Cm Cr a1), some (macD Cm Cr a2), some (prD Cp p), some (nD row), t, none, none] ∧ L' = [(pa, .dT (pre.flatMap (ansRowD a2 p) ++ pre2.map (ansE a2 p row))), (l, .ins Cg [("reader", macR Cr a1), ("firsts", .tup ((needed a1).map nD)), ("costs", costD Cc Cp Cr a2 p), ("pairs", .lst ((pairsL a1 a2).map pairD)), ("end_costs", .dK (distD (endL a2 p))), ("all_answers", .ref pa)])]) ⟨_, rfl, by rw [List.map_nil, List.append_nil]⟩ (fun _ _ _ _ _ h => (nomatch h)) ?_ ?_
      · rintro F2 pre2 o suf2 G' L' hsp2 ⟨t, rfl, rfl⟩
        have ho : o < 3 := List.mem_range.mp (by rw [hsp2]; exact List.mem_append_right _ List.mem_cons_self)
        have hp2 : pre2.length ≤ 3 := by
          have := congrArg List.length hsp2
          rw [List.length_append, List.length_range] at this
          omega
        have hne : ∀ x ∈ pre2, x < 3 ∧ x ≠ o := fun x hx => by
          refine ⟨List.mem_range.mp (by rw [hsp2]; exact List.mem_append_left _ hx), fun q => ?_⟩
          have nd : (List.range 3).Nodup := List.nodup_range
          rw [hsp2] at nd
          exact (List.nodup_append.mp nd).2.2 _ hx _ List.mem_cons_self q
        refine tgt_name (by wtm_at "loc") (by wtm_at "pt") ?_
        refine run_dputT rfl ?_
        wtm_at "ea"
        refine calls_2 ⟨l, _, a2, p, row, o, rfl, rfl, rfl, ok.o2, ok.l2, ok.pr, hrow, ho, ?_⟩
        wtm_at "ea"
        refine ⟨Nat.le_of_ble_eq_true rfl, ?_⟩
        refine ⟨pa, _, ansK row o, _, rfl, rfl, .here, ?_, ?_⟩
        · rw [List.length_append, hal, List.length_map]
          exact sz_lt (by omega)
        rw [putE_newT (ans_new hnp ho hne), List.append_assoc]
        refine run_nil ⟨_, rfl, ?_⟩
        rw [List.map_append]
        rfl
      · rintro G' L' ⟨t, rfl, rfl⟩
        exact run_nil ⟨_, _, rfl, rfl⟩
    · rintro G' L' ⟨r, t, rfl, rfl⟩
      refine run_frzInO (pd := pa) (pf := l) .here .here ?_
      refine run_nil ?_
      have e : ([("reader", macR Cr a1), ("firsts", .tup ((needed a1).map nD)), ("costs", costD Cc Cp Cr a2 p), ("pairs", .lst ((pairsL a1 a2).map pairD)), ("end_costs", .dK (distD (endL a2 p))), ("all_answers", .ref pa)] : List (Str × D)).map (fun kv => (kv.1, subR pa (OW.dT ((needed a2).flatMap (ansRowD a2 p))).frz kv.2)) = gameF Cc Cp Cr a1 a2 p := by
        have e1 : subR pa (OW.dT ((needed a2).flatMap (ansRowD a2 p))).frz (.ref pa) = .dT ((needed a2).flatMap (ansRowD a2 p)) := if_pos rfl
        simp only [List.map_cons, List.map_nil]
        rw [e1]
        rfl
      rw [e]
      exact hk
end
end Rk10

open PySem L2 TL
namespace Rk10
section
variable {P : Program} {w : World} {K : PySem.W.Frag} {mg : Str → Option Value} {base : Heap}
/-! the least number that is enough, by those behind -/
abbrev htK (a b : Nat) : List Key := [Sum.inl ((a : Nat) : Int), Sum.inl ((b : Nat) : Int)]
def Hts (kvs : List (List Key × D)) (h : Nat → Nat → Option Nat) : Prop := ∀ a b, (valD kvs (htK a b)).getD .non = optN (h a b)
theorem Hts.get {kvs : List (List Key × D)} {h : Nat → Nat → Option Nat} (t : Hts kvs h) {a b n : Nat} (e : h a b = some n) : valD kvs (htK a b) = some (nD n) := by
  have := t a b
  rw [e] at this
  cases v : valD kvs (htK a b) with
  | none => rw [v] at this; cases this
  | some d => rw [v] at this; exact congrArg some this
def bestL (f : DistL) (h : Nat → Nat → Option Nat) (x : Nat) : List Nat := f.filterMap fun e => (h x e.1).map (e.2 + ·)
def bestN (f : DistL) (h : Nat → Nat → Option Nat) (x : Nat) : Option Nat := match bestL f h x with
  | [] => none
  | l => some (minN l)
theorem best_list (f : DistL) (h : Nat → Nat → Option Nat) (x : Nat) : (f.filter fun e => (h x e.1).isSome).map (fun e => nD (e.2 + (h x e.1).getD 0)) = ((bestL f h x).map fun n => ((n : Nat) : Int)).map D.int := by
  unfold bestL
  induction f with
  | nil => rfl
  | cons e f ih =>
    cases q : h x e.1 with
    | none =>
      rw [List.filter_cons, if_neg (by rw [q]; exact Bool.false_ne_true), List.filterMap_cons, q]
      exact ih
    | some n =>
      rw [List.filter_cons, if_pos (by rw [q]; rfl), List.filterMap_cons, q, List.map_cons, ih, q]
      rfl
def spBest (Cg : Addr) : Prm := fun ds L KK KE => ∃ (fs : List (Str × D)) (f : DistL) (x : Nat) (kvs : List (List Key × D)) (h : Nat → Nat → Option Nat), ds = [.ob Cg fs, .dK (distD f), nD x, .dT kvs] ∧ (f.map (·.1)).Nodup ∧ f.length < 64 ∧ Hts kvs h ∧ L = [] ∧ KK (optN (bestN f h x)) []
theorem ok_best {f Cg : Addr} {fd : FuncData} (FF : Fun K "best" "Game.best" s_Game_best f fd) (B : Bi mg) : Def P w K mg base 1 f fd ["self", "prices", "after", "heights"] (spBest Cg) := by
  refine def_ok FF sc_Game_best ?_ ?_
  · rintro ds L KK KE ⟨fs, f, x, kvs, h, rfl, _⟩
    rfl
  · rintro ds L KK KE ⟨fs, fo, x, kvs, h, rfl, nd, hl, ht, rfl, hk⟩ H0 F0
    wtm_at "bg"
    refine run_setlcK [("row", 5)] rfl (by kernel_rfl) (by wtm_at "mem") (by kernel_rfl) (path_name (by wtm_at "lk") (by wtm_at "vis") (by kernel_rfl) (by kernel_rfl)) ?_ rfl rfl rfl
    intro H1 F1
    refine lc_map fo (fun e => nD e.1) (fun e => nD (e.2 + (h x e.1).getD 0)) (fun e => (h x e.1).isSome) (by show List.map _ (List.map _ fo) = _; rw [List.map_map]; rfl) (sz_lt (by omega)) (fun _ hh => (nomatch hh)) ?_ ?_
    · intro F2 Dl e acc he
      refine tn_name (i := 5) (by wtm_at "loc") rfl (List.mem_singleton.mpr rfl) ?_
      wtm_at "wz"
      show TL.Tst _ _ _ _ _
      refine tst_cmp (ev_get1T rfl ?_ (fun _ => ⟨rfl, rfl, rfl, rfl⟩))
      wtm_at "ea"
      refine ⟨kvs, .frz, ?_⟩
      wtm_at "ea"
      refine ⟨Nat.le_of_ble_eq_true rfl, htK x e.1, .frz, rfl, ?_⟩
      rw [ht x e.1]
      wtm_at "ea"
      refine op_notN ?_
      have e1 : (!isN (optN (h x e.1))) = (h x e.1).isSome := by cases h x e.1 <;> rfl
      rw [e1]
      refine ⟨_, rfl, rfl, List.Sublist.refl _, fun hs => ?_⟩
      obtain ⟨n, hn⟩ := Option.isSome_iff_exists.mp hs
      wtm_at "ea"
      refine ix_K (k := Sum.inl ((e.1 : Nat) : Int)) rfl .frz (d := nD e.2) ?_ ?_
      · rw [look_dist, lookup_mem nd he]
        rfl
      wtm_at "ea"
      refine ⟨Nat.le_of_ble_eq_true rfl, ?_⟩
      refine ix_KT (k := htK x e.1) rfl .frz (ht.get hn) ?_
      refine op_addI ?_
      rw [hn]
      exact ⟨congrArg D.int (Int.natCast_add e.2 n).symm, List.Sublist.refl _⟩
    · intro pl
      rw [best_list]
      refine ⟨_, by wtm_at "pt", ?_⟩
      have hk' : KK (optN (match bestL fo h x with
        | [] => none
        | l => some (minN l))) [] := hk
      cases hb : bestL fo h x with
      | nil =>
        rw [hb] at hk'
        wtm_at "go"
      | cons n ns =>
        rw [hb] at hk'
        wtm_at "go"
        refine cv_minL rfl (.own (.head _)) (Nat.le_of_ble_eq_true rfl) fun y h1 h2 => ?_
        rw [min_eq h1 h2]
        exact hk'
end
end Rk10

open PySem L2 TL
namespace Rk10
section
variable {P : Program} {w : World} {K : PySem.W.Frag} {mg : Str → Option Value} {base : Heap}
def needF (m1 m2 : Mac) (p : Pr) (h : Nat → Nat → Option Nat) (a b l : Nat) : Option (Option Nat) := match beh m1 a l with
  | some x => if x ∈ needed m1 then some (bestN (ansL m2 p b l) h x) else none
  | none => none
def needB (m1 m2 : Mac) (p : Pr) (a b : Nat) : Nat := if a ∈ m1.last then endC m2 p b else 0
def needL (m1 m2 : Mac) (p : Pr) (h : Nat → Nat → Option Nat) (a b : Nat) : List (Option Nat) := some (needB m1 m2 p a b) :: (List.range 3).filterMap (needF m1 m2 p h a b)
def needN (m1 m2 : Mac) (p : Pr) (h : Nat → Nat → Option Nat) (a b : Nat) : Option Nat := if (needL m1 m2 p h a b).all Option.isSome = true then some (maxN ((needL m1 m2 p h a b).filterMap id)) else none
theorem ans_at {m : Mac} {p : Pr} {a l : Nat} (ha : a ∈ needed m) (hl : l < 3) : valD (ansD m p) (ansK a l) = some (.dK (distD (ansL m p a l))) := by
  have row : ∀ (r : Nat) (ls : List Nat), (∀ x ∈ ls, x < 3) → valD (ls.map (ansE m p r)) (ansK a l) = if r = a ∧ l ∈ ls then some (.dK (distD (ansL m p a l))) else none := by
    intro r ls
    induction ls with
    | nil => intro _; simp [valD]
    | cons x ls ih =>
      intro hx
      rw [List.map_cons]
      have ih := ih fun y hy => hx y (List.mem_cons_of_mem _ hy)
      unfold valD at ih ⊢
      rw [List.find?_cons]
      have hd : decide ((ansE m p r x).1 = ansK a l) = decide (r = a ∧ x = l) := by
        have e1 := lkey_dec ⟨x, hx x List.mem_cons_self⟩ ⟨l, hl⟩
        have e2 := natkey (a := r) (b := a)
        have e3 : ((ansE m p r x).1 = ansK a l) ↔ ((Sum.inl ((r : Nat) : Int) : Key) = Sum.inl ((a : Nat) : Int) ∧ lkey x = lkey l) := by
          constructor
          · intro q
            exact ⟨(List.cons.inj q).1, (List.cons.inj (List.cons.inj q).2).1⟩
          · rintro ⟨q1, q2⟩
            show [_, _] = [_, _]
            rw [q1, q2]
        refine decide_eq_decide.mpr (e3.trans ?_)
        rw [decide_eq_decide] at e1 e2
        exact and_congr e2 e1
      rw [hd]
      by_cases q : r = a ∧ x = l
      · rw [decide_eq_true q]
        obtain ⟨rfl, rfl⟩ := q
        simp
      · rw [decide_eq_false q]
        simp only []
        rw [ih]
        by_cases q1 : r = a
        · have q2 : ¬ l = x := fun z => q ⟨q1, z.symm⟩
          simp [q1, q2]
        · simp [q1]
  have app : ∀ xs ys : List (List Key × D), valD (xs ++ ys) (ansK a l) = match valD xs (ansK a l) with
      | some d => some d
      | none => valD ys (ansK a l) := by
    intro xs ys
    unfold valD
    rw [List.find?_append]
    cases xs.find? (fun kv => decide (kv.1 = ansK a l)) <;> rfl
  have all : ∀ rs : List Nat, valD (rs.flatMap (ansRowD m p)) (ansK a l) = if a ∈ rs then some (.dK (distD (ansL m p a l))) else none := by
    intro rs
    induction rs with
    | nil => simp [valD]
    | cons r rs ih =>
      rw [List.flatMap_cons, app, row r (List.range 3) (fun x hx => List.mem_range.mp hx), ih]
      by_cases q : r = a
      · subst q
        simp [hl]
      · have q2 : ¬ a = r := fun z => q z.symm
        simp [q, q2]
  rw [all, if_pos ha]
def spNeed (Cg Cc Cp Cr : Addr) : Prm := fun ds L KK KE => ∃ (m1 m2 : Mac) (p : Pr) (a b : Nat) (kvs : List (List Key × D)) (h : Nat → Nat → Option Nat), ds = [gameD Cg Cc Cp Cr m1 m2 p, .tup [nD a, nD b], .dT kvs] ∧ GameOk m1 m2 p ∧ a ∈ needed m1 ∧ b ∈ needed m2 ∧ Hts kvs h ∧ L = [] ∧ KK (optN (needN m1 m2 p h a b)) []
theorem inD_non (os : List (Option Nat)) : inD V.non (os.map optN) = !(os.all Option.isSome) := by
  unfold inD
  rw [List.any_map]
  induction os with
  | nil => rfl
  | cons o os ih =>
    rw [List.any_cons, ih, List.all_cons, Bool.not_and]
    cases o <;> rfl
theorem all_some {os : List (Option Nat)} (h : os.all Option.isSome = true) : os.map optN = ((os.filterMap id).map fun n => ((n : Nat) : Int)).map D.int := by
  rw [← opt_list, List.filter_eq_self.mpr fun o ho => List.all_eq_true.mp h o ho]
theorem ok_need {f Cg Cc Cp Cr : Addr} {fd : FuncData} (FF : Fun K "need" "Game.need" s_Game_need f fd) (B : Bi mg) (gL : GTup K mg "LETTERS" letV) (cG : Cls K Cg) (cR : Cls K Cr) (n1 : NoAttr K Cg "reader") (n2 : NoAttr K Cg "firsts") (n5 : NoAttr K Cg "end_costs") (n6 : NoAttr K Cg "all_answers") (nL : NoAttr K Cr "last")
    (m1 : Mth P w K mg base Cr "behind" ["self", "row", "letter"] (spBehind Cr) 1) (m2 : Mth P w K mg base Cg "best" ["self", "prices", "after", "heights"] (spBest Cg) 1) : Def P w K mg base 2 f fd ["self", "pair", "heights"] (spNeed Cg Cc Cp Cr) := by
  refine def_ok FF sc_Game_need ?_ ?_
  · rintro ds L KK KE ⟨a1, a2, p, a, b, kvs, h, rfl, _⟩
    rfl
  · rintro ds L KK KE ⟨a1, a2, p, a, b, kvs, h, rfl, ok, ha, hb, ht, rfl, hk⟩ H0 F0
    wtm_at "bg"
    have flr : (a1.last.map nD).all flatD = true := by
      rw [List.all_map]
      exact List.all_eq_true.mpr fun _ _ => rfl
    refine run_asg ?_
    wtm_at "ea"
    refine tgt_two rfl (tgt_name (by wtm_at "loc") (by wtm_at "pt") (tgt_name (by wtm_at "loc") (by wtm_at "pt") ?_))
    refine run_set (by wtm_at "loc") (by wtm_at "mem") (Ev.imp (K := fun d L1 => ∃ pf, d = .ref pf ∧ L1 = [(pf, .lst [nD (needB a1 a2 p a b)])]) ?_ ?_)
    · refine ev_if ?_
      refine tst_cmp ?_
      wtm_at "ea"
      refine op_inQ .tup rfl flr ?_
      rw [show inD (nV a) (a1.last.map nD) = decide (a ∈ a1.last) from in_rows (some a) a1.last]
      refine ⟨_, rfl, fun q => ?_, fun q => ?_⟩
      · have eb : needB a1 a2 p a b = endC a2 p b := if_pos (of_decide_eq_true q)
        rw [eb]
        refine ev_lst ?_
        wtm_at "ea"
        refine ix_K (k := Sum.inl ((b : Nat) : Int)) rfl .frz (d := nD (endC a2 p b)) ?_ ?_
        · have hm : (b, endC a2 p b) ∈ endL a2 p := List.mem_map.mpr ⟨b, hb, rfl⟩
          have nd : ((endL a2 p).map (·.1)).Nodup := by
            rw [List.map_map]
            have : (needed a2).map ((fun x : Nat × Nat => x.1) ∘ fun a => (a, endC a2 p a)) = needed a2 := List.map_id' _
            rw [this]
            exact needed_nd a2
          rw [look_dist, lookup_mem nd hm]
          rfl
        wtm_at "ea"
        exact ⟨Nat.le_of_ble_eq_true rfl, fun pf => ⟨pf, rfl, rfl⟩⟩
      · have eb : needB a1 a2 p a b = 0 := if_neg (of_decide_eq_false q)
        rw [eb]
        refine ev_lst ?_
        wtm_at "ea"
        exact ⟨Nat.le_of_ble_eq_true rfl, fun pf => ⟨pf, rfl, rfl⟩⟩
    rintro _ _ ⟨pf, rfl, rfl⟩
    refine ⟨_, by wtm_at "pt", ?_⟩
    refine run_for rfl rfl (ei_tup ?_)
    wtm_at "ea"
    refine ⟨_, rfl, ?_⟩
    refine for_pre (List.range 3) (fun o => .str (letS o)) let_range (fun pre G' L' => ∃ d e : Option D, G' = [some (gameD Cg Cc Cp Cr a1 a2 p), some (.tup [nD a, nD b]), some (.dT kvs), some (nD a), some (nD b), some (.ref pf), d, e] ∧
      L' = [(pf, .lst ((some (needB a1 a2 p a b) :: pre.filterMap (needF a1 a2 p h a b)).map optN))]) ⟨_, _, rfl, rfl⟩ (fun _ _ _ _ _ hh => (nomatch hh)) ?_ ?_
    · rintro F1 pre l suf G' L' hsp ⟨d, e, rfl, rfl⟩
      have ho : l < 3 := List.mem_range.mp (by rw [hsp]; exact List.mem_append_right _ List.mem_cons_self)
      have hpl : pre.length ≤ 3 := by
        have := congrArg List.length hsp
        rw [List.length_append, List.length_range] at this
        omega
      have hfl : (pre.filterMap (needF a1 a2 p h a b)).length ≤ 3 := Nat.le_trans (List.length_filterMap_le _ _) hpl
      refine tgt_name (by wtm_at "loc") (by wtm_at "pt") ?_
      wtm_at "gm"
      refine calls0 ⟨a1, some a, l, rfl, ho, ok.o1.len, fun r hr => by cases hr; exact needed_lt ha, rfl, ?_⟩
      refine ⟨_, by wtm_at "pt", ?_⟩
      show TL.Run _ [some (gameD Cg Cc Cp Cr a1 a2 p), some (.tup [nD a, nD b]), some (.dT kvs), some (nD a), some (nD b), some (.ref pf), some (.str (letS l)), some (optN (beh a1 a l))] _ _ _
      rw [List.filterMap_append]
      have fl2 : ((needed a1).map nD).all flatD = true := by
        rw [List.all_map]
        exact List.all_eq_true.mpr fun _ _ => rfl
      cases hbe : beh a1 a l with
      | none =>
        have ew : [l].filterMap (needF a1 a2 p h a b) = [] := by simp only [List.filterMap_cons, needF, hbe, List.filterMap_nil]
        rw [ew, List.append_nil]
        wtm_at "gm"
        refine op_inQ .tup rfl fl2 ?_
        rw [show inD V.non ((needed a1).map nD) = false from in_rows none (needed a1)]
        wtm_at "gm"
        exact run_nil (run_nil ⟨_, _, rfl, rfl⟩)
      | some x =>
        wtm_at "gm"
        refine op_inQ .tup rfl fl2 ?_
        rw [show inD (nV x) ((needed a1).map nD) = decide (x ∈ needed a1) from in_rows (some x) (needed a1)]
        by_cases hin : x ∈ needed a1
        · have ew : [l].filterMap (needF a1 a2 p h a b) = [bestN (ansL a2 p b l) h x] := by simp only [List.filterMap_cons, needF, hbe, hin, if_true, List.filterMap_nil]
          rw [ew, decide_eq_true hin]
          wtm_at "gm"
          refine ev_append ?_
          wtm_at "ea"
          refine ⟨pf, _, rfl, .head _, ?_⟩
          wtm_at "ea"
          have aok := ans_ok a2 p b l
          have abd := aok.bd
          have l2' := ok.l2
          refine ⟨Nat.le_of_ble_eq_true rfl, ix_KT (k := ansK b l) rfl .frz (ans_at hb ho) ?_⟩
          wtm_at "ea"
          refine calls0 ⟨_, ansL a2 p b l, x, kvs, h, rfl, aok.nd, by omega, ht, rfl, ?_⟩
          refine ⟨_, _, .here, by rw [List.length_map, List.length_cons]; exact sz_lt (by omega), ?_⟩
          refine run_nil (run_nil ⟨_, _, rfl, ?_⟩)
          rw [← List.cons_append, List.map_append]
          rfl
        · have ew : [l].filterMap (needF a1 a2 p h a b) = [] := by simp only [List.filterMap_cons, needF, hbe, hin, if_false, List.filterMap_nil]
          rw [ew, List.append_nil, decide_eq_false hin]
          wtm_at "gm"
          exact run_nil (run_nil ⟨_, _, rfl, rfl⟩)
    · rintro G' L' ⟨d, e, rfl, rfl⟩
      have eL : (some (needB a1 a2 p a b) :: (List.range 3).filterMap (needF a1 a2 p h a b)) = needL a1 a2 p h a b := rfl
      rw [eL]
      have flo : ((needL a1 a2 p h a b).map optN).all flatD = true := by
        rw [List.all_map]
        refine List.all_eq_true.mpr fun o _ => ?_
        cases o <;> rfl
      refine run_ret0 (ev_if ?_)
      refine tst_cmp ?_
      wtm_at "ea"
      refine op_inQ (.lst (.own (.head _))) rfl flo ?_
      rw [inD_non]
      have hk' : KK (optN (if (needL a1 a2 p h a b).all Option.isSome = true then some (maxN ((needL a1 a2 p h a b).filterMap id)) else none)) [] := hk
      cases hall : (needL a1 a2 p h a b).all Option.isSome with
      | true =>
        rw [hall, if_pos rfl] at hk'
        refine ⟨_, rfl, fun q => (nomatch q), fun _ => ?_⟩
        wtm_at "ea"
        rw [all_some hall]
        refine cv_maxL rfl (.own (.head _)) (Nat.le_of_ble_eq_true rfl) fun y h1 h2 => ?_
        rw [max_eq h1 h2]
        exact hk'
      | false =>
        rw [hall, if_neg Bool.false_ne_true] at hk'
        refine ⟨_, rfl, fun _ => ?_, fun q => (nomatch q)⟩
        wtm_at "ea"
        exact hk'
end
end Rk10

open PySem L2 TL
namespace Rk10
section
variable {P : Program} {w : World} {K : PySem.W.Frag} {mg : Str → Option Value} {base : Heap}
/-! the greatest price of one answer -/
theorem putN_ne (f : DistL) (k v : Nat) : putN f k v ≠ [] := by
  unfold putN
  split
  · rename_i h
    intro q
    rw [List.map_eq_nil_iff] at q
    rw [q] at h
    cases h
  · intro q
    have := congrArg List.length q
    rw [List.length_append] at this
    simp at this
theorem ansStep_ne (ahead : Nat) (f : DistL) (e : Nat × Nat) : ansStep ahead f e ≠ [] := by
  unfold ansStep
  split
  · exact putN_ne _ _ _
  · rename_i v hv
    split
    · exact putN_ne _ _ _
    · intro q
      rw [q] at hv
      cases hv
theorem ansSteps_ne {ahead : Nat} : ∀ {es : List (Nat × Nat)} {f : DistL}, (es ≠ [] ∨ f ≠ []) → es.foldl (ansStep ahead) f ≠ [] := by
  intro es
  induction es with
  | nil => intro f h; exact h.elim (fun q => absurd rfl q) id
  | cons e es ih => intro f _; exact ih (.inr (ansStep_ne _ _ _))
theorem ansRow_ne {m : Mac} {p : Pr} {a l row : Nat} {f : DistL} (h : f ≠ []) : ansRow m p a l f row ≠ [] := by
  unfold ansRow
  split
  · exact h
  · exact ansSteps_ne (.inr h)
theorem ansRows_ne {m : Mac} {p : Pr} {a l : Nat} (hp : (putC m p a a).isSome = true) : ∀ {rs : List Nat} {f : DistL}, (a ∈ rs ∨ f ≠ []) → rs.foldl (ansRow m p a l) f ≠ [] := by
  intro rs
  induction rs with
  | nil => intro f h; exact h.elim (fun q => (nomatch q)) id
  | cons r rs ih =>
    intro f h
    refine ih ?_
    by_cases q : r = a
    · refine .inr ?_
      subst q
      unfold ansRow
      split
      · rename_i h2
        rw [h2] at hp
        cases hp
      · exact ansSteps_ne (.inl (by unfold movesL; exact fun z => (nomatch z)))
    · rcases h with h | h
      · rcases List.mem_cons.mp h with h | h
        · exact absurd h.symm q
        · exact .inl h
      · exact .inr (ansRow_ne h)
theorem ans_ne {m : Mac} (hg : gok m = true) (p : Pr) {a : Nat} (ha : a ∈ needed m) (l : Nat) : ansL m p a l ≠ [] := by
  have h1 := List.all_eq_true.mp hg a ha
  rw [Bool.and_eq_true] at h1
  have h2 : (putsTo m (needed m) a).lookup a = some 0 := by simpa using h1.1
  refine ansRows_ne ?_ (.inl ha)
  unfold putC
  rw [h2]
  rfl
def greatest (m : Mac) (p : Pr) : Nat := maxN ((endL m p).map (·.2) ++ (needed m).flatMap fun a => (List.range 3).map fun l => maxN ((ansL m p a l).map (·.2)))
def greatL (kv : List Key × D) : Nat := match kv.2 with
  | .dK kvs => maxN (kvs.map fun e => match e.2 with | .v (.int n) => n.toNat | _ => 0)
  | _ => 0
theorem greatL_at (m : Mac) (p : Pr) (a l : Nat) : greatL (ansE m p a l) = maxN ((ansL m p a l).map (·.2)) := by
  show maxN ((distD (ansL m p a l)).map _) = _
  rw [List.map_map]
  refine congrArg maxN (List.map_congr_left fun e _ => ?_)
  show Int.toNat ((e.2 : Nat) : Int) = e.2
  exact Int.toNat_natCast _
theorem greatest_eq (m : Mac) (p : Pr) : greatest m p = maxN ((endL m p).map (·.2) ++ (ansD m p).map greatL) := by
  unfold greatest
  rw [List.map_flatMap]
  congr 2
  refine congrArg (List.flatMap · (needed m)) (funext fun a => ?_)
  rw [List.map_map]
  exact List.map_congr_left fun l _ => (greatL_at m p a l).symm
def spGreat (Cg Cc Cp Cr : Addr) : Prm := fun ds L KK KE => ∃ (m1 m2 : Mac) (p : Pr), ds = [gameD Cg Cc Cp Cr m1 m2 p] ∧ GameOk m1 m2 p ∧ needed m2 ≠ [] ∧ L = [] ∧ KK (nD (greatest m2 p)) []
theorem ok_great {f Cg Cc Cp Cr : Addr} {fd : FuncData} (FF : Fun K "greatest_price" "Game.greatest_price" s_Game_greatest_price f fd) (B : Bi mg) (cG : Cls K Cg) (n5 : NoAttr K Cg "end_costs") (n6 : NoAttr K Cg "all_answers") : Def P w K mg base 1 f fd ["self"] (spGreat Cg Cc Cp Cr) := by
  refine def_ok FF sc_Game_greatest_price ?_ ?_
  · rintro ds L KK KE ⟨m1, m2, p, rfl, _⟩
    rfl
  · rintro ds L KK KE ⟨m1, m2, p, rfl, ok, hne, rfl, hk⟩ H0 F0
    wtm_at "bg"
    have nl := needed_len m2
    have l2' := ok.l2
    have ndE : ((endL m2 p).map (·.1)).Nodup := by
      rw [List.map_map]
      have : (needed m2).map ((fun x : Nat × Nat => x.1) ∘ fun a => (a, endC m2 p a)) = needed m2 := List.map_id' _
      rw [this]
      exact needed_nd m2
    refine run_setlcK [("row", 4)] rfl (by kernel_rfl) (by wtm_at "mem") (by kernel_rfl) (path_fld cG n5 (by wtm_at "lk") .frz rfl (by wtm_at "vis") (by kernel_rfl) (by kernel_rfl)) ?_ rfl rfl rfl
    intro H1 F1
    refine lc_map (endL m2 p) (fun e => nD e.1) (fun e => nD e.2) (fun _ => true) (by show List.map _ (List.map _ (endL m2 p)) = _; rw [List.map_map]; rfl) (by rw [List.length_map]; exact sz_lt (by omega)) (fun _ hh => (nomatch hh)) ?_ ?_
    · intro F2 Dl e acc he
      refine tn_name (i := 4) (by wtm_at "loc") rfl (List.mem_singleton.mpr rfl) ?_
      wtm_at "wz"
      refine ⟨rfl, List.Sublist.refl _, fun _ => ?_⟩
      wtm_at "ea"
      refine ix_K (k := Sum.inl ((e.1 : Nat) : Int)) rfl .frz (d := nD e.2) ?_ ?_
      · rw [look_dist, lookup_mem ndE he]
        rfl
      exact ⟨rfl, List.Sublist.refl _⟩
    intro pf
    have ef : (endL m2 p).filter (fun _ => true) = endL m2 p := List.filter_eq_self.mpr fun _ _ => rfl
    rw [ef]
    refine ⟨_, by wtm_at "pt", ?_⟩
    refine run_forT rfl rfl (path_fldT cG n6 (by wtm_at "lk") .frz rfl (by wtm_at "vis") (by kernel_rfl) (by kernel_rfl)) (fun H2 F2 => ?_)
    refine for_pre (ansD m2 p) (fun kv => .tup (kD kv.1)) rfl (fun pre G' L' => ∃ c d : Option D, G' = [some (gameD Cg Cc Cp Cr m1 m2 p), some (.ref pf), c, d, none, none] ∧ L' = [(pf, .lst (((endL m2 p).map (·.2) ++ pre.map greatL).map nD))]) ⟨_, _, rfl, by simp only [List.map_nil, List.append_nil, List.map_map, Function.comp_def]⟩ (fun _ _ _ _ _ hh => (nomatch hh)) ?_ ?_
    · rintro F3 pre kv suf G' L' hsp ⟨c, d, rfl, rfl⟩
      have hkv : kv ∈ ansD m2 p := by rw [hsp]; exact List.mem_append_right _ List.mem_cons_self
      have hpl : pre.length ≤ 192 := by
        have := congrArg List.length hsp
        rw [ans_len, List.length_append, List.length_cons] at this
        omega
      obtain ⟨a, ha, hkv⟩ := List.mem_flatMap.mp hkv
      obtain ⟨l, hl, rfl⟩ := List.mem_map.mp hkv
      have hl3 := List.mem_range.mp hl
      refine tgt_name (by wtm_at "loc") (by wtm_at "pt") ?_
      refine run_set (by wtm_at "loc") (by wtm_at "mem") ?_
      wtm_at "ea"
      refine ix_KT (k := ansK a l) rfl .frz (ans_at ha hl3) ?_
      refine ⟨_, by wtm_at "pt", ?_⟩
      refine run_expr (ev_append ?_)
      wtm_at "ea"
      refine ⟨pf, _, rfl, .head _, ?_⟩
      wtm_at "ea"
      have aok := ans_ok m2 p a l
      have abd := aok.bd
      refine ev_lcK [("after", 5)] rfl (by kernel_rfl) (path_name (by wtm_at "lk") (by wtm_at "vis") (by kernel_rfl) (by kernel_rfl)) (fun H4 F4 => ?_)
      refine lc_map (ansL m2 p a l) (fun e => nD e.1) (fun e => nD e.2) (fun _ => true) (by show List.map _ (List.map _ (ansL m2 p a l)) = _; rw [List.map_map]; rfl) (sz_lt (by omega)) (fun _ hh => (nomatch hh)) ?_ ?_
      · intro F5 Dl e acc he
        refine tn_name (i := 5) (by wtm_at "loc") rfl (List.mem_singleton.mpr rfl) ?_
        wtm_at "wz"
        refine ⟨rfl, List.Sublist.refl _, fun _ => ?_⟩
        wtm_at "ea"
        refine ix_K (k := Sum.inl ((e.1 : Nat) : Int)) rfl .frz (d := nD e.2) ?_ ?_
        · rw [look_dist, lookup_mem aok.nd he]
          rfl
        exact ⟨rfl, List.Sublist.refl _⟩
      intro pl
      have ef2 : (ansL m2 p a l).filter (fun _ => true) = ansL m2 p a l := List.filter_eq_self.mpr fun _ _ => rfl
      have em : (ansL m2 p a l).map (fun e => nD e.2) = (((ansL m2 p a l).map (·.2)).map fun n => ((n : Nat) : Int)).map D.int := by
        rw [List.map_map, List.map_map]
        rfl
      rw [ef2, em]
      wtm_at "ea"
      refine cv_maxL rfl (.own (.head _)) (by rw [List.length_map, List.length_map]; exact List.length_pos_iff.mpr (ans_ne ok.g p ha l)) fun y h1 h2 => ?_
      rw [max_eq h1 h2, ← greatL_at]
      refine ⟨_, _, .there .here, by rw [List.length_map, List.length_append, List.length_map, List.length_map, List.length_map]; exact sz_lt (by omega), ?_⟩
      refine run_drop (List.sublist_cons_self _ _) ?_
      refine run_nil ⟨_, _, rfl, ?_⟩
      simp only [List.map_append, List.append_assoc, List.map_cons, List.map_nil]
    · rintro G' L' ⟨c, d, rfl, rfl⟩
      refine run_ret0 ?_
      wtm_at "ea"
      have em : ((endL m2 p).map (·.2) ++ (ansD m2 p).map greatL).map nD = ((((endL m2 p).map (·.2) ++ (ansD m2 p).map greatL)).map fun n => ((n : Nat) : Int)).map D.int := by
        simp only [List.map_append, List.map_map, Function.comp_def]
      rw [em]
      refine cv_maxL rfl (.own (.head _)) (by rw [List.length_map, List.length_append, List.length_map, List.length_map]; have := List.length_pos_iff.mpr hne; omega) fun y h1 h2 => ?_
      rw [max_eq h1 h2, ← greatest_eq]
      exact hk
end
end Rk10

open PySem L2 TL
namespace Rk10
section
variable {P : Program} {w : World} {K : PySem.W.Frag} {mg : Str → Option Value} {base : Heap}
/-! the walk to the least numbers, none the greatest -/
abbrev HF := Nat → Nat → Option Nat
def ole (x y : Option Nat) : Prop := ∀ n, y = some n → ∃ k, k ≤ n ∧ x = some k
theorem ole_refl (x : Option Nat) : ole x x := fun n h => ⟨n, Nat.le_refl _, h⟩
theorem ole_none (x : Option Nat) : ole x none := fun _ h => (nomatch h)
theorem ole_zero (x : Option Nat) : ole (some 0) x := fun _ _ => ⟨0, Nat.zero_le _, rfl⟩
theorem minN_le {l : List Nat} {x : Nat} (h : x ∈ l) : minN l ≤ x := by
  unfold minN
  cases e : l.min? with
  | none => rw [List.min?_eq_none_iff] at e; rw [e] at h; cases h
  | some n => exact (List.min?_eq_some_iff.mp e).2 x h
theorem minN_mem {l : List Nat} (h : l ≠ []) : minN l ∈ l := by
  unfold minN
  cases e : l.min? with
  | none => exact absurd (List.min?_eq_none_iff.mp e) h
  | some n => exact (List.min?_eq_some_iff.mp e).1
theorem maxN_le {l : List Nat} {n : Nat} (h : ∀ x ∈ l, x ≤ n) : maxN l ≤ n := by
  unfold maxN
  cases e : l.max? with
  | none => exact Nat.zero_le _
  | some k => exact h k (List.max?_eq_some_iff.mp e).1
theorem le_maxN {l : List Nat} {x : Nat} (h : x ∈ l) : x ≤ maxN l := by
  unfold maxN
  cases e : l.max? with
  | none => rw [List.max?_eq_none_iff] at e; rw [e] at h; cases h
  | some n => exact (List.max?_eq_some_iff.mp e).2 x h
theorem bestN_some {f : DistL} {h : HF} {x n : Nat} : bestN f h x = some n ↔ bestL f h x ≠ [] ∧ n = minN (bestL f h x) := by
  unfold bestN
  cases e : bestL f h x with
  | nil => exact ⟨fun q => (nomatch q), fun q => absurd rfl q.1⟩
  | cons y l => exact ⟨fun q => ⟨fun z => (nomatch z), (Option.some.inj q).symm⟩, fun q => by rw [q.2]⟩
theorem best_mono {f : DistL} {h h' : HF} (m : ∀ a b, ole (h a b) (h' a b)) (x : Nat) : ole (bestN f h x) (bestN f h' x) := by
  intro n hn
  obtain ⟨ne, rfl⟩ := bestN_some.mp hn
  obtain ⟨e, he, h1⟩ := List.mem_filterMap.mp (minN_mem ne)
  obtain ⟨k, hk, ek⟩ := Option.map_eq_some_iff.mp h1
  obtain ⟨k', le, hk'⟩ := m x e.1 k hk
  have hm : e.2 + k' ∈ bestL f h x := List.mem_filterMap.mpr ⟨e, he, by rw [hk']; rfl⟩
  refine ⟨minN (bestL f h x), ?_, bestN_some.mpr ⟨(fun q => by rw [q] at hm; cases hm), rfl⟩⟩
  have h2 := minN_le hm
  have ek2 : e.2 + k = minN (bestL f h' x) := ek
  omega
theorem needN_some {m1 m2 : Mac} {p : Pr} {h : HF} {a b n : Nat} : needN m1 m2 p h a b = some n ↔ (∀ o ∈ needL m1 m2 p h a b, o.isSome = true) ∧ n = maxN ((needL m1 m2 p h a b).filterMap id) := by
  unfold needN
  by_cases q : (needL m1 m2 p h a b).all Option.isSome = true
  · rw [if_pos q]
    exact ⟨fun z => ⟨List.all_eq_true.mp q, (Option.some.inj z).symm⟩, fun z => by rw [z.2]⟩
  · rw [if_neg q]
    exact ⟨fun z => (nomatch z), fun z => absurd (List.all_eq_true.mpr z.1) q⟩
theorem needL_mono {m1 m2 : Mac} {p : Pr} {h h' : HF} (m : ∀ a b, ole (h a b) (h' a b)) (a b : Nat) : ∀ o ∈ needL m1 m2 p h a b, ∃ o' ∈ needL m1 m2 p h' a b, ole o o' := by
  intro o ho
  rcases List.mem_cons.mp ho with rfl | ho
  · exact ⟨_, List.mem_cons_self, ole_refl _⟩
  · obtain ⟨l, hl, e⟩ := List.mem_filterMap.mp ho
    unfold needF at e
    cases hb : beh m1 a l with
    | none => rw [hb] at e; cases e
    | some x =>
      rw [hb] at e
      by_cases hx : x ∈ needed m1
      · simp only [hx, if_true] at e
        cases e
        refine ⟨bestN (ansL m2 p b l) h' x, List.mem_cons_of_mem _ (List.mem_filterMap.mpr ⟨l, hl, ?_⟩), best_mono m x⟩
        unfold needF
        rw [hb]
        exact if_pos hx
      · simp only [hx, if_false] at e
        cases e
theorem need_mono {m1 m2 : Mac} {p : Pr} {h h' : HF} (m : ∀ a b, ole (h a b) (h' a b)) (a b : Nat) : ole (needN m1 m2 p h a b) (needN m1 m2 p h' a b) := by
  intro n hn
  obtain ⟨all, rfl⟩ := needN_some.mp hn
  refine ⟨maxN ((needL m1 m2 p h a b).filterMap id), maxN_le fun x hx => ?_, needN_some.mpr ⟨fun o ho => ?_, rfl⟩⟩
  · obtain ⟨o, ho, e⟩ := List.mem_filterMap.mp hx
    obtain ⟨o', ho', hle⟩ := needL_mono m a b o ho
    obtain ⟨k, hk⟩ := Option.isSome_iff_exists.mp (all o' ho')
    obtain ⟨k', le, hk'⟩ := hle k hk
    have e2 : o = some x := e
    rw [e2] at hk'
    cases hk'
    exact Nat.le_trans le (le_maxN (List.mem_filterMap.mpr ⟨o', ho', hk⟩))
  · obtain ⟨o', ho', hle⟩ := needL_mono m a b o ho
    obtain ⟨k, hk⟩ := Option.isSome_iff_exists.mp (all o' ho')
    obtain ⟨k', _, hk'⟩ := hle k hk
    rw [hk']
    rfl
def capN (most : Nat) (o : Option Nat) : Option Nat := match o with
  | some n => if most < n then none else some n
  | none => none
theorem cap_mono {most : Nat} {x y : Option Nat} (h : ole x y) : ole (capN most x) (capN most y) := by
  intro n hn
  cases y with
  | none => cases hn
  | some k =>
    obtain ⟨j, le, rfl⟩ := h k rfl
    unfold capN at hn ⊢
    by_cases q : most < k
    · simp only [q, if_true] at hn
      cases hn
    · simp only [q, if_false] at hn
      cases hn
      have : ¬ most < j := by omega
      exact ⟨j, le, by simp only [this, if_false]⟩
theorem cap_le {most n : Nat} {o : Option Nat} (h : capN most o = some n) : n ≤ most := by
  unfold capN at h
  cases o with
  | none => cases h
  | some k =>
    by_cases q : most < k
    · simp only [q, if_true] at h
      cases h
    · simp only [q, if_false] at h
      cases h
      omega
/-- outside of the pairs there is nothing -/
def resH (m1 m2 : Mac) (h : HF) : HF := fun a b => if a ∈ needed m1 ∧ b ∈ needed m2 then h a b else none
theorem res_mono {m1 m2 : Mac} {h h' : HF} (m : ∀ a b, ole (h a b) (h' a b)) (a b : Nat) : ole (resH m1 m2 h a b) (resH m1 m2 h' a b) := by
  unfold resH
  split
  · exact m a b
  · exact ole_none _
def stepH (m1 m2 : Mac) (p : Pr) (most : Nat) (h : HF) : HF := resH m1 m2 fun a b => capN most (needN m1 m2 p h a b)
theorem step_mono {m1 m2 : Mac} {p : Pr} {most : Nat} {h h' : HF} (m : ∀ a b, ole (h a b) (h' a b)) (a b : Nat) : ole (stepH m1 m2 p most h a b) (stepH m1 m2 p most h' a b) := res_mono (fun a b => cap_mono (need_mono m a b)) a b
/-! .. comes to its end -/
def wt (most : Nat) (o : Option Nat) : Nat := match o with
  | some n => most + 1 - n
  | none => 0
theorem wt_le {most : Nat} {x y : Option Nat} (h : ole x y) : wt most y ≤ wt most x := by
  cases y with
  | none => exact Nat.zero_le _
  | some n =>
    obtain ⟨k, le, rfl⟩ := h n rfl
    show most + 1 - n ≤ most + 1 - k
    omega
theorem wt_lt {most : Nat} {x y : Option Nat} (h : ole x y) (hx : ∀ n, x = some n → n ≤ most) (ne : x ≠ y) : wt most y < wt most x := by
  cases x with
  | none =>
    cases y with
    | none => exact absurd rfl ne
    | some n =>
      obtain ⟨k, _, e⟩ := h n rfl
      cases e
  | some k =>
    have hk := hx k rfl
    cases y with
    | none =>
      show 0 < most + 1 - k
      omega
    | some n =>
      obtain ⟨j, le, e⟩ := h n rfl
      cases e
      have : k ≠ n := fun q => ne (by rw [q])
      show most + 1 - n < most + 1 - k
      omega
theorem sum_lt {α : Type} {f g : α → Nat} : ∀ {l : List α}, (∀ x ∈ l, f x ≤ g x) → (∃ x ∈ l, f x < g x) → (l.map f).sum < (l.map g).sum := by
  intro l
  have le : ∀ l : List α, (∀ x ∈ l, f x ≤ g x) → (l.map f).sum ≤ (l.map g).sum := by
    intro l
    induction l with
    | nil => intro _; exact Nat.le_refl _
    | cons x l ih =>
      intro h
      rw [List.map_cons, List.map_cons, List.sum_cons, List.sum_cons]
      exact Nat.add_le_add (h x List.mem_cons_self) (ih fun y hy => h y (List.mem_cons_of_mem _ hy))
  induction l with
  | nil => rintro _ ⟨x, hx, _⟩; cases hx
  | cons x l ih =>
    rintro h ⟨y, hy, hlt⟩
    rw [List.map_cons, List.map_cons, List.sum_cons, List.sum_cons]
    have hl := fun z hz => h z (List.mem_cons_of_mem x hz)
    rcases List.mem_cons.mp hy with rfl | hy
    · exact Nat.add_lt_add_of_lt_of_le hlt (le l hl)
    · exact Nat.add_lt_add_of_le_of_lt (h x List.mem_cons_self) (ih hl ⟨y, hy, hlt⟩)
def mu (m1 m2 : Mac) (most : Nat) (h : HF) : Nat := ((pairsL m1 m2).map fun e => wt most (h e.1 e.2)).sum
theorem mu_lt {m1 m2 : Mac} {most : Nat} {h h' : HF} (m : ∀ a b, ole (h a b) (h' a b)) (b : ∀ x y n, h x y = some n → n ≤ most) (d : ∃ e ∈ pairsL m1 m2, h e.1 e.2 ≠ h' e.1 e.2) : mu m1 m2 most h' < mu m1 m2 most h := by
  obtain ⟨e, he, ne⟩ := d
  exact sum_lt (fun x _ => wt_le (m x.1 x.2)) ⟨e, he, wt_lt (m e.1 e.2) (b e.1 e.2) ne⟩
theorem mem_pairs {m1 m2 : Mac} {e : Nat × Nat} : e ∈ pairsL m1 m2 ↔ e.1 ∈ needed m1 ∧ e.2 ∈ needed m2 := by
  unfold pairsL
  rw [List.mem_flatMap]
  constructor
  · rintro ⟨a, ha, h⟩
    obtain ⟨b, hb, rfl⟩ := List.mem_map.mp h
    exact ⟨ha, hb⟩
  · rintro ⟨h1, h2⟩
    exact ⟨e.1, h1, List.mem_map.mpr ⟨e.2, h2, rfl⟩⟩
def zeroH (m1 m2 : Mac) : HF := resH m1 m2 fun _ _ => some 0
/-- what the loop goes through: it grows, it ends -/
def walkH (m1 m2 : Mac) (p : Pr) (most : Nat) : Nat → HF
  | 0 => zeroH m1 m2
  | n + 1 => stepH m1 m2 p most (walkH m1 m2 p most n)
theorem walk_up (m1 m2 : Mac) (p : Pr) (most : Nat) : ∀ (n a b : Nat), ole (walkH m1 m2 p most n a b) (walkH m1 m2 p most (n + 1) a b) := by
  intro n
  induction n with
  | zero =>
    intro a b
    show ole (resH m1 m2 (fun _ _ => some 0) a b) (resH m1 m2 (fun a b => capN most (needN m1 m2 p (zeroH m1 m2) a b)) a b)
    exact res_mono (fun _ _ => ole_zero _) a b
  | succ n ih => exact fun a b => step_mono ih a b
theorem walk_bd (m1 m2 : Mac) (p : Pr) (most : Nat) (n x y k : Nat) (h : walkH m1 m2 p most n x y = some k) : k ≤ most := by
  cases n with
  | zero =>
    unfold walkH zeroH resH at h
    split at h
    · cases h; exact Nat.zero_le _
    · cases h
  | succ n =>
    unfold walkH stepH resH at h
    split at h
    · exact cap_le h
    · cases h
end
end Rk10

open PySem L2 TL
namespace Rk10
section
variable {P : Program} {w : World} {K : PySem.W.Frag} {mg : Str → Option Value} {base : Heap}
/-! a second machine must have texts -/
def spNeedSecond (Cm Cr CB : Addr) : Prm := fun ds L KK KE => ∃ m : Mac, ds = [macD Cm Cr m] ∧ m.Ok ∧ m.tab.length < 64 ∧ L = [] ∧ (needed m ≠ [] → KK .non []) ∧ (needed m = [] → KE (.own CB) [])
theorem ok_need_second {f Cm Cr CB : Addr} {fd : FuncData} (FF : Fun K "need_second" "need_second" s_need_second f fd) (B : Bi mg) (cM : Cls K Cm) (nI : NoAttr K Cm "inner") (eB : ExcC K mg "NoTexts" CB) (g1 : Glob P w K mg base "needed_rows" ["reader"] (spNeeded Cr) 3) : Def P w K mg base 4 f fd ["machine"] (spNeedSecond Cm Cr CB) := by
  refine def_ok FF sc_need_second ?_ ?_
  · rintro ds L KK KE ⟨m, rfl, _⟩
    rfl
  · rintro ds L KK KE ⟨m, rfl, hok, hlt, rfl, hk, he⟩ H0 F0
    wtm_at "bg"
    refine run_if ?_
    refine tst_not ?_
    wtm_at "go"
    refine calls0 ⟨m, rfl, hok, hlt, rfl, ?_⟩
    cases hn : needed m with
    | nil =>
      have he' := he hn
      wtm_at "go"
    | cons x xs =>
      have hk' := hk (by rw [hn]; exact fun q => (nomatch q))
      wtm_at "go"
end
end Rk10

open PySem L2 TL
namespace Rk10
section
variable {P : Program} {w : World} {K : PySem.W.Frag} {mg : Str → Option Value} {base : Heap}
/-! the numbers as a dict -/
abbrev optV (o : Option Nat) : V := match o with
  | some n => nV n
  | none => .non
theorem optVN (o : Option Nat) : D.v (optV o) = optN o := by cases o <;> rfl
abbrev htU (m1 m2 : Mac) (h : HF) : List (List Key × V) := (pairsL m1 m2).map fun e => (htK e.1 e.2, optV (h e.1 e.2))
theorem htK_inj {a b c d : Nat} (h : htK a b = htK c d) : a = c ∧ b = d := by
  have e1 : (Sum.inl ((a : Nat) : Int) : Key) = Sum.inl ((c : Nat) : Int) := (List.cons.inj h).1
  have e2 : (Sum.inl ((b : Nat) : Int) : Key) = Sum.inl ((d : Nat) : Int) := (List.cons.inj (List.cons.inj h).2).1
  injection e1 with e1
  injection e2 with e2
  exact ⟨by omega, by omega⟩
theorem ht_hts {m1 m2 : Mac} {h : HF} (out : ∀ a b, ¬ (a ∈ needed m1 ∧ b ∈ needed m2) → h a b = none) : Hts (vT (htU m1 m2 h)) h := by
  intro a b
  have go : ∀ es : List (Nat × Nat), valD (vT (es.map fun e => (htK e.1 e.2, optV (h e.1 e.2)))) (htK a b) = if (a, b) ∈ es then some (optN (h a b)) else none := by
    intro es
    induction es with
    | nil => simp [valD]
    | cons e es ih =>
      unfold valD at ih ⊢
      simp only [vT, List.map_cons, List.find?_cons] at ih ⊢
      by_cases q : htK e.1 e.2 = htK a b
      · obtain ⟨q1, q2⟩ := htK_inj q
        have : e = (a, b) := Prod.ext q1 q2
        subst this
        simp [optVN]
      · have ne : ¬ (a, b) = e := fun z => q (by rw [← z])
        rw [decide_eq_false q]
        simp only []
        rw [ih]
        simp [ne]
  show (valD (vT ((pairsL m1 m2).map _)) (htK a b)).getD .non = _
  rw [go]
  by_cases q : (a, b) ∈ pairsL m1 m2
  · rw [if_pos q]; rfl
  · rw [if_neg q, out a b fun z => q (mem_pairs.mpr z)]
    rfl
end
end Rk10

open PySem L2 TL
namespace Rk10
section
variable {P : Program} {w : World} {K : PySem.W.Frag} {mg : Str → Option Value} {base : Heap}
def mostN (m1 m2 : Mac) (p : Pr) : Nat := ((pairsL m1 m2).length + 1) * greatest m2 p
theorem pairs_nd (m1 m2 : Mac) : ((pairsL m1 m2).map fun e => htK e.1 e.2).Nodup := by
  have nd : (pairsL m1 m2).Nodup := by
    unfold pairsL
    refine List.pairwise_flatMap.mpr ⟨fun a _ => List.pairwise_map.mpr ((needed_nd m2).imp fun h q => h (congrArg Prod.snd q)), (needed_nd m1).imp fun {a b} hab x hx y hy e => ?_⟩
    obtain ⟨u, _, rfl⟩ := List.mem_map.mp hx
    obtain ⟨z, _, rfl⟩ := List.mem_map.mp hy
    exact hab (congrArg Prod.fst e)
  exact List.pairwise_map.mpr (nd.imp fun h q => h (Prod.ext (htK_inj q).1 (htK_inj q).2))
theorem valV_ht (m1 m2 : Mac) (h : HF) {e : Nat × Nat} (he : e ∈ pairsL m1 m2) : valV (htU m1 m2 h) (htK e.1 e.2) = some (optV (h e.1 e.2)) := by
  have go : ∀ es : List (Nat × Nat), e ∈ es → valV (es.map fun e => (htK e.1 e.2, optV (h e.1 e.2))) (htK e.1 e.2) = some (optV (h e.1 e.2)) := by
    intro es
    induction es with
    | nil => intro q; cases q
    | cons x es ih =>
      intro q
      unfold valV at ih ⊢
      rw [List.map_cons, List.find?_cons]
      by_cases z : htK x.1 x.2 = htK e.1 e.2
      · rw [decide_eq_true z]
        obtain ⟨z1, z2⟩ := htK_inj z
        show some (optV (h x.1 x.2)) = _
        rw [z1, z2]
      · rw [decide_eq_false z]
        rcases List.mem_cons.mp q with rfl | q
        · exact absurd rfl z
        · exact ih q
  exact go _ he
theorem eqV_opt (x y : Option Nat) : eqV (optV x) (optV y) = decide (x = y) := by
  cases x with
  | none => cases y <;> rfl
  | some a =>
    cases y with
    | none => rfl
    | some b =>
      show decide (((a : Nat) : Int) = ((b : Nat) : Int)) = _
      exact decide_eq_decide.mpr ⟨fun h => congrArg some (by omega), fun h => by rw [Option.some.inj h]⟩
theorem sub_ht (m1 m2 : Mac) (h h' : HF) : subT (htU m1 m2 h) (htU m1 m2 h') = (pairsL m1 m2).all fun e => decide (h' e.1 e.2 = h e.1 e.2) := by
  unfold subT
  rw [List.all_map]
  have go : ∀ es : List (Nat × Nat), (∀ e ∈ es, e ∈ pairsL m1 m2) → es.all (likeT (htU m1 m2 h) ∘ fun e => (htK e.1 e.2, optV (h' e.1 e.2))) = es.all fun e => decide (h' e.1 e.2 = h e.1 e.2) := by
    intro es
    induction es with
    | nil => intro _; rfl
    | cons e es ih =>
      intro hm
      rw [List.all_cons, List.all_cons, ih fun x hx => hm x (List.mem_cons_of_mem _ hx)]
      refine congrArg (· && _) ?_
      show likeT _ _ = _
      unfold likeT
      rw [show ((htK e.1 e.2, optV (h' e.1 e.2)) : List Key × V).1 = htK e.1 e.2 from rfl, valV_ht m1 m2 h (hm e List.mem_cons_self)]
      exact eqV_opt _ _
  exact go _ fun _ h => h
theorem walk_out (m1 m2 : Mac) (p : Pr) (most n a b : Nat) (h : ¬ (a ∈ needed m1 ∧ b ∈ needed m2)) : walkH m1 m2 p most n a b = none := by
  cases n with
  | zero => exact if_neg h
  | succ n => exact if_neg h
theorem walk_in (m1 m2 : Mac) (p : Pr) (most n : Nat) {a b : Nat} (ha : a ∈ needed m1) (hb : b ∈ needed m2) : walkH m1 m2 p most (n + 1) a b = capN most (needN m1 m2 p (walkH m1 m2 p most n) a b) := if_pos ⟨ha, hb⟩
theorem flat_ht (m1 m2 : Mac) (h : HF) : ∀ q ∈ htU m1 m2 h, flatV q.2 = true := by
  intro q hq
  obtain ⟨e, _, rfl⟩ := List.mem_map.mp hq
  show flatV (optV (h e.1 e.2)) = true
  cases h e.1 e.2 <;> rfl
def spSolved (Cg Cc Cp Cr : Addr) : Prm := fun ds L KK KE => ∃ (m1 m2 : Mac) (p : Pr), ds = [gameD Cg Cc Cp Cr m1 m2 p] ∧ GameOk m1 m2 p ∧ needed m2 ≠ [] ∧ L = [] ∧
  ∀ n, (∀ a b, walkH m1 m2 p (mostN m1 m2 p) (n + 1) a b = walkH m1 m2 p (mostN m1 m2 p) n a b) → KK (.dT (vT (htU m1 m2 (walkH m1 m2 p (mostN m1 m2 p) n)))) []
theorem ok_solved {f Cg Cc Cp Cr : Addr} {fd : FuncData} (FF : Fun K "solved" "solved" s_solved f fd) (B : Bi mg) (cG : Cls K Cg) (nP : NoAttr K Cg "pairs") (m1 : Mth P w K mg base Cg "greatest_price" ["self"] (spGreat Cg Cc Cp Cr) 1) (m2 : Mth P w K mg base Cg "need" ["self", "pair", "heights"] (spNeed Cg Cc Cp Cr) 2) : Def P w K mg base 3 f fd ["game"] (spSolved Cg Cc Cp Cr) := by
  refine def_ok FF sc_solved ?_ ?_
  · rintro ds L KK KE ⟨a1, a2, p, rfl, _⟩
    rfl
  · rintro ds L KK KE ⟨a1, a2, p, rfl, ok, hne, rfl, hk⟩ H0 F0
    wtm_at "bg"
    have hpl : (pairsL a1 a2).length ≤ 4096 := by
      have e : ∀ xs : List Nat, (xs.flatMap fun a => (needed a2).map fun b => (a, b)).length = xs.length * (needed a2).length := by
        intro xs
        induction xs with
        | nil => rw [List.flatMap_nil, List.length_nil, List.length_nil, Nat.zero_mul]
        | cons x xs ih => rw [List.flatMap_cons, List.length_append, ih, List.length_map, List.length_cons, Nat.succ_mul, Nat.add_comm]
      unfold pairsL
      rw [e]
      have h1 := needed_len a1
      have h2 := needed_len a2
      have h3 := ok.l1
      have h4 := ok.l2
      exact Nat.mul_le_mul (show (needed a1).length ≤ 64 by omega) (show (needed a2).length ≤ 64 by omega)
    refine run_set (by wtm_at "loc") (by wtm_at "mem") ?_
    wtm_at "gm"
    refine calls0 ⟨a1, a2, p, rfl, ok, hne, rfl, ?_⟩
    refine op_mulI (.inl ?_) ?_
    · rw [List.length_map]
      constructor <;> omega
    rw [List.length_map, show (((pairsL a1 a2).length : Nat) : Int) + 1 = (((pairsL a1 a2).length + 1 : Nat) : Int) from rfl, ← Int.natCast_mul]
    refine ⟨_, by wtm_at "pt", ?_⟩
    show TL.Run _ [some (gameD Cg Cc Cp Cr a1 a2 p), some (nD (mostN a1 a2 p)), none, none, none, none, none] _ _ _
    refine run_setdct [("pair", 5)] rfl (by kernel_rfl) (by wtm_at "mem") (by kernel_rfl) (ei_lst ?_) rfl rfl rfl
    wtm_at "ea"
    refine ⟨_, .frz, ?_⟩
    refine dct_map (pairsL a1 a2) pairD (fun e => (htK e.1 e.2, .v (.int 0))) rfl (sz_lt (by omega)) (fun _ h => (nomatch h)) (pairs_nd a1 a2) ?_ ?_
    · intro F1 Dl e acc he
      refine tn_name (i := 5) (by wtm_at "loc") rfl (List.mem_singleton.mpr rfl) ?_
      wtm_at "wz"
      wtm_at "ea"
      exact ⟨rfl, rfl, List.Sublist.refl _⟩
    intro ph
    refine ⟨_, by wtm_at "pt", ?_⟩
    refine run_frz (x := "heights") (by wtm_at "lk") .here (by wtm_at "pt") ?_
    have e0 : (OW.dT ((pairsL a1 a2).map fun e => (htK e.1 e.2, D.v (.int 0)))).frz = .dT (vT (htU a1 a2 (walkH a1 a2 p (mostN a1 a2 p) 0))) := by
      show D.dT _ = D.dT (List.map _ (List.map _ _))
      rw [List.map_map]
      refine congrArg D.dT (List.map_congr_left fun e he => ?_)
      have hm := mem_pairs.mp he
      have e1 : walkH a1 a2 p (mostN a1 a2 p) 0 e.1 e.2 = some 0 := if_pos hm
      show _ = (htK e.1 e.2, D.v (optV (walkH a1 a2 p (mostN a1 a2 p) 0 e.1 e.2)))
      rw [e1]
      rfl
    rw [e0]
    generalize hmo : mostN a1 a2 p = mo at hk ⊢
    refine run_set (by wtm_at "loc") (by wtm_at "mem") ?_
    wtm_at "ea"
    refine ⟨_, by wtm_at "pt", ?_⟩
    have bd := walk_bd a1 a2 p mo
    have up := walk_up a1 a2 p mo
    refine run_while rfl (fun k G' L' => ∃ (n : Nat) (g : Bool) (a b c : Option D), G' = [some (gameD Cg Cc Cp Cr a1 a2 p), some (nD mo), some (.dT (vT (htU a1 a2 (walkH a1 a2 p mo n)))), some (.bl g), a, b, c] ∧ L' = [] ∧
      (g = true → mu a1 a2 mo (walkH a1 a2 p mo n) < k) ∧ (g = false → ∀ x y, walkH a1 a2 p mo (n + 1) x y = walkH a1 a2 p mo n x y)) (mu a1 a2 mo (walkH a1 a2 p mo 0) + 1)
      ⟨0, true, _, _, _, rfl, rfl, fun _ => Nat.lt_succ_self _, fun h => (nomatch h)⟩ ?_
    rintro k G' L' ⟨n, g, a, b, c, rfl, rfl, hg1, hg2⟩
    cases g with
    | false =>
      have hk' := hk n (hg2 rfl)
      wtm_at "gm"
      wtm_at "go"
    | true =>
      have hmu := hg1 rfl
      wtm_at "gm"
      refine ev_dnewT fun pa => ?_
      refine ⟨_, by wtm_at "pt", ?_⟩
      refine run_for rfl rfl (ei_lst ?_)
      wtm_at "ea"
      refine ⟨_, .frz, ?_⟩
      generalize hh : walkH a1 a2 p mo n = h
      have hout : ∀ x y, ¬ (x ∈ needed a1 ∧ y ∈ needed a2) → h x y = none := fun x y q => by rw [← hh]; exact walk_out a1 a2 p mo n x y q
      have hn1 : ∀ x y, x ∈ needed a1 → y ∈ needed a2 → walkH a1 a2 p mo (n + 1) x y = capN mo (needN a1 a2 p h x y) := fun x y hx hy => by rw [walk_in a1 a2 p mo n hx hy, hh]
      refine for_pre (pairsL a1 a2) pairD rfl (fun pre G' L' => ∃ b c : Option D, G' = [some (gameD Cg Cc Cp Cr a1 a2 p), some (nD mo), some (.dT (vT (htU a1 a2 h))), some (.bl true), some (.ref pa), b, c] ∧
        L' = [(pa, .dT (vT (pre.map fun e => (htK e.1 e.2, optV (walkH a1 a2 p mo (n + 1) e.1 e.2)))))]) ⟨_, _, rfl, rfl⟩ (fun _ _ _ _ _ h => (nomatch h)) ?_ ?_
      · rintro F1 pre e suf G' L' hsp ⟨b, c, rfl, rfl⟩
        have he : e ∈ pairsL a1 a2 := by rw [hsp]; exact List.mem_append_right _ List.mem_cons_self
        obtain ⟨h1, h2⟩ := mem_pairs.mp he
        have hlen : pre.length ≤ 4096 := by
          have := congrArg List.length hsp
          rw [List.length_append] at this
          omega
        have hnew : htK e.1 e.2 ∉ (vT (pre.map fun e => (htK e.1 e.2, optV (walkH a1 a2 p mo (n + 1) e.1 e.2)))).map (·.1) := by
          rw [List.map_map, List.map_map]
          have nd := pairs_nd a1 a2
          rw [hsp, List.map_append, List.map_cons] at nd
          intro q
          exact (List.nodup_append.mp nd).2.2 _ q _ List.mem_cons_self rfl
        have fin : ∀ d : D, d = optN (walkH a1 a2 p mo (n + 1) e.1 e.2) → ∃ l kvs k L4, D.ref pa = .ref l ∧ pairD e = .tup (kD k) ∧ Chg [(pa, OW.dT (vT (pre.map fun e => (htK e.1 e.2, optV (walkH a1 a2 p mo (n + 1) e.1 e.2)))))] l (.dT kvs) (.dT (putE kvs k d)) L4 ∧ kvs.length < sizeLine ∧
            L4 = [(pa, OW.dT (vT ((pre ++ [e]).map fun e => (htK e.1 e.2, optV (walkH a1 a2 p mo (n + 1) e.1 e.2)))))] := by
          intro d hd
          subst hd
          refine ⟨pa, _, htK e.1 e.2, _, rfl, rfl, .here, by rw [List.length_map, List.length_map]; exact sz_lt (by omega), ?_⟩
          rw [putE_newT hnew]
          simp only [vT, List.map_append, List.map_cons, List.map_nil, optVN]
        rw [hn1 e.1 e.2 h1 h2] at fin
        refine tgt_name (by wtm_at "loc") (by wtm_at "pt") ?_
        refine run_set (by wtm_at "loc") (by wtm_at "mem") ?_
        wtm_at "ea"
        refine calls0 ⟨a1, a2, p, e.1, e.2, _, h, rfl, ok, h1, h2, ht_hts hout, rfl, ?_⟩
        refine ⟨_, by wtm_at "pt", ?_⟩
        show TL.Run _ [some (gameD Cg Cc Cp Cr a1 a2 p), some (nD mo), some (.dT (vT (htU a1 a2 h))), some (.bl true), some (.ref pa), some (pairD e), some (optN (needN a1 a2 p h e.1 e.2))] _ _ _
        refine run_dputT rfl ?_
        cases hnd : needN a1 a2 p h e.1 e.2 with
        | none =>
          rw [hnd] at fin
          wtm_at "gm"
          obtain ⟨l, kvs, k, L4, e1, e2, e3, e4, e5⟩ := fin _ rfl
          refine ⟨l, kvs, k, L4, e1, e2, e3, e4, ?_⟩
          subst e5
          exact run_nil ⟨_, _, rfl, rfl⟩
        | some v =>
          rw [hnd] at fin
          wtm_at "gm"
          · rename_i q
            have q' : mo < v := by have := of_decide_eq_true q; omega
            obtain ⟨l, kvs, k, L4, e1, e2, e3, e4, e5⟩ := fin .non (by rw [show capN mo (some v) = none from if_pos q'])
            refine ⟨l, kvs, k, L4, e1, e2, e3, e4, ?_⟩
            subst e5
            exact run_nil ⟨_, _, rfl, rfl⟩
          · rename_i q
            have q' : ¬ mo < v := by have := of_decide_eq_false q; omega
            obtain ⟨l, kvs, k, L4, e1, e2, e3, e4, e5⟩ := fin (nD v) (by rw [show capN mo (some v) = some v from if_neg q'])
            refine ⟨l, kvs, k, L4, e1, e2, e3, e4, ?_⟩
            subst e5
            exact run_nil ⟨_, _, rfl, rfl⟩
      · rintro G' L' ⟨b, c, rfl, rfl⟩
        have hn2 : h = walkH a1 a2 p mo n := hh.symm
        subst hn2
        refine run_set (by wtm_at "loc") (by wtm_at "mem") ?_
        wtm_at "ea"
        refine op_neT rfl (.own (.head _)) .frz (flat_ht a1 a2 _) (flat_ht a1 a2 _) ?_
        refine ⟨_, by wtm_at "pt", ?_⟩
        refine run_set (by wtm_at "loc") (by wtm_at "mem") ?_
        wtm_at "ea"
        refine ⟨_, by wtm_at "pt", ?_⟩
        refine run_frz (x := "heights") (by wtm_at "lk") .here (by wtm_at "pt") ?_
        have eg : (!((htU a1 a2 (walkH a1 a2 p mo (n + 1))).length == (htU a1 a2 (walkH a1 a2 p mo n)).length && subT (htU a1 a2 (walkH a1 a2 p mo n)) (htU a1 a2 (walkH a1 a2 p mo (n + 1))))) = !((pairsL a1 a2).all fun e => decide (walkH a1 a2 p mo (n + 1) e.1 e.2 = walkH a1 a2 p mo n e.1 e.2)) := by
          rw [List.length_map, List.length_map, beq_self_eq_true, Bool.true_and, sub_ht]
        refine run_nil ⟨mu a1 a2 mo (walkH a1 a2 p mo n), hmu, n + 1, _, _, _, _, rfl, rfl, ?_, ?_⟩
        · intro hg
          rw [eg, Bool.not_eq_true', List.all_eq_false] at hg
          obtain ⟨e, he, hne⟩ := hg
          exact mu_lt (up n) (bd n) ⟨e, he, fun q => hne (decide_eq_true q.symm)⟩
        · intro hg
          rw [eg, Bool.not_eq_false', List.all_eq_true] at hg
          have same : walkH a1 a2 p mo (n + 1) = walkH a1 a2 p mo n := by
            funext x y
            by_cases q : x ∈ needed a1 ∧ y ∈ needed a2
            · exact of_decide_eq_true (hg (x, y) (mem_pairs.mpr q))
            · rw [walk_out a1 a2 p mo _ x y q, walk_out a1 a2 p mo _ x y q]
          intro x y
          show stepH a1 a2 p mo (walkH a1 a2 p mo (n + 1)) x y = _
          rw [same]
          show walkH a1 a2 p mo (n + 1) x y = _
          rw [same]
end
end Rk10

open PySem L2 TL
namespace Rk10
section
variable {P : Program} {w : World} {K : PySem.W.Frag} {mg : Str → Option Value} {base : Heap}
/-! which rows are reached, which lead to an end, how far: in plain words -/
inductive Pth (m : Mac) (S : Nat → Prop) (a : Nat) : Nat → Nat → Prop
  | nil : Pth m S a a 0
  | snoc {b c l n : Nat} : Pth m S a b n → beh m b l = some c → S c → Pth m S a c (n + 1)
theorem Pth.mono {m : Mac} {S S' : Nat → Prop} (h : ∀ r, S r → S' r) {a b n : Nat} (p : Pth m S a b n) : Pth m S' a b n := by
  induction p with
  | nil => exact .nil
  | snoc _ e s ih => exact .snoc ih e (h _ s)
theorem Pth.cat {m : Mac} {S : Nat → Prop} {a b c n k : Nat} (p : Pth m S a b n) (q : Pth m S b c k) : Pth m S a c (n + k) := by
  induction q with
  | nil => exact p
  | snoc _ e s ih => exact .snoc ih e s
theorem Pth.lt {m : Mac} (h : m.Ok) {S : Nat → Prop} {a b n : Nat} (p : Pth m S a b n) (ha : a < m.tab.length) : b < m.tab.length := by
  cases p with
  | nil => exact ha
  | snoc _ e _ => exact beh_lt h e
theorem Pth.inS {m : Mac} {S : Nat → Prop} {a b n : Nat} (p : Pth m S a b n) (ha : S a) : S b := by
  cases p with
  | nil => exact ha
  | snoc _ _ s => exact s
def All : Nat → Prop := fun _ => True
def Reach (m : Mac) (a b : Nat) : Prop := ∃ n, Pth m All a b n
def Leads (m : Mac) (a : Nat) : Prop := ∃ e, Reach m a e ∧ e ∈ m.last
theorem Reach.refl (m : Mac) (a : Nat) : Reach m a a := ⟨0, .nil⟩
theorem Reach.trans {m : Mac} {a b c : Nat} (h : Reach m a b) (k : Reach m b c) : Reach m a c := let ⟨_, p⟩ := h; let ⟨_, q⟩ := k; ⟨_, p.cat q⟩
theorem Reach.one {m : Mac} {a b l : Nat} (h : beh m a l = some b) : Reach m a b := ⟨1, .snoc .nil h trivial⟩
theorem beh_l {m : Mac} (h : m.Ok) {r l a : Nat} (e : beh m r l = some a) : l < 3 := by
  rcases Nat.lt_or_ge l 3 with q | q
  · exact q
  · exfalso
    have hl : (m.tab.getD r []).length ≤ 3 := by
      rw [List.getD_eq_getElem?_getD]
      cases x : m.tab[r]? with
      | none => exact Nat.zero_le _
      | some y => exact h.len y (List.mem_of_getElem? x)
    unfold beh at e
    rw [List.getD_eq_getElem?_getD, List.getElem?_eq_none (by omega)] at e
    cases e
/-! the rows that are reached -/
structure WayI (m : Mac) (i : Nat) (f : WayL) : Prop where
  rc : ∀ e ∈ f, Reach m 0 e.1
  cl : ∀ j e, j < i → f[j]? = some e → ∀ l a, beh m e.1 l = some a → a ∈ f.map (·.1)
theorem way_step {m : Mac} (h : m.Ok) {f : WayL} {e : Nat × Str} (he : Reach m 0 e.1) (hr : ∀ x ∈ f, Reach m 0 x.1) : ∀ k : Nat, ∃ ext, (List.range k).foldl (wayStep1 m e) f = f ++ ext ∧ (∀ x ∈ f ++ ext, Reach m 0 x.1) ∧ ∀ l, l < k → ∀ a, beh m e.1 l = some a → a ∈ (f ++ ext).map (·.1) := by
  intro k
  induction k with
  | zero => exact ⟨[], (List.append_nil f).symm, by rw [List.append_nil]; exact hr, fun _ q => absurd q (Nat.not_lt_zero _)⟩
  | succ k ih =>
    obtain ⟨ext, e1, r1, c1⟩ := ih
    rw [List.range_succ, List.foldl_append, e1, List.foldl_cons, List.foldl_nil]
    unfold wayStep1
    cases hb : beh m e.1 k with
    | none =>
      refine ⟨ext, rfl, r1, fun l hl a ha => ?_⟩
      rcases Nat.lt_or_ge l k with q | q
      · exact c1 l q a ha
      · rw [show l = k by omega, hb] at ha; cases ha
    | some b =>
      by_cases hin : b ∈ (f ++ ext).map (·.1)
      · refine ⟨ext, by simp only [hin, if_true], r1, fun l hl a ha => ?_⟩
        rcases Nat.lt_or_ge l k with q | q
        · exact c1 l q a ha
        · rw [show l = k by omega, hb] at ha; cases ha; exact hin
      · refine ⟨ext ++ [(b, e.2 ++ letS k)], by simp only [hin, if_false, List.append_assoc], fun x hx => ?_, fun l hl a ha => ?_⟩
        · rw [← List.append_assoc] at hx
          rcases List.mem_append.mp hx with hx | hx
          · exact r1 x hx
          · rw [List.mem_singleton.mp hx]
            exact he.trans (.one hb)
        · rw [← List.append_assoc, List.map_append]
          rcases Nat.lt_or_ge l k with q | q
          · exact List.mem_append_left _ (c1 l q a ha)
          · rw [show l = k by omega, hb] at ha
            cases ha
            exact List.mem_append_right _ (List.mem_singleton.mpr rfl)
theorem ways_done {m : Mac} (h : m.Ok) : ∀ (n i : Nat) (f : WayL), WayOk m f → WayI m i f → i ≤ f.length → m.tab.length + 1 ≤ n + i → (∀ x ∈ f, x ∈ waysLoop m n i f) ∧ WayI m (waysLoop m n i f).length (waysLoop m n i f) := by
  intro n
  induction n with
  | zero =>
    intro i f w _ hi hn
    have := w.bd
    omega
  | succ n ih =>
    intro i f w iv hi hn
    show (∀ x ∈ f, x ∈ (if i < f.length then waysLoop m n (i + 1) (wayStep m f i) else f)) ∧ WayI m (if i < f.length then waysLoop m n (i + 1) (wayStep m f i) else f).length (if i < f.length then waysLoop m n (i + 1) (wayStep m f i) else f)
    by_cases q : i < f.length
    · rw [if_pos q]
      have hfi : f[i]? = some f[i] := List.getElem?_eq_getElem q
      have e0 : wayStep m f i = (List.range 3).foldl (wayStep1 m f[i]) f := by
        unfold wayStep
        rw [List.getD_eq_getElem?_getD, hfi]
        rfl
      have hec := w.len i _ hfi
      have wk : ∀ l : Nat, WayOk m ((List.range l).foldl (wayStep1 m f[i]) f) ∧ f.length ≤ ((List.range l).foldl (wayStep1 m f[i]) f).length := by
        intro l
        induction l with
        | zero => exact ⟨w, Nat.le_refl _⟩
        | succ l ihl =>
          rw [List.range_succ, List.foldl_append]
          obtain ⟨h4, h5⟩ := ihl.1.step1 h (e := f[i]) (by have := ihl.2; omega) l
          exact ⟨h4, Nat.le_trans ihl.2 h5⟩
      obtain ⟨w3, l3⟩ := wk 3
      obtain ⟨ext, e1, r1, c1⟩ := way_step h (iv.rc _ (List.getElem_mem q)) iv.rc 3
      rw [e0]
      rw [e1] at w3 l3 ⊢
      have hI : WayI m (i + 1) (f ++ ext) := by
        refine ⟨r1, fun j x hj hx l a ha => ?_⟩
        by_cases z : j < i
        · rw [List.getElem?_append_left (by omega)] at hx
          rw [List.map_append]
          exact List.mem_append_left _ (iv.cl j x z hx l a ha)
        · rw [show j = i by omega, List.getElem?_append_left q, hfi] at hx
          cases hx
          exact c1 l (beh_l h ha) a ha
      obtain ⟨k1, k2⟩ := ih (i + 1) (f ++ ext) w3 hI (by rw [List.length_append]; omega) (by omega)
      exact ⟨fun x hx => k1 x (List.mem_append_left _ hx), k2⟩
    · rw [if_neg q]
      refine ⟨fun x hx => hx, ?_⟩
      rw [show f.length = i by omega]
      exact iv
theorem ways_reach {m : Mac} (h : m.Ok) (r : Nat) : r ∈ (ways m).map (·.1) ↔ Reach m 0 r := by
  have hp := h.pos
  have w0 : WayOk m way0 := ⟨by decide +kernel, fun e he => by rw [List.mem_singleton.mp he]; exact hp, fun i e he => by
    cases i with
    | zero => cases he; exact Nat.le_refl _
    | succ j => simp [way0] at he⟩
  obtain ⟨k1, k2⟩ := ways_done h (m.tab.length + 1) 0 way0 w0 ⟨fun e he => by rw [List.mem_singleton.mp he]; exact .refl m 0, fun j _ hj => absurd hj (Nat.not_lt_zero _)⟩ (Nat.zero_le _) (Nat.le_refl _)
  rw [show waysLoop m (m.tab.length + 1) 0 way0 = ways m from rfl] at k1 k2
  constructor
  · intro hr
    obtain ⟨e, he, rfl⟩ := List.mem_map.mp hr
    exact k2.rc e he
  · rintro ⟨n, p⟩
    induction p with
    | nil => exact List.mem_map.mpr ⟨(0, ""), k1 _ List.mem_cons_self, rfl⟩
    | snoc _ e _ ih =>
      obtain ⟨x, hx, rfl⟩ := List.mem_map.mp ih
      obtain ⟨j, hj, ej⟩ := List.mem_iff_getElem.mp hx
      exact k2.cl j x hj (by rw [List.getElem?_eq_getElem hj, ej]) _ _ e
/-! the rows that lead to an end -/
theorem any_in {m : Mac} {f : List Nat} {r : Nat} : anyIn m f r = true ↔ ∃ l, l < 3 ∧ ∃ a, beh m r l = some a ∧ a ∈ f := by
  unfold anyIn
  rw [List.any_eq_true]
  constructor
  · rintro ⟨l, hl, q⟩
    refine ⟨l, List.mem_range.mp hl, ?_⟩
    cases hb : beh m r l with
    | none => rw [hb] at q; cases q
    | some a => rw [hb] at q; exact ⟨a, rfl, of_decide_eq_true q⟩
  · rintro ⟨l, hl, a, hb, ha⟩
    exact ⟨l, List.mem_range.mpr hl, by rw [hb]; exact decide_eq_true ha⟩
theorem leadStep_sub (m : Mac) (f : List Nat) (r : Nat) : (∀ x ∈ f, x ∈ leadStep m f r) ∧ f.length ≤ (leadStep m f r).length := by
  unfold leadStep
  split
  · exact ⟨fun x hx => List.mem_append_left _ hx, by rw [List.length_append]; omega⟩
  · exact ⟨fun x hx => hx, Nat.le_refl _⟩
theorem sweep_sub (m : Mac) : ∀ (rs : List Nat) (f : List Nat), (∀ x ∈ f, x ∈ rs.foldl (leadStep m) f) ∧ f.length ≤ (rs.foldl (leadStep m) f).length := by
  intro rs
  induction rs with
  | nil => intro f; exact ⟨fun x hx => hx, Nat.le_refl _⟩
  | cons r rs ih =>
    intro f
    obtain ⟨h1, h2⟩ := leadStep_sub m f r
    obtain ⟨h3, h4⟩ := ih (leadStep m f r)
    exact ⟨fun x hx => h3 x (h1 x hx), Nat.le_trans h2 h4⟩
theorem sweep_same (m : Mac) : ∀ (rs : List Nat) (f : List Nat), (rs.foldl (leadStep m) f).length = f.length → rs.foldl (leadStep m) f = f ∧ ∀ r ∈ rs, r ∉ f → anyIn m f r = false := by
  intro rs
  induction rs with
  | nil => intro f _; exact ⟨rfl, fun _ h => nomatch h⟩
  | cons r rs ih =>
    intro f hl
    have h2 := (leadStep_sub m f r).2
    have h4 := (sweep_sub m rs (leadStep m f r)).2
    have e1 : leadStep m f r = f := by
      unfold leadStep at h2 h4 ⊢
      split
      · rename_i q
        rw [List.foldl_cons] at hl
        unfold leadStep at hl
        rw [if_pos q] at hl h4
        rw [List.length_append] at h4
        simp at h4
        omega
      · rfl
    rw [List.foldl_cons, e1] at hl ⊢
    obtain ⟨k1, k2⟩ := ih f hl
    refine ⟨k1, fun x hx hn => ?_⟩
    rcases List.mem_cons.mp hx with rfl | hx
    · cases hz : anyIn m f x with
      | false => rfl
      | true =>
        unfold leadStep at e1
        rw [if_pos ⟨hn, hz⟩] at e1
        have := congrArg List.length e1
        rw [List.length_append] at this
        simp at this
    · exact k2 x hx hn
theorem sweep_leads {m : Mac} : ∀ (rs : List Nat) (f : List Nat), (∀ x ∈ f, Leads m x) → ∀ x ∈ rs.foldl (leadStep m) f, Leads m x := by
  intro rs
  induction rs with
  | nil => intro f h; exact h
  | cons r rs ih =>
    intro f h
    refine ih _ fun x hx => ?_
    unfold leadStep at hx
    split at hx
    · rename_i q
      rcases List.mem_append.mp hx with hx | hx
      · exact h x hx
      · rw [List.mem_singleton.mp hx]
        obtain ⟨l, _, a, hb, ha⟩ := any_in.mp q.2
        obtain ⟨e, re, he⟩ := h a ha
        exact ⟨e, (Reach.one hb).trans re, he⟩
    · exact h x hx
theorem lead_done {m : Mac} (h : m.Ok) : ∀ (n : Nat) (f : List Nat), LeadOk m f → (∀ x ∈ f, Leads m x) → m.tab.length + 1 ≤ n + f.length →
    (∀ x ∈ f, x ∈ leadLoop m n f) ∧ (∀ x ∈ leadLoop m n f, Leads m x) ∧ ∀ r, r < m.tab.length → r ∉ leadLoop m n f → anyIn m (leadLoop m n f) r = false := by
  intro n
  induction n with
  | zero =>
    intro f w _ hn
    have := w.bd
    omega
  | succ n ih =>
    intro f w hl hn
    have s1 := (w.sweep m.tab.length (Nat.le_refl _))
    have s2 := sweep_sub m (List.range m.tab.length) f
    have s3 := sweep_leads (List.range m.tab.length) f hl
    have es : (List.range m.tab.length).foldl (leadStep m) f = leadSweep m f := rfl
    rw [es] at s1 s2 s3
    show (∀ x ∈ f, x ∈ (if (leadSweep m f).length = f.length then leadSweep m f else leadLoop m n (leadSweep m f))) ∧ (∀ x ∈ (if (leadSweep m f).length = f.length then leadSweep m f else leadLoop m n (leadSweep m f)), Leads m x) ∧
      ∀ r, r < m.tab.length → r ∉ (if (leadSweep m f).length = f.length then leadSweep m f else leadLoop m n (leadSweep m f)) → anyIn m (if (leadSweep m f).length = f.length then leadSweep m f else leadLoop m n (leadSweep m f)) r = false
    by_cases q : (leadSweep m f).length = f.length
    · rw [if_pos q]
      obtain ⟨k1, k2⟩ := sweep_same m (List.range m.tab.length) f q
      rw [es] at k1
      rw [k1] at s2 s3 ⊢
      exact ⟨s2.1, s3, fun r hr hn => k2 r (List.mem_range.mpr hr) hn⟩
    · rw [if_neg q]
      obtain ⟨k1, k2, k3⟩ := ih (leadSweep m f) s1.1 s3 (by omega)
      exact ⟨fun x hx => k1 x (s2.1 x hx), k2, k3⟩
theorem lead_leads {m : Mac} (h : m.Ok) {r : Nat} (hr : r < m.tab.length) : r ∈ lead m ↔ Leads m r := by
  obtain ⟨k1, k2, k3⟩ := lead_done h (m.tab.length + 1) m.last (last_nd h) (fun x hx => ⟨x, .refl m x, hx⟩) (by omega)
  rw [show leadLoop m (m.tab.length + 1) m.last = lead m from rfl] at k1 k2 k3
  refine ⟨k2 r, ?_⟩
  rintro ⟨e, ⟨n, p⟩, he⟩
  have key : ∀ x, Reach m x e → x < m.tab.length → x ∈ lead m := by
    rintro x ⟨n, p⟩
    induction n generalizing x with
    | zero =>
      intro _
      cases p
      exact k1 e he
    | succ n ih =>
      intro hx
      -- the first step
      have fst : ∀ {a b n : Nat}, Pth m All a b (n + 1) → ∃ l c, beh m a l = some c ∧ Pth m All c b n := by
        intro a b n p
        induction n generalizing b with
        | zero =>
          cases p with
          | snoc p e s =>
            cases p
            exact ⟨_, _, e, .nil⟩
        | succ n ih2 =>
          cases p with
          | snoc p e s =>
            obtain ⟨l, c, e1, p1⟩ := ih2 p
            exact ⟨l, c, e1, .snoc p1 e s⟩
      obtain ⟨l, c, e1, p1⟩ := fst p
      have hc := ih c p1 (beh_lt h e1)
      by_cases q : x ∈ lead m
      · exact q
      · have := k3 x hx q
        rw [any_in.mpr ⟨l, beh_l h e1, c, e1, hc⟩] at this
        cases this
  exact key r ⟨n, p⟩ hr
theorem mem_needed {m : Mac} (h : m.Ok) {r : Nat} : r ∈ needed m ↔ Reach m 0 r ∧ Leads m r := by
  unfold needed
  rw [List.mem_filter, List.mem_filter, List.mem_range]
  unfold isKey
  rw [decide_eq_true_eq, decide_eq_true_eq, ways_reach h]
  constructor
  · rintro ⟨⟨h1, h2⟩, h3⟩
    exact ⟨h2, (lead_leads h h1).mp h3⟩
  · rintro ⟨⟨n, p⟩, h2⟩
    have hr := p.lt h h.pos
    exact ⟨⟨hr, ⟨n, p⟩⟩, (lead_leads h hr).mpr h2⟩
theorem zero_needed {m : Mac} (h : m.Ok) (hn : needed m ≠ []) : 0 ∈ needed m := by
  obtain ⟨r, hr⟩ := List.exists_mem_of_ne_nil _ hn
  obtain ⟨h1, e, h2, h3⟩ := (mem_needed h).mp hr
  exact (mem_needed h).mpr ⟨.refl m 0, e, h1.trans h2, h3⟩
/-- a path between needed rows stays among them -/
theorem pth_needed {m : Mac} (h : m.Ok) {a b n : Nat} (ha : Reach m 0 a) (hb : Leads m b) (p : Pth m All a b n) : Pth m (fun r => r ∈ needed m) a b n := by
  induction p with
  | nil => exact .nil
  | @snoc b c l n p e s ih =>
    have hb' : Leads m b := let ⟨x, hx, he⟩ := hb; ⟨x, (Reach.one e).trans hx, he⟩
    refine .snoc (ih hb') e ((mem_needed h).mpr ⟨ha.trans ⟨_, .snoc p e s⟩, hb⟩)
/-! how many letters lead from a row to another one -/
structure BfsI (m : Mac) (rows : List Nat) (row i : Nat) (f : DistL) : Prop where
  path : ∀ e ∈ f, Pth m (fun r => r ∈ rows) row e.1 e.2
  cl : ∀ j e, j < i → f[j]? = some e → ∀ l a, beh m e.1 l = some a → a ∈ rows → ∃ d, (a, d) ∈ f ∧ d ≤ e.2 + 1
  srt : f.Pairwise fun x y => x.2 ≤ y.2
  top : ∀ e0, f[i]? = some e0 → ∀ e ∈ f, e.2 ≤ e0.2 + 1
theorem bfs_step {m : Mac} (h : m.Ok) {rows : List Nat} {row : Nat} {f : DistL} {e : Nat × Nat} (he : Pth m (fun r => r ∈ rows) row e.1 e.2) (ht : ∀ x ∈ f, x.2 ≤ e.2 + 1) : ∀ k : Nat, ∃ ext, (List.range k).foldl (putStep1 m rows e) f = f ++ ext ∧ (∀ x ∈ ext, x.2 = e.2 + 1 ∧ Pth m (fun r => r ∈ rows) row x.1 x.2) ∧
    ∀ l, l < k → ∀ a, beh m e.1 l = some a → a ∈ rows → ∃ d, (a, d) ∈ f ++ ext ∧ d ≤ e.2 + 1 := by
  intro k
  induction k with
  | zero => exact ⟨[], (List.append_nil f).symm, fun _ q => (nomatch q), fun _ q => absurd q (Nat.not_lt_zero _)⟩
  | succ k ih =>
    obtain ⟨ext, e1, r1, c1⟩ := ih
    rw [List.range_succ, List.foldl_append, e1, List.foldl_cons, List.foldl_nil]
    unfold putStep1
    cases hb : beh m e.1 k with
    | none =>
      refine ⟨ext, rfl, r1, fun l hl a ha hr => ?_⟩
      rcases Nat.lt_or_ge l k with q | q
      · exact c1 l q a ha hr
      · rw [show l = k by omega, hb] at ha; cases ha
    | some b =>
      by_cases hin : b ∈ rows ∧ b ∉ (f ++ ext).map (·.1)
      · refine ⟨ext ++ [(b, e.2 + 1)], by simp only [hin, not_false_eq_true, and_self, if_true, List.append_assoc], fun x hx => ?_, fun l hl a ha hr => ?_⟩
        · rcases List.mem_append.mp hx with hx | hx
          · exact r1 x hx
          · rw [List.mem_singleton.mp hx]
            exact ⟨rfl, .snoc he hb hin.1⟩
        · rw [← List.append_assoc]
          rcases Nat.lt_or_ge l k with q | q
          · obtain ⟨d, hd, hd2⟩ := c1 l q a ha hr
            exact ⟨d, List.mem_append_left _ hd, hd2⟩
          · rw [show l = k by omega, hb] at ha
            cases ha
            exact ⟨_, List.mem_append_right _ (List.mem_singleton.mpr rfl), Nat.le_refl _⟩
      · refine ⟨ext, by simp only [hin, if_false], r1, fun l hl a ha hr => ?_⟩
        rcases Nat.lt_or_ge l k with q | q
        · exact c1 l q a ha hr
        · rw [show l = k by omega, hb] at ha
          cases ha
          have hk : b ∈ (f ++ ext).map (·.1) := Decidable.not_not.mp fun z => hin ⟨hr, z⟩
          obtain ⟨x, hx, rfl⟩ := List.mem_map.mp hk
          refine ⟨x.2, hx, ?_⟩
          rcases List.mem_append.mp hx with hx | hx
          · exact ht x hx
          · exact Nat.le_of_eq (r1 x hx).1
theorem bfs_done {m : Mac} (h : m.Ok) {rows : List Nat} {row : Nat} : ∀ (n i : Nat) (f : DistL), DistOk m f → BfsI m rows row i f → i ≤ f.length → m.tab.length + 1 ≤ n + i →
    DistOk m (putLoop m rows n i f) ∧ (∀ x ∈ f, x ∈ putLoop m rows n i f) ∧ BfsI m rows row (putLoop m rows n i f).length (putLoop m rows n i f) := by
  intro n
  induction n with
  | zero =>
    intro i f w _ hi hn
    have := w.bd
    omega
  | succ n ih =>
    intro i f w iv hi hn
    have e9 : putLoop m rows (n + 1) i f = if i < f.length then putLoop m rows n (i + 1) (putStep m rows f i) else f := rfl
    rw [e9]
    by_cases q : i < f.length
    · rw [if_pos q]
      have hfi : f[i]? = some f[i] := List.getElem?_eq_getElem q
      have e0 : putStep m rows f i = (List.range 3).foldl (putStep1 m rows f[i]) f := by
        unfold putStep
        rw [List.getD_eq_getElem?_getD, hfi]
        rfl
      have hec := w.val i _ hfi
      obtain ⟨w3, l3, _⟩ := w.steps h (rows := rows) (e := f[i]) (by omega) (List.getElem_mem q) 3
      obtain ⟨ext, e1, r1, c1⟩ := bfs_step h (iv.path _ (List.getElem_mem q)) (iv.top _ hfi) 3
      rw [e0]
      rw [e1] at w3 l3 ⊢
      have srt2 : (f ++ ext).Pairwise fun x y => x.2 ≤ y.2 := by
        refine List.pairwise_append.mpr ⟨iv.srt, ?_, fun x hx y hy => ?_⟩
        · have all : ∀ l : DistL, (∀ x ∈ l, x.2 = (f[i]).2 + 1) → l.Pairwise fun x y => x.2 ≤ y.2 := by
            intro l
            induction l with
            | nil => intro _; exact .nil
            | cons x l ih3 =>
              intro hx
              refine List.pairwise_cons.mpr ⟨fun y hy => ?_, ih3 fun y hy => hx y (List.mem_cons_of_mem _ hy)⟩
              rw [hx x List.mem_cons_self, hx y (List.mem_cons_of_mem _ hy)]
              exact Nat.le_refl _
          exact all ext fun x hx => (r1 x hx).1
        · rw [(r1 y hy).1]
          exact iv.top _ hfi x hx
      have topA : ∀ x ∈ f ++ ext, x.2 ≤ (f[i]).2 + 1 := fun x hx => by
        rcases List.mem_append.mp hx with hx | hx
        · exact iv.top _ hfi x hx
        · exact Nat.le_of_eq (r1 x hx).1
      have hI : BfsI m rows row (i + 1) (f ++ ext) := by
        refine ⟨fun x hx => ?_, fun j x hj hx l a ha hr => ?_, srt2, fun x0 hx0 x hx => ?_⟩
        · rcases List.mem_append.mp hx with hx | hx
          · exact iv.path x hx
          · exact (r1 x hx).2
        · by_cases z : j < i
          · rw [List.getElem?_append_left (by omega)] at hx
            obtain ⟨d, hd, hd2⟩ := iv.cl j x z hx l a ha hr
            exact ⟨d, List.mem_append_left _ hd, hd2⟩
          · rw [show j = i by omega, List.getElem?_append_left q, hfi] at hx
            cases hx
            exact c1 l (beh_l h ha) a ha hr
        · have lt1 : i < (f ++ ext).length := by rw [List.length_append]; omega
          obtain ⟨lt2, e2⟩ := List.getElem?_eq_some_iff.mp hx0
          have le := List.pairwise_iff_getElem.mp srt2 i (i + 1) lt1 lt2 (Nat.lt_succ_self _)
          rw [e2, List.getElem_append_left q] at le
          have := topA x hx
          omega
      obtain ⟨k0, k1, k2⟩ := ih (i + 1) (f ++ ext) w3 hI (by rw [List.length_append]; omega) (by omega)
      exact ⟨k0, fun x hx => k1 x (List.mem_append_left _ hx), k2⟩
    · rw [if_neg q]
      refine ⟨w, fun x hx => hx, ?_⟩
      rw [show f.length = i by omega]
      exact iv
theorem puts_all {m : Mac} (h : m.Ok) (rows : List Nat) {row : Nat} (hr : row < m.tab.length) : DistOk m (putsTo m rows row) ∧ (row, 0) ∈ putsTo m rows row ∧ BfsI m rows row (putsTo m rows row).length (putsTo m rows row) := by
  obtain ⟨k0, k1, k2⟩ := bfs_done h (rows := rows) (row := row) (m.tab.length + 1) 0 [(row, 0)] ⟨List.nodup_cons.mpr ⟨(fun q => nomatch q), List.nodup_nil⟩, fun e he => by rw [List.mem_singleton.mp he]; exact hr, fun i e he => by
      cases i with
      | zero => cases he; exact Nat.le_refl _
      | succ j => simp at he⟩
    ⟨fun e he => by rw [List.mem_singleton.mp he]; exact .nil, fun j _ hj => absurd hj (Nat.not_lt_zero _), List.pairwise_singleton _ _, fun e0 he0 e he => by cases he0; rw [List.mem_singleton.mp he]; exact Nat.zero_le _⟩ (Nat.zero_le _) (Nat.le_refl _)
  exact ⟨k0, k1 _ List.mem_cons_self, k2⟩
theorem look_mem {α : Type} {f : List (Nat × α)} {b : Nat} {d : α} (e : f.lookup b = some d) : (b, d) ∈ f := by
  induction f with
  | nil => cases e
  | cons x f ih =>
    obtain ⟨k, v⟩ := x
    rw [List.lookup_cons] at e
    by_cases q : b = k
    · subst q
      simp at e
      subst e
      exact List.mem_cons_self
    · have q2 : (b == k) = false := by simpa using q
      rw [q2] at e
      exact List.mem_cons_of_mem _ (ih e)
theorem puts_path {m : Mac} (h : m.Ok) {rows : List Nat} {row b d : Nat} (hr : row < m.tab.length) (e : (putsTo m rows row).lookup b = some d) : Pth m (fun r => r ∈ rows) row b d := (puts_all h rows hr).2.2.path (b, d) (look_mem e)
theorem puts_least {m : Mac} (h : m.Ok) {rows : List Nat} {row b k : Nat} (hr : row < m.tab.length) (p : Pth m (fun r => r ∈ rows) row b k) : ∃ d, (putsTo m rows row).lookup b = some d ∧ d ≤ k := by
  obtain ⟨k0, k1, k2⟩ := puts_all h rows hr
  induction p with
  | nil => exact ⟨0, lookup_mem k0.nd k1, Nat.le_refl _⟩
  | snoc p e s ih =>
    obtain ⟨d, hd, hle⟩ := ih
    obtain ⟨j, hj, ej⟩ := List.mem_iff_getElem.mp (look_mem hd)
    obtain ⟨d2, h2, h3⟩ := k2.cl j _ hj (by rw [List.getElem?_eq_getElem hj, ej]) _ _ e s
    exact ⟨d2, lookup_mem k0.nd h2, by have : d2 ≤ d + 1 := h3; omega⟩
theorem puts_self {m : Mac} (h : m.Ok) {rows : List Nat} {row : Nat} (hr : row < m.tab.length) : (putsTo m rows row).lookup row = some 0 := by
  obtain ⟨d, hd, hle⟩ := puts_least h (rows := rows) hr .nil
  rw [hd, Nat.le_zero.mp hle]
theorem gok_ok {m : Mac} (h : m.Ok) : gok m = true := by
  refine List.all_eq_true.mpr fun a ha => ?_
  have hlt := needed_lt ha
  obtain ⟨h1, e, ⟨n, p⟩, he⟩ := (mem_needed h).mp ha
  rw [puts_self h hlt, Bool.and_eq_true]
  refine ⟨beq_self_eq_true _, List.any_eq_true.mpr ⟨e, ?_, ?_⟩⟩
  · exact List.mem_filter.mpr ⟨(mem_needed h).mpr ⟨h1.trans ⟨n, p⟩, e, .refl m e, he⟩, decide_eq_true he⟩
  · obtain ⟨d, hd, _⟩ := puts_least h hlt (pth_needed h h1 ⟨e, .refl m e, he⟩ p)
    rw [hd]
    rfl
end
end Rk10

open PySem L2 TL
namespace Rk10
section
variable {P : Program} {w : World} {K : PySem.W.Frag} {mg : Str → Option Value} {base : Heap}
/-! the least numbers: what they are, in plain words -/
/-- an answer at row b to letter l that leads to row x: letters put in, then one edit -/
def Ans (m : Mac) (p : Pr) (b l x c : Nat) : Prop := ∃ r d q, r ∈ needed m ∧ putC m p b r = some d ∧ (x, q) ∈ movesL m (needed m) p r l ∧ c = d + q
theorem putN_mem {f : DistL} {k v : Nat} {e : Nat × Nat} (h : e ∈ putN f k v) : e = (k, v) ∨ e ∈ f := by
  unfold putN at h
  split at h
  · obtain ⟨x, hx, rfl⟩ := List.mem_map.mp h
    by_cases q : x.1 = k
    · rw [if_pos q, q]; exact .inl rfl
    · rw [if_neg q]; exact .inr hx
  · rcases List.mem_append.mp h with h | h
    · exact .inr h
    · exact .inl (List.mem_singleton.mp h)
theorem putN_has (f : DistL) (k v : Nat) : (k, v) ∈ putN f k v := by
  unfold putN
  split
  · rename_i h
    obtain ⟨x, hx, e⟩ := List.any_eq_true.mp h
    have e' := of_decide_eq_true e
    exact List.mem_map.mpr ⟨x, hx, by rw [if_pos e', e']⟩
  · exact List.mem_append_right _ (List.mem_singleton.mpr rfl)
theorem putN_keep {f : DistL} {k v : Nat} {e : Nat × Nat} (h : e ∈ f) (hk : e.1 ≠ k) : e ∈ putN f k v := by
  unfold putN
  split
  · exact List.mem_map.mpr ⟨e, h, if_neg hk⟩
  · exact List.mem_append_left _ h
/-- what a step does to the least price at a row -/
theorem ansStep_mem {a : Nat} {f : DistL} {q e : Nat × Nat} (h : e ∈ ansStep a f q) : e = (q.1, a + q.2) ∨ e ∈ f := by
  unfold ansStep at h
  split at h
  · exact putN_mem h
  · split at h
    · exact putN_mem h
    · exact .inr h
theorem ansStep_le {a : Nat} {f : DistL} {q : Nat × Nat} (nd : (f.map (·.1)).Nodup) : (∃ e ∈ ansStep a f q, e.1 = q.1 ∧ e.2 ≤ a + q.2) ∧ ∀ e ∈ f, ∃ e' ∈ ansStep a f q, e'.1 = e.1 ∧ e'.2 ≤ e.2 := by
  unfold ansStep
  split
  · rename_i hn
    refine ⟨⟨_, putN_has _ _ _, rfl, Nat.le_refl _⟩, fun e he => ?_⟩
    have ne : e.1 ≠ q.1 := fun z => lookup_none.mp hn (List.mem_map.mpr ⟨e, he, z⟩)
    exact ⟨e, putN_keep he ne, rfl, Nat.le_refl _⟩
  · rename_i v hv
    have hm := look_mem hv
    split
    · rename_i lt
      refine ⟨⟨_, putN_has _ _ _, rfl, Nat.le_refl _⟩, fun e he => ?_⟩
      by_cases z : e.1 = q.1
      · refine ⟨_, putN_has _ _ _, z.symm, ?_⟩
        have h1 := lookup_mem nd he
        rw [z, hv] at h1
        have h2 := Option.some.inj h1
        show a + q.2 ≤ e.2
        omega
      · exact ⟨e, putN_keep he z, rfl, Nat.le_refl _⟩
    · rename_i lt
      exact ⟨⟨_, hm, rfl, by show v ≤ _; omega⟩, fun e he => ⟨e, he, rfl, Nat.le_refl _⟩⟩
theorem ansSteps_mem {a : Nat} : ∀ {qs : List (Nat × Nat)} {f : DistL} {e : Nat × Nat}, e ∈ qs.foldl (ansStep a) f → (∃ q ∈ qs, e = (q.1, a + q.2)) ∨ e ∈ f := by
  intro qs
  induction qs with
  | nil => intro f e h; exact .inr h
  | cons q qs ih =>
    intro f e h
    rcases ih h with ⟨x, hx, rfl⟩ | h
    · exact .inl ⟨x, List.mem_cons_of_mem _ hx, rfl⟩
    · rcases ansStep_mem h with rfl | h
      · exact .inl ⟨q, List.mem_cons_self, rfl⟩
      · exact .inr h
theorem ansSteps_le {m : Mac} {a : Nat} : ∀ {qs : List (Nat × Nat)} {f : DistL}, AnsOk m f → (∀ q ∈ qs, q.1 ∈ needed m) → (∀ q ∈ qs, ∃ e ∈ qs.foldl (ansStep a) f, e.1 = q.1 ∧ e.2 ≤ a + q.2) ∧ ∀ e ∈ f, ∃ e' ∈ qs.foldl (ansStep a) f, e'.1 = e.1 ∧ e'.2 ≤ e.2 := by
  intro qs
  induction qs with
  | nil => intro f _ _; exact ⟨fun _ h => (nomatch h), fun e he => ⟨e, he, rfl, Nat.le_refl _⟩⟩
  | cons q qs ih =>
    intro f ok hq
    obtain ⟨h1, h2⟩ := ih (ok.step (ahead := a) (hq q List.mem_cons_self)) fun x hx => hq x (List.mem_cons_of_mem _ hx)
    obtain ⟨⟨e, he, e1, e2⟩, h4⟩ := ansStep_le (a := a) (q := q) ok.nd
    refine ⟨fun x hx => ?_, fun x hx => ?_⟩
    · rcases List.mem_cons.mp hx with rfl | hx
      · obtain ⟨e', he', f1, f2⟩ := h2 e he
        exact ⟨e', he', f1.trans e1, Nat.le_trans f2 e2⟩
      · exact h1 x hx
    · obtain ⟨y, hy, y1, y2⟩ := h4 x hx
      obtain ⟨e', he', f1, f2⟩ := h2 y hy
      exact ⟨e', he', f1.trans y1, Nat.le_trans f2 y2⟩
theorem ansRows_mem {m : Mac} {p : Pr} {b l : Nat} : ∀ {rs : List Nat} {f : DistL} {e : Nat × Nat}, e ∈ rs.foldl (ansRow m p b l) f → (∃ r ∈ rs, ∃ d q, putC m p b r = some d ∧ (e.1, q) ∈ movesL m (needed m) p r l ∧ e.2 = d + q) ∨ e ∈ f := by
  intro rs
  induction rs with
  | nil => intro f e h; exact .inr h
  | cons r rs ih =>
    intro f e h
    rcases ih h with ⟨x, hx, z⟩ | h
    · exact .inl ⟨x, List.mem_cons_of_mem _ hx, z⟩
    · unfold ansRow at h
      split at h
      · exact .inr h
      · rename_i d hd
        rcases ansSteps_mem h with ⟨q, hq, rfl⟩ | h
        · exact .inl ⟨r, List.mem_cons_self, d, q.2, hd, hq, rfl⟩
        · exact .inr h
theorem ansRows_le {m : Mac} {p : Pr} {b l : Nat} : ∀ {rs : List Nat} {f : DistL}, AnsOk m f → (∀ r ∈ rs, r ∈ needed m) → (∀ r ∈ rs, ∀ d q, putC m p b r = some d → q ∈ movesL m (needed m) p r l → ∃ e ∈ rs.foldl (ansRow m p b l) f, e.1 = q.1 ∧ e.2 ≤ d + q.2) ∧ ∀ e ∈ f, ∃ e' ∈ rs.foldl (ansRow m p b l) f, e'.1 = e.1 ∧ e'.2 ≤ e.2 := by
  intro rs
  induction rs with
  | nil => intro f _ _; exact ⟨fun _ h => (nomatch h), fun e he => ⟨e, he, rfl, Nat.le_refl _⟩⟩
  | cons r rs ih =>
    intro f ok hr
    obtain ⟨h1, h2⟩ := ih (ok.row (p := p) (a := b) (l := l) (hr r List.mem_cons_self)) fun x hx => hr x (List.mem_cons_of_mem _ hx)
    refine ⟨fun x hx d q hd hq => ?_, fun e he => ?_⟩
    · rcases List.mem_cons.mp hx with rfl | hx
      · have e1 : ansRow m p b l f x = (movesL m (needed m) p x l).foldl (ansStep d) f := by unfold ansRow; rw [hd]
        obtain ⟨g1, _⟩ := ansSteps_le (a := d) ok (moves_mem (p := p) (l := l) (hr x List.mem_cons_self))
        obtain ⟨e, he, f1, f2⟩ := g1 q hq
        rw [← e1] at he
        obtain ⟨e', he', g1, g2⟩ := h2 e he
        exact ⟨e', he', g1.trans f1, Nat.le_trans g2 f2⟩
      · exact h1 x hx d q hd hq
    · have : ∃ y ∈ ansRow m p b l f r, y.1 = e.1 ∧ y.2 ≤ e.2 := by
        unfold ansRow
        split
        · exact ⟨e, he, rfl, Nat.le_refl _⟩
        · exact (ansSteps_le ok (moves_mem (p := p) (l := l) (hr r List.mem_cons_self))).2 e he
      obtain ⟨y, hy, y1, y2⟩ := this
      obtain ⟨e', he', f1, f2⟩ := h2 y hy
      exact ⟨e', he', f1.trans y1, Nat.le_trans f2 y2⟩
theorem ansL_ans {m : Mac} {p : Pr} {b l : Nat} {e : Nat × Nat} (h : e ∈ ansL m p b l) : Ans m p b l e.1 e.2 := by
  rcases ansRows_mem h with ⟨r, hr, d, q, h1, h2, h3⟩ | h
  · exact ⟨r, d, q, hr, h1, h2, h3⟩
  · cases h
theorem ans_ansL {m : Mac} {p : Pr} {b l x c : Nat} (h : Ans m p b l x c) : ∃ e ∈ ansL m p b l, e.1 = x ∧ e.2 ≤ c := by
  obtain ⟨r, d, q, hr, h1, h2, rfl⟩ := h
  exact (ansRows_le (m := m) (p := p) (b := b) (l := l) (rs := needed m) (f := []) ⟨List.nodup_nil, fun _ h => (nomatch h)⟩ fun _ h => h).1 r hr d (x, q) h1 h2
/-- v is enough at (a, b), when h is behind -/
def Enough (m1 m2 : Mac) (p : Pr) (h : HF) (a b v : Nat) : Prop := needB m1 m2 p a b ≤ v ∧ ∀ l x, beh m1 a l = some x → x ∈ needed m1 → ∃ y c k, Ans m2 p b l y c ∧ h x y = some k ∧ c + k ≤ v
theorem need_enough {m1 m2 : Mac} (o1 : m1.Ok) {p : Pr} {h : HF} {a b v : Nat} : (∃ k, k ≤ v ∧ needN m1 m2 p h a b = some k) ↔ Enough m1 m2 p h a b v := by
  constructor
  · rintro ⟨k, hk, e⟩
    obtain ⟨h1, rfl⟩ := needN_some.mp e
    refine ⟨?_, fun l x hb hx => ?_⟩
    · refine Nat.le_trans (le_maxN ?_) hk
      exact List.mem_filterMap.mpr ⟨some (needB m1 m2 p a b), List.mem_cons_self, rfl⟩
    · have hf : needF m1 m2 p h a b l = some (bestN (ansL m2 p b l) h x) := by
        unfold needF
        rw [hb]
        exact if_pos hx
      have hm : bestN (ansL m2 p b l) h x ∈ needL m1 m2 p h a b := List.mem_cons_of_mem _ (List.mem_filterMap.mpr ⟨l, List.mem_range.mpr (beh_l o1 hb), hf⟩)
      obtain ⟨n, hn⟩ := Option.isSome_iff_exists.mp (h1 _ hm)
      obtain ⟨ne, en⟩ := bestN_some.mp hn
      obtain ⟨e, he, e2⟩ := List.mem_filterMap.mp (minN_mem ne)
      obtain ⟨k', hk', e3⟩ := Option.map_eq_some_iff.mp e2
      refine ⟨e.1, e.2, k', ansL_ans he, hk', ?_⟩
      have h4 : n ≤ maxN ((needL m1 m2 p h a b).filterMap id) := le_maxN (List.mem_filterMap.mpr ⟨_, hm, hn⟩)
      have e3' : e.2 + k' = minN (bestL (ansL m2 p b l) h x) := e3
      omega
  · rintro ⟨h1, h2⟩
    have key : ∀ o ∈ needL m1 m2 p h a b, ∃ n, o = some n ∧ n ≤ v := by
      intro o ho
      rcases List.mem_cons.mp ho with rfl | ho
      · exact ⟨_, rfl, h1⟩
      · obtain ⟨l, hl, e⟩ := List.mem_filterMap.mp ho
        unfold needF at e
        cases hb : beh m1 a l with
        | none => rw [hb] at e; cases e
        | some x =>
          rw [hb] at e
          by_cases hx : x ∈ needed m1
          · simp only [hx, if_true] at e
            cases e
            obtain ⟨y, c, k, ha, hy, hle⟩ := h2 l x hb hx
            obtain ⟨e, he, e1, e2⟩ := ans_ansL ha
            have hm : e.2 + k ∈ bestL (ansL m2 p b l) h x := List.mem_filterMap.mpr ⟨e, he, by rw [e1, hy]; rfl⟩
            refine ⟨minN (bestL (ansL m2 p b l) h x), bestN_some.mpr ⟨(fun q => by rw [q] at hm; cases hm), rfl⟩, ?_⟩
            have := minN_le hm
            omega
          · simp only [hx, if_false] at e
            cases e
    refine ⟨maxN ((needL m1 m2 p h a b).filterMap id), maxN_le fun n hn => ?_, needN_some.mpr ⟨fun o ho => ?_, rfl⟩⟩
    · obtain ⟨o, ho, e⟩ := List.mem_filterMap.mp hn
      obtain ⟨k, rfl, hk⟩ := key o ho
      cases e
      exact hk
    · obtain ⟨k, rfl, _⟩ := key o ho
      rfl
/-- numbers that are enough at their pairs -/
def Pre (m1 m2 : Mac) (p : Pr) (U : HF) : Prop := ∀ a b v, a ∈ needed m1 → b ∈ needed m2 → U a b = some v → Enough m1 m2 p U a b v
theorem Enough.mono {m1 m2 : Mac} {p : Pr} {h h' : HF} {a b v v' : Nat} (e : Enough m1 m2 p h a b v) (m : ∀ x y k, x ∈ needed m1 → y ∈ needed m2 → h x y = some k → ∃ k', k' ≤ k ∧ h' x y = some k') (hv : v ≤ v') : Enough m1 m2 p h' a b v' := by
  refine ⟨Nat.le_trans e.1 hv, fun l x hb hx => ?_⟩
  obtain ⟨y, c, k, ha, hy, hle⟩ := e.2 l x hb hx
  obtain ⟨r, d, q, hr, h1, h2, rfl⟩ := ha
  obtain ⟨k', hk', e'⟩ := m x y k hx (moves_mem hr _ h2) hy
  exact ⟨y, d + q, k', ⟨r, d, q, hr, h1, h2, rfl⟩, e', by omega⟩
theorem ans_in {m : Mac} {p : Pr} {b l y c : Nat} (h : Ans m p b l y c) : y ∈ needed m := by
  obtain ⟨r, d, q, hr, _, h2, _⟩ := h
  exact moves_mem hr _ h2
theorem end_great {m : Mac} {p : Pr} {b : Nat} (hb : b ∈ needed m) : endC m p b ≤ greatest m p :=
  le_maxN (List.mem_append_left _ (List.mem_map.mpr ⟨(b, endC m p b), List.mem_map.mpr ⟨b, hb, rfl⟩, rfl⟩))
theorem ans_great {m : Mac} {p : Pr} {b l : Nat} (hb : b ∈ needed m) (hl : l < 3) {e : Nat × Nat} (he : e ∈ ansL m p b l) : e.2 ≤ greatest m p :=
  Nat.le_trans (le_maxN (List.mem_map.mpr ⟨e, he, rfl⟩)) (le_maxN (List.mem_append_right _ (List.mem_flatMap.mpr ⟨b, hb, List.mem_map.mpr ⟨l, List.mem_range.mpr hl, rfl⟩⟩)))
/-! a gap among few numbers -/
theorem count_up {vs : List Nat} (G : Nat) : ∀ k : Nat, (∀ j, j < k → ∃ v ∈ vs, 1 + j * G ≤ v ∧ v < 1 + (j + 1) * G) → k ≤ vs.countP (fun v => decide (v < 1 + k * G)) := by
  intro k
  induction k with
  | zero => intro _; exact Nat.zero_le _
  | succ k ih =>
    intro h
    have h1 := ih fun j hj => h j (Nat.lt_succ_of_lt hj)
    obtain ⟨v, hv, g1, g2⟩ := h k (Nat.lt_succ_self k)
    have lt : ∀ us : List Nat, v ∈ us → us.countP (fun v => decide (v < 1 + k * G)) < us.countP (fun v => decide (v < 1 + (k + 1) * G)) := by
      intro us
      have le : ∀ us : List Nat, us.countP (fun v => decide (v < 1 + k * G)) ≤ us.countP (fun v => decide (v < 1 + (k + 1) * G)) := fun us => by
        refine List.countP_mono_left fun x _ hx => ?_
        have := of_decide_eq_true hx
        rw [Nat.succ_mul]
        exact decide_eq_true (by omega)
      induction us with
      | nil => intro q; cases q
      | cons u us ih2 =>
        intro q
        rw [List.countP_cons, List.countP_cons]
        rcases List.mem_cons.mp q with rfl | q
        · have n1 : ¬ v < 1 + k * G := by omega
          rw [decide_eq_false n1, decide_eq_true g2]
          have := le us
          simp only [if_true, Bool.false_eq_true, if_false]
          omega
        · have := ih2 q
          by_cases z : u < 1 + k * G
          · have z2 : u < 1 + (k + 1) * G := by rw [Nat.succ_mul]; omega
            rw [decide_eq_true z, decide_eq_true z2]
            simp only [if_true]
            omega
          · rw [decide_eq_false z]
            simp only [Bool.false_eq_true, if_false]
            omega
    have := lt vs hv
    omega
theorem gap {vs : List Nat} {G : Nat} (h : ∃ v ∈ vs, vs.length * G < v) : ∃ j, j < vs.length ∧ ∀ v ∈ vs, v < 1 + j * G ∨ 1 + (j + 1) * G ≤ v := by
  refine Classical.byContradiction fun no => ?_
  have all : ∀ j, j < vs.length → ∃ v ∈ vs, 1 + j * G ≤ v ∧ v < 1 + (j + 1) * G := fun j hj => Classical.byContradiction fun q => no ⟨j, hj, fun v hv => by
    rcases Nat.lt_or_ge v (1 + j * G) with z | z
    · exact .inl z
    · rcases Nat.lt_or_ge v (1 + (j + 1) * G) with y | y
      · exact absurd ⟨v, hv, z, y⟩ q
      · exact .inr y⟩
  have h1 := count_up G vs.length all
  obtain ⟨v, hv, hgt⟩ := h
  have h2 : vs.countP (fun v => decide (v < 1 + vs.length * G)) < vs.length := by
    refine Nat.lt_of_le_of_ne List.countP_le_length fun q => ?_
    have := List.countP_eq_length.mp q v hv
    have := of_decide_eq_true this
    omega
  omega
theorem le_sum {l : List Nat} {x : Nat} (h : x ∈ l) : x ≤ l.sum := by
  induction l with
  | nil => cases h
  | cons y l ih =>
    rw [List.sum_cons]
    rcases List.mem_cons.mp h with rfl | h
    · omega
    · have := ih h; omega
def finV (o : Option Nat) : Nat := o.getD 0
def finS (m1 m2 : Mac) (U : HF) : Nat := ((pairsL m1 m2).map fun e => finV (U e.1 e.2)).sum
/-- all numbers above a gap made less by one -/
def dropH (t : Nat) (U : HF) : HF := fun a b => match U a b with
  | some v => if t ≤ v then some (v - 1) else some v
  | none => none
theorem drop_big {t : Nat} {U : HF} {a b v : Nat} (h : U a b = some v) (q : t ≤ v) : dropH t U a b = some (v - 1) := by
  unfold dropH; rw [h]; exact if_pos q
theorem drop_few {t : Nat} {U : HF} {a b v : Nat} (h : U a b = some v) (q : v < t) : dropH t U a b = some v := by
  unfold dropH; rw [h]; exact if_neg (by omega)
theorem drop_none {t : Nat} {U : HF} {a b : Nat} (h : U a b = none) : dropH t U a b = none := by
  unfold dropH; rw [h]
theorem drop_le (t : Nat) (U : HF) (a b : Nat) : ole (dropH t U a b) (U a b) := by
  intro v hv
  by_cases q : t ≤ v
  · exact ⟨v - 1, Nat.sub_le _ _, drop_big hv q⟩
  · exact ⟨v, Nat.le_refl _, drop_few hv (by omega)⟩
/-- numbers that are enough can be made small -/
theorem small {m1 m2 : Mac} {p : Pr} : ∀ (s : Nat) (U : HF), finS m1 m2 U ≤ s → Pre m1 m2 p U → m1.Ok → ∃ U' : HF, Pre m1 m2 p U' ∧ (∀ a b, ole (U' a b) (U a b)) ∧ ∀ a b v, a ∈ needed m1 → b ∈ needed m2 → U' a b = some v → v ≤ (pairsL m1 m2).length * greatest m2 p := by
  intro s
  induction s with
  | zero =>
    intro U hs hp _
    refine ⟨U, hp, fun a b => ole_refl _, fun a b v ha hb hv => ?_⟩
    have : finV (U a b) ≤ finS m1 m2 U := by
      unfold finS
      exact le_sum (List.mem_map.mpr ⟨(a, b), mem_pairs.mpr ⟨ha, hb⟩, rfl⟩)
    rw [hv] at this
    have h2 : v ≤ finS m1 m2 U := this
    omega
  | succ s ih =>
    intro U hs hp o1
    by_cases big : ∃ e ∈ pairsL m1 m2, (pairsL m1 m2).length * greatest m2 p < finV (U e.1 e.2)
    · obtain ⟨e0, he0, hbig⟩ := big
      obtain ⟨j, hjn, hj⟩ := gap (vs := (pairsL m1 m2).map fun e => finV (U e.1 e.2)) (G := greatest m2 p) ⟨_, List.mem_map.mpr ⟨e0, he0, rfl⟩, by rw [List.length_map]; exact hbig⟩
      rw [List.length_map] at hjn
      have hgap : ∀ x y k, x ∈ needed m1 → y ∈ needed m2 → U x y = some k → k < 1 + j * greatest m2 p ∨ 1 + (j + 1) * greatest m2 p ≤ k := fun x y k hx hy e => by
        have := hj _ (List.mem_map.mpr ⟨(x, y), mem_pairs.mpr ⟨hx, hy⟩, rfl⟩)
        rw [show finV (U (x, y).1 (x, y).2) = k by show finV (U x y) = k; rw [e]; rfl] at this
        exact this
      have htop : 1 + (j + 1) * greatest m2 p ≤ finV (U e0.1 e0.2) := by
        have := Nat.mul_le_mul_right (greatest m2 p) (show j + 1 ≤ (pairsL m1 m2).length by omega)
        omega
      have hsm : (j + 1) * greatest m2 p = j * greatest m2 p + greatest m2 p := Nat.succ_mul _ _
      have hp' : Pre m1 m2 p (dropH (1 + (j + 1) * greatest m2 p) U) := by
        intro a b v' ha hb hv'
        cases hU : U a b with
        | none => rw [drop_none hU] at hv'; cases hv'
        | some v =>
          have en := hp a b v ha hb hU
          by_cases q : 1 + (j + 1) * greatest m2 p ≤ v
          · rw [drop_big hU q] at hv'
            cases hv'
            refine ⟨?_, fun l x hbe hx => ?_⟩
            · have : needB m1 m2 p a b ≤ greatest m2 p := by
                unfold needB
                split
                · exact end_great hb
                · exact Nat.zero_le _
              omega
            · obtain ⟨y, c, k, ha2, hy, hle⟩ := en.2 l x hbe hx
              have hyn := ans_in ha2
              rcases hgap x y k hx hyn hy with z | z
              · obtain ⟨e, he, e1, e2⟩ := ans_ansL ha2
                have := ans_great hb (beh_l o1 hbe) he
                refine ⟨y, e.2, k, ?_, drop_few hy (by omega), by omega⟩
                rw [← e1]
                exact ansL_ans he
              · exact ⟨y, c, k - 1, ha2, drop_big hy (by omega), by omega⟩
          · rw [drop_few hU (by omega)] at hv'
            cases hv'
            exact en.mono (fun x y k _ _ hk => let ⟨k', h1, h2⟩ := drop_le _ U x y k hk; ⟨k', h1, h2⟩) (Nat.le_refl _)
      have hlt : finS m1 m2 (dropH (1 + (j + 1) * greatest m2 p) U) < finS m1 m2 U := by
        refine sum_lt (fun e _ => ?_) ⟨e0, he0, ?_⟩
        · cases hU : U e.1 e.2 with
          | none => rw [drop_none hU]; exact Nat.le_refl _
          | some v =>
            obtain ⟨k', h1, h2⟩ := drop_le (1 + (j + 1) * greatest m2 p) U e.1 e.2 v hU
            rw [h2]
            exact h1
        · cases hU : U e0.1 e0.2 with
          | none => rw [hU] at hbig; exact absurd hbig (Nat.not_lt_zero _)
          | some v =>
            rw [hU] at htop
            have htop' : _ ≤ v := htop
            rw [drop_big hU (by omega)]
            show v - 1 < v
            omega
      obtain ⟨U', k1, k2, k3⟩ := ih _ (by omega) hp' o1
      refine ⟨U', k1, fun a b n hn => ?_, k3⟩
      obtain ⟨k, h1, h2⟩ := drop_le _ U a b n hn
      obtain ⟨k', h3, h4⟩ := k2 a b k h2
      exact ⟨k', Nat.le_trans h3 h1, h4⟩
    · refine ⟨U, hp, fun a b => ole_refl _, fun a b v ha hb hv => ?_⟩
      have := Nat.le_of_not_lt fun q => big ⟨(a, b), mem_pairs.mpr ⟨ha, hb⟩, q⟩
      rw [show finV (U (a, b).1 (a, b).2) = v by show finV (U a b) = v; rw [hv]; rfl] at this
      exact this
/-- the least numbers that are enough -/
structure Lst (m1 m2 : Mac) (p : Pr) (W : HF) : Prop where
  pre : Pre m1 m2 p W
  le : ∀ U, Pre m1 m2 p U → ∀ a b, a ∈ needed m1 → b ∈ needed m2 → ole (W a b) (U a b)
  out : ∀ a b, ¬ (a ∈ needed m1 ∧ b ∈ needed m2) → W a b = none
theorem Lst.uniq {m1 m2 : Mac} {p : Pr} {W W' : HF} (h : Lst m1 m2 p W) (h' : Lst m1 m2 p W') : W = W' := by
  funext a b
  by_cases q : a ∈ needed m1 ∧ b ∈ needed m2
  · have l1 := h.le W' h'.pre a b q.1 q.2
    have l2 := h'.le W h.pre a b q.1 q.2
    cases e : W a b with
    | none =>
      cases e' : W' a b with
      | none => rfl
      | some v =>
        obtain ⟨k, _, hk⟩ := l1 v e'
        rw [e] at hk; cases hk
    | some u =>
      obtain ⟨k, hle, hk⟩ := l2 u e
      rw [hk]
      obtain ⟨k', hle', hk'⟩ := l1 k hk
      rw [e] at hk'
      cases hk'
      rw [Nat.le_antisymm hle' hle]
  · rw [h.out a b q, h'.out a b q]
theorem walk_lst {m1 m2 : Mac} (o1 : m1.Ok) {p : Pr} {most n : Nat} (hm : (pairsL m1 m2).length * greatest m2 p ≤ most) (st : ∀ a b, walkH m1 m2 p most (n + 1) a b = walkH m1 m2 p most n a b) : Lst m1 m2 p (walkH m1 m2 p most n) := by
  refine ⟨fun a b v ha hb hv => ?_, fun U hU => ?_, walk_out m1 m2 p most n⟩
  · rw [← st, walk_in m1 m2 p most n ha hb] at hv
    refine (need_enough o1).mp ⟨v, Nat.le_refl _, ?_⟩
    unfold capN at hv
    cases e : needN m1 m2 p (walkH m1 m2 p most n) a b with
    | none => rw [e] at hv; cases hv
    | some k =>
      rw [e] at hv
      by_cases q : most < k
      · simp only [q, if_true] at hv; cases hv
      · simp only [q, if_false] at hv; exact hv
  · obtain ⟨U', k1, k2, k3⟩ := small _ U (Nat.le_refl _) hU o1
    have go : ∀ n a b, a ∈ needed m1 → b ∈ needed m2 → ole (walkH m1 m2 p most n a b) (U' a b) := by
      intro n
      induction n with
      | zero =>
        intro a b ha hb v _
        exact ⟨0, Nat.zero_le _, if_pos ⟨ha, hb⟩⟩
      | succ n ih =>
        intro a b ha hb v hv
        have en := (k1 a b v ha hb hv).mono (h' := walkH m1 m2 p most n) (fun x y k hx hy hk => ih x y hx hy k hk) (Nat.le_refl _)
        obtain ⟨k, hk, e⟩ := (need_enough o1).mpr en
        refine ⟨k, hk, ?_⟩
        rw [walk_in m1 m2 p most n ha hb, e]
        have := k3 a b v ha hb hv
        exact if_neg (by omega)
    intro a b ha hb v hv
    obtain ⟨k, h1, h2⟩ := k2 a b v hv
    obtain ⟨k', h3, h4⟩ := go n a b ha hb k h2
    exact ⟨k', Nat.le_trans h3 h1, h4⟩
end
end Rk10

open PySem L2 TL
namespace Rk10
section
variable {P : Program} {w : World} {K : PySem.W.Frag} {mg : Str → Option Value} {base : Heap}
theorem gameOk {m1 m2 : Mac} {p : Pr} (o1 : m1.Ok) (o2 : m2.Ok) (l1 : m1.tab.length < 64) (l2 : m2.tab.length < 64) (hp : p.Ok) : GameOk m1 m2 p := ⟨o1, o2, l1, l2, hp, gok_ok o2⟩
theorem valD_vT {κ : Type} [DecidableEq κ] (us : List (κ × V)) (k : κ) : valD (vT us) k = (valV us k).map D.v := by
  unfold valD valV
  induction us with
  | nil => rfl
  | cons x us ih =>
    rw [vT, List.map_cons, List.find?_cons, List.find?_cons]
    show Option.map _ (match decide (x.1 = k) with | true => _ | false => _) = _
    cases decide (x.1 = k) with
    | true => rfl
    | false => exact ih
theorem ht_at (m1 m2 : Mac) (h : HF) {a b : Nat} (ha : a ∈ needed m1) (hb : b ∈ needed m2) : valD (vT (htU m1 m2 h)) (htK a b) = some (optN (h a b)) := by
  rw [valD_vT, valV_ht m1 m2 h (e := (a, b)) (mem_pairs.mpr ⟨ha, hb⟩)]
  show some (D.v (optV (h a b))) = _
  rw [optVN]
def spByLet (Cm Cr Cp CB : Addr) : Prm := fun ds L KK KE => ∃ (m1 m2 : Mac) (p : Pr), ds = [macD Cm Cr m1, macD Cm Cr m2, prD Cp p] ∧ m1.Ok ∧ m2.Ok ∧ m1.tab.length < 64 ∧ m2.tab.length < 64 ∧ p.Ok ∧ L = [] ∧ (needed m2 = [] → KE (.own CB) []) ∧
  (needed m2 ≠ [] → needed m1 = [] → KK (nD 0) []) ∧ (needed m2 ≠ [] → needed m1 ≠ [] → ∀ W, Lst m1 m2 p W → KK (optN (W 0 0)) [])
theorem ok_by_letters {f Cg Cc Cm Cr Cp CB : Addr} {fd : FuncData} (FF : Fun K "by_letters" "by_letters" s_by_letters f fd) (B : Bi mg) (cM : Cls K Cm) (nI : NoAttr K Cm "inner") (g1 : Glob P w K mg base "need_second" ["machine"] (spNeedSecond Cm Cr CB) 4) (g2 : Glob P w K mg base "needed_rows" ["reader"] (spNeeded Cr) 3)
    (g3 : Glob P w K mg base "solved" ["game"] (spSolved Cg Cc Cp Cr) 3) (g4 : Cla P w K mg base "Game" Cg ["self", "one", "other", "prices"] (spGInit Cg Cc Cp Cm Cr) 6) : Def P w K mg base 8 f fd ["one", "other", "prices"] (spByLet Cm Cr Cp CB) := by
  refine def_ok FF sc_by_letters ?_ ?_
  · rintro ds L KK KE ⟨m1, m2, p, rfl, _⟩
    rfl
  · rintro ds L KK KE ⟨m1, m2, p, rfl, o1, o2, l1, l2, hp, rfl, h1, h2, h3⟩ H0 F0
    wtm_at "bg"
    wtm_at "gm"
    refine calls0 ⟨m2, rfl, o2, l2, rfl, fun hne => ?_, h1⟩
    wtm_at "gm"
    refine calls0 ⟨m1, rfl, o1, l1, rfl, ?_⟩
    cases hn : needed m1 with
    | nil =>
      have h2' := h2 hne hn
      wtm_at "gm"
      wtm_at "go"
    | cons x xs =>
      have hne1 : needed m1 ≠ [] := by rw [hn]; exact fun q => nomatch q
      have h3' := h3 hne hne1
      wtm_at "gm"
      refine run_nil ?_
      refine run_ret0 ?_
      wtm_at "ev"
      wtm_at "ev"
      wtm_at "ev"
      refine ev_frz ?_
      wtm_at "ea"
      intro l9
      refine ⟨[(l9, .ins Cg [])], [], List.Perm.refl _, _, fun _ => List.Perm.refl _, l9, m1, m2, p, rfl, gameOk o1 o2 l1 l2 hp, rfl, ?_⟩
      refine ⟨rfl, _, _, _, rfl, .here, ?_⟩
      wtm_at "ea"
      refine calls0 ⟨m1, m2, p, rfl, gameOk o1 o2 l1 l2 hp, hne, rfl, fun n st => ?_⟩
      wtm_at "ea"
      refine ⟨Nat.le_of_ble_eq_true rfl, ?_⟩
      refine ix_KT (k := htK 0 0) rfl .frz (ht_at m1 m2 _ (zero_needed o1 hne1) (zero_needed o2 hne)) ?_
      exact h3' _ (walk_lst o1 (Nat.mul_le_mul_right _ (Nat.le_succ _)) st)
end
end Rk10

open PySem L2 TL
namespace Rk10
section
variable {P : Program} {w : World} {K : PySem.W.Frag} {mg : Str → Option Value} {base : Heap}
/-! the same by paths -/
def inN (m : Mac) : Nat → Prop := fun r => r ∈ needed m
/-- one letter read at row r, leading to x, costing q -/
def Mv (m : Mac) (p : Pr) (r l x q : Nat) : Prop := (x = r ∧ q = p.take) ∨ ∃ o, beh m r o = some x ∧ x ∈ needed m ∧ q = if o = l then 0 else p.change
theorem moves_iff {m : Mac} (h : m.Ok) {p : Pr} {r l x q : Nat} : (x, q) ∈ movesL m (needed m) p r l ↔ Mv m p r l x q := by
  unfold movesL
  rw [List.mem_cons, List.mem_filterMap]
  constructor
  · rintro (e | ⟨o, _, e⟩)
    · cases e
      exact .inl ⟨rfl, rfl⟩
    · unfold moveF at e
      cases hb : beh m r o with
      | none => rw [hb] at e; cases e
      | some a =>
        rw [hb] at e
        by_cases q : a ∈ needed m
        · simp only [q, if_true] at e
          cases e
          exact .inr ⟨o, hb, q, rfl⟩
        · simp only [q, if_false] at e
          cases e
  · rintro (⟨rfl, rfl⟩ | ⟨o, hb, hx, rfl⟩)
    · exact .inl rfl
    · refine .inr ⟨o, List.mem_range.mpr (beh_l h hb), ?_⟩
      unfold moveF
      rw [hb]
      exact if_pos hx
theorem ans_elim {m : Mac} (h : m.Ok) {p : Pr} {b l x c : Nat} (hb : b ∈ needed m) (a : Ans m p b l x c) : ∃ r k q, Pth m (inN m) b r k ∧ r ∈ needed m ∧ Mv m p r l x q ∧ c = k * p.put + q := by
  obtain ⟨r, d, q, hr, h1, h2, rfl⟩ := a
  unfold putC at h1
  obtain ⟨k, hk, rfl⟩ := Option.map_eq_some_iff.mp h1
  exact ⟨r, k, q, puts_path h (needed_lt hb) hk, hr, (moves_iff h).mp h2, rfl⟩
theorem put_le {m : Mac} (h : m.Ok) (p : Pr) {b r k : Nat} (hb : b ∈ needed m) (t : Pth m (inN m) b r k) : ∃ d, putC m p b r = some d ∧ d ≤ k * p.put := by
  obtain ⟨d, hd, hle⟩ := puts_least h (needed_lt hb) t
  exact ⟨d * p.put, by unfold putC; rw [hd]; rfl, Nat.mul_le_mul_right _ hle⟩
theorem ans_intro {m : Mac} (h : m.Ok) {p : Pr} {b r l x k q : Nat} (hb : b ∈ needed m) (t : Pth m (inN m) b r k) (mv : Mv m p r l x q) : ∃ c, c ≤ k * p.put + q ∧ Ans m p b l x c := by
  obtain ⟨d, hd, hle⟩ := put_le h p hb t
  exact ⟨d + q, Nat.add_le_add_right hle _, r, d, q, t.inS hb, hd, (moves_iff h).mpr mv, rfl⟩
theorem end_le {m : Mac} (h : m.Ok) {p : Pr} {b e k : Nat} (hb : b ∈ needed m) (t : Pth m (inN m) b e k) (he : e ∈ m.last) : endC m p b ≤ k * p.put := by
  obtain ⟨d, hd, hle⟩ := put_le h p hb t
  exact Nat.le_trans (minN_le (List.mem_filterMap.mpr ⟨some d, List.mem_map.mpr ⟨e, List.mem_filter.mpr ⟨t.inS hb, decide_eq_true he⟩, hd⟩, rfl⟩)) hle
theorem end_elim {m : Mac} (h : m.Ok) (p : Pr) {b : Nat} (hb : b ∈ needed m) : ∃ e k, Pth m (inN m) b e k ∧ e ∈ m.last ∧ e ∈ needed m ∧ endC m p b = k * p.put := by
  have ne := endC_ne (gok_ok h) p hb
  have hm := minN_mem (l := ((endsOf m).map (putC m p b)).filterMap id) (fun q => by rw [q] at ne; exact Nat.lt_irrefl 0 ne)
  obtain ⟨o, ho, eo⟩ := List.mem_filterMap.mp hm
  obtain ⟨e, he, rfl⟩ := List.mem_map.mp ho
  obtain ⟨h1, h2⟩ := List.mem_filter.mp he
  have eo2 : putC m p b e = some (endC m p b) := eo
  unfold putC at eo2
  obtain ⟨k, hk, e2⟩ := Option.map_eq_some_iff.mp eo2
  exact ⟨e, k, puts_path h (needed_lt hb) hk, of_decide_eq_true h2, h1, e2.symm⟩
def EnoughS (m1 m2 : Mac) (p : Pr) (h : HF) (a b v : Nat) : Prop := (a ∈ m1.last → ∃ e k, Pth m2 (inN m2) b e k ∧ e ∈ m2.last ∧ k * p.put ≤ v) ∧
  ∀ l x, beh m1 a l = some x → x ∈ needed m1 → ∃ r k q y n, Pth m2 (inN m2) b r k ∧ r ∈ needed m2 ∧ Mv m2 p r l y q ∧ y ∈ needed m2 ∧ h x y = some n ∧ k * p.put + q + n ≤ v
theorem mv_in {m : Mac} {p : Pr} {r l x q : Nat} (h : Mv m p r l x q) (hr : r ∈ needed m) : x ∈ needed m := by
  rcases h with ⟨rfl, _⟩ | ⟨o, _, hx, _⟩
  · exact hr
  · exact hx
theorem enough_iff {m1 m2 : Mac} (o2 : m2.Ok) {p : Pr} {h : HF} {a b v : Nat} (hb : b ∈ needed m2) : Enough m1 m2 p h a b v ↔ EnoughS m1 m2 p h a b v := by
  constructor
  · rintro ⟨h1, h2⟩
    refine ⟨fun ha => ?_, fun l x hbe hx => ?_⟩
    · obtain ⟨e, k, t, he, _, e2⟩ := end_elim o2 p hb
      have : needB m1 m2 p a b = endC m2 p b := if_pos ha
      exact ⟨e, k, t, he, by omega⟩
    · obtain ⟨y, c, k, an, hy, hle⟩ := h2 l x hbe hx
      obtain ⟨r, j, q, t, hr, mv, rfl⟩ := ans_elim o2 hb an
      exact ⟨r, j, q, y, k, t, hr, mv, mv_in mv hr, hy, hle⟩
  · rintro ⟨h1, h2⟩
    refine ⟨?_, fun l x hbe hx => ?_⟩
    · unfold needB
      split
      · rename_i ha
        obtain ⟨e, k, t, he, hle⟩ := h1 ha
        exact Nat.le_trans (end_le o2 hb t he) hle
      · exact Nat.zero_le _
    · obtain ⟨r, k, q, y, n, t, hr, mv, hy, hn, hle⟩ := h2 l x hbe hx
      obtain ⟨c, hc, an⟩ := ans_intro o2 hb t mv
      exact ⟨y, c, n, an, hn, by omega⟩
/-- numbers that are enough, by paths -/
theorem pre_of {m1 m2 : Mac} (o2 : m2.Ok) {p : Pr} {U : HF} (h : ∀ a b v, a ∈ needed m1 → b ∈ needed m2 → U a b = some v → EnoughS m1 m2 p U a b v) : Pre m1 m2 p U := fun a b v ha hb hv => (enough_iff o2 hb).mpr (h a b v ha hb hv)
theorem Lst.get {m1 m2 : Mac} (o2 : m2.Ok) {p : Pr} {W : HF} (h : Lst m1 m2 p W) {a b v : Nat} (ha : a ∈ needed m1) (hb : b ∈ needed m2) (hv : W a b = some v) : EnoughS m1 m2 p W a b v := (enough_iff o2 hb).mp (h.pre a b v ha hb hv)
/-- the least number is v: no more by U, no less -/
theorem Lst.eq {m1 m2 : Mac} {p : Pr} {W U : HF} (h : Lst m1 m2 p W) (hU : Pre m1 m2 p U) {a b v : Nat} (ha : a ∈ needed m1) (hb : b ∈ needed m2) (hv : U a b = some v) (lo : ∀ k, W a b = some k → v ≤ k) : W a b = some v := by
  obtain ⟨k, hk, e⟩ := h.le U hU a b ha hb v hv
  rw [e, Nat.le_antisymm hk (lo k e)]
theorem none_of {W : HF} {a b : Nat} (h : ∀ k, W a b ≠ some k) : W a b = none := by
  cases e : W a b with
  | none => rfl
  | some k => exact absurd e (h k)
theorem pth0 {m : Mac} {S : Nat → Prop} {a b k : Nat} (t : Pth m S a b k) : (k = 0 ∧ b = a) ∨ 1 ≤ k := by
  cases t with
  | nil => exact .inl ⟨rfl, rfl⟩
  | snoc _ _ _ => exact .inr (Nat.succ_pos _)
/-! machines that are known -/
/-- rows one behind the other, by the first nl letters; ends es -/
def lineM (nl n : Nat) (es : List Nat) : Mac := ⟨(List.range n).map (fun k => List.replicate nl (some (k + 1))) ++ [[]], es⟩
theorem line_len (nl n : Nat) (es : List Nat) : (lineM nl n es).tab.length = n + 1 := by
  show List.length (List.map _ _ ++ _) = _
  rw [List.length_append, List.length_map, List.length_range]
  rfl
theorem line_row (nl n : Nat) (es : List Nat) (r : Nat) : (lineM nl n es).tab.getD r [] = if r < n then List.replicate nl (some (r + 1)) else [] := by
  show ((List.range n).map (fun k => List.replicate nl (some (k + 1))) ++ [[]]).getD r [] = _
  rw [List.getD_eq_getElem?_getD]
  by_cases hr : r < n
  · rw [if_pos hr, List.getElem?_append_left (by rw [List.length_map, List.length_range]; exact hr), List.getElem?_map, List.getElem?_range hr]
    rfl
  · rw [if_neg hr, List.getElem?_append_right (by rw [List.length_map, List.length_range]; omega), List.length_map, List.length_range]
    cases hh : r - n with
    | zero => rfl
    | succ j => rfl
theorem line_beh {nl n : Nat} {es : List Nat} {r l x : Nat} : beh (lineM nl n es) r l = some x ↔ r < n ∧ l < nl ∧ x = r + 1 := by
  unfold beh
  rw [line_row]
  by_cases hr : r < n
  · rw [if_pos hr, List.getD_eq_getElem?_getD, List.getElem?_replicate]
    by_cases hl : l < nl
    · rw [if_pos hl]
      exact ⟨fun e => ⟨hr, hl, (Option.some.inj e).symm⟩, fun e => by rw [e.2.2]; rfl⟩
    · rw [if_neg hl]
      exact ⟨fun e => (nomatch e), fun e => absurd e.2.1 hl⟩
  · rw [if_neg hr]
    exact ⟨fun z => (nomatch z), fun z => absurd z.1 hr⟩
theorem line_ok {nl n : Nat} {es : List Nat} (hnl : nl ≤ 3) (he : ∀ e ∈ es, e ≤ n) (hp : es.Pairwise (· < ·)) : (lineM nl n es).Ok := by
  refine ⟨by rw [line_len]; exact Nat.succ_pos _, fun r hr => ?_, fun r hr x hx => ?_, fun e hh => by rw [line_len]; exact Nat.lt_succ_of_le (he e hh), hp⟩
  · rcases List.mem_append.mp hr with h | h
    · obtain ⟨k, _, rfl⟩ := List.mem_map.mp h
      rw [List.length_replicate]
      exact hnl
    · rw [List.mem_singleton.mp h]
      exact Nat.zero_le _
  · rw [line_len]
    rcases List.mem_append.mp hr with h | h
    · obtain ⟨k, hk, rfl⟩ := List.mem_map.mp h
      have := (List.mem_replicate.mp hx).2
      cases this
      have := List.mem_range.mp hk
      omega
    · rw [List.mem_singleton.mp h] at hx
      cases hx
theorem line_pth {nl n : Nat} {es : List Nat} {S : Nat → Prop} {a b k : Nat} (t : Pth (lineM nl n es) S a b k) : b = a + k := by
  induction t with
  | nil => rfl
  | snoc _ e _ ih =>
    have := (line_beh.mp e).2.2
    omega
theorem line_go {nl n : Nat} {es : List Nat} (hnl : 0 < nl ∨ n = 0) {S : Nat → Prop} (hS : ∀ r, r ≤ n → S r) : ∀ (k a : Nat), a + k ≤ n → Pth (lineM nl n es) S a (a + k) k := by
  intro k
  induction k with
  | zero => intro a _; exact .nil
  | succ k ih =>
    intro a h
    exact .snoc (ih a (by omega)) (line_beh.mpr ⟨by omega, (show 0 < nl by omega), rfl⟩) (hS _ (by omega))
theorem line_needed {nl n : Nat} {es : List Nat} (hnl : 0 < nl ∨ n = 0) (h : (lineM nl n es).Ok) (hn : n ∈ es) {r : Nat} : r ∈ needed (lineM nl n es) ↔ r ≤ n := by
  rw [mem_needed h]
  constructor
  · rintro ⟨⟨k, t⟩, _⟩
    have := t.lt h h.pos
    rw [line_len] at this
    omega
  · intro hr
    refine ⟨⟨r, ?_⟩, n, ⟨n - r, ?_⟩, hn⟩
    · have := line_go (nl := nl) (es := es) hnl (S := All) (fun _ _ => trivial) r 0 (by omega)
      rwa [Nat.zero_add] at this
    · have := line_go (nl := nl) (es := es) hnl (S := All) (fun _ _ => trivial) (n - r) r (by omega)
      rwa [show r + (n - r) = n by omega] at this
/-- r letters to be read, q to be made, s where one is made of one -/
def costF2 (s t p : Nat) : Nat → Nat → Nat
  | 0, q => q * p
  | r + 1, 0 => (r + 1) * t
  | r + 1, q + 1 => s + costF2 s t p r q
theorem cf_r {s t p : Nat} : ∀ r, costF2 s t p r 0 = r * t
  | 0 => by show 0 * p = 0 * t; simp
  | r + 1 => rfl
theorem cf_take {s t p : Nat} (h : s ≤ p + t) : ∀ r q, costF2 s t p (r + 1) q ≤ t + costF2 s t p r q := by
  intro r
  induction r with
  | zero =>
    intro q
    cases q with
    | zero => show (0 + 1) * t ≤ t + 0 * p; omega
    | succ q => show s + q * p ≤ t + (q + 1) * p; rw [Nat.succ_mul]; omega
  | succ r ih =>
    intro q
    cases q with
    | zero => show (r + 1 + 1) * t ≤ t + (r + 1) * t; rw [Nat.succ_mul]; omega
    | succ q =>
      have := ih q
      show s + costF2 s t p (r + 1) q ≤ t + (s + costF2 s t p r q)
      omega
theorem cf_put {s t p : Nat} (h : s ≤ p + t) : ∀ r q, costF2 s t p r (q + 1) ≤ p + costF2 s t p r q := by
  intro r
  induction r with
  | zero => intro q; show (q + 1) * p ≤ p + q * p; rw [Nat.succ_mul]; omega
  | succ r ih =>
    intro q
    cases q with
    | zero => show s + costF2 s t p r 0 ≤ p + (r + 1) * t; rw [cf_r, Nat.succ_mul]; omega
    | succ q =>
      have := ih q
      show s + costF2 s t p r (q + 1) ≤ p + (s + costF2 s t p r q)
      omega
theorem cf_puts {s t p : Nat} (h : s ≤ p + t) (r q : Nat) : ∀ k, costF2 s t p r (q + k) ≤ k * p + costF2 s t p r q := by
  intro k
  induction k with
  | zero => simp
  | succ k ih =>
    have := cf_put h r (q + k)
    rw [Nat.succ_mul, ← Nat.add_assoc]
    omega
theorem cf_same (s t p : Nat) : ∀ n, costF2 s t p n n = n * s
  | 0 => by show 0 * p = 0 * s; simp
  | n + 1 => by show s + costF2 s t p n n = _; rw [cf_same s t p n, Nat.succ_mul, Nat.add_comm]
theorem cf_zero (t p : Nat) : ∀ n m, costF2 0 t p n m = (n - m) * t + (m - n) * p
  | 0, m => by show m * p = _; simp
  | n + 1, 0 => by show (n + 1) * t = _; simp
  | n + 1, m + 1 => by show 0 + costF2 0 t p n m = _; rw [cf_zero t p n m, Nat.zero_add, Nat.succ_sub_succ, Nat.succ_sub_succ]
/-- what it costs to make one of one -/
def swapOf (nl nl2 : Nat) (p : Pr) : Nat := if nl2 < nl then min p.change (p.put + p.take) else 0
theorem swap_le (nl nl2 : Nat) (p : Pr) : swapOf nl nl2 p ≤ p.put + p.take := by
  unfold swapOf
  split
  · exact Nat.min_le_right _ _
  · exact Nat.zero_le _
theorem line_line {nl nl2 n k : Nat} {p : Pr} {W : HF} (h1 : 0 < nl) (h2 : nl ≤ 3) (h3 : 0 < nl2) (h4 : nl2 ≤ 3) (hW : Lst (lineM nl n [n]) (lineM nl2 k [k]) p W) : W 0 0 = some (costF2 (swapOf nl nl2 p) p.take p.put n k) := by
  have o1 : (lineM nl n [n]).Ok := line_ok h2 (fun e he => by rw [List.mem_singleton.mp he]; exact Nat.le_refl _) (List.pairwise_singleton _ _)
  have o2 : (lineM nl2 k [k]).Ok := line_ok h4 (fun e he => by rw [List.mem_singleton.mp he]; exact Nat.le_refl _) (List.pairwise_singleton _ _)
  have n1 : ∀ {r}, r ∈ needed (lineM nl n [n]) ↔ r ≤ n := line_needed (.inl h1) o1 List.mem_cons_self
  have n2 : ∀ {r}, r ∈ needed (lineM nl2 k [k]) ↔ r ≤ k := line_needed (.inl h3) o2 List.mem_cons_self
  have sl := swap_le nl nl2 p
  have lo : ∀ r a b v, a + r = n → b ≤ k → W a b = some v → costF2 (swapOf nl nl2 p) p.take p.put r (k - b) ≤ v := by
    intro r
    induction r with
    | zero =>
      intro a b v ha hb hv
      obtain ⟨e1, _⟩ := hW.get o2 (n1.mpr (by omega)) (n2.mpr hb) hv
      obtain ⟨e, j, t, he, hle⟩ := e1 (List.mem_singleton.mpr (by omega))
      have := line_pth t
      have := List.mem_singleton.mp he
      show (k - b) * p.put ≤ v
      rw [show k - b = j by omega]
      exact hle
    | succ r ih =>
      intro a b v ha hb hv
      obtain ⟨_, e2⟩ := hW.get o2 (n1.mpr (by omega)) (n2.mpr hb) hv
      obtain ⟨x, j, q, y, v', t, hx, mv, hy, hv', hle⟩ := e2 (nl - 1) (a + 1) (line_beh.mpr ⟨by omega, by omega, rfl⟩) (n1.mpr (by omega))
      have hyk := n2.mp hy
      have ex := line_pth t
      have l1 := ih (a + 1) y v' (by omega) hyk hv'
      have l2 := cf_puts (t := p.take) sl (r + 1) (k - x) j
      rw [show k - x + j = k - b by have := n2.mp hx; omega] at l2
      rcases mv with ⟨rfl, rfl⟩ | ⟨o, ho, _, rfl⟩
      · have l3 := cf_take (t := p.take) sl r (k - y)
        omega
      · obtain ⟨h5, h6, rfl⟩ := line_beh.mp ho
        rw [show k - x = k - (x + 1) + 1 by omega] at l2
        have l3 : costF2 (swapOf nl nl2 p) p.take p.put (r + 1) (k - (x + 1) + 1) = swapOf nl nl2 p + costF2 (swapOf nl nl2 p) p.take p.put r (k - (x + 1)) := rfl
        have l4 : swapOf nl nl2 p ≤ if o = nl - 1 then 0 else p.change := by
          unfold swapOf
          split
          · rw [if_neg (by omega)]
            exact Nat.min_le_left _ _
          · exact Nat.zero_le _
        omega
  refine hW.eq (U := fun a b => if a ≤ n ∧ b ≤ k then some (costF2 (swapOf nl nl2 p) p.take p.put (n - a) (k - b)) else none) (pre_of o2 fun a b v ha hb hv => ?_) (n1.mpr (Nat.zero_le _)) (n2.mpr (Nat.zero_le _)) (if_pos ⟨Nat.zero_le _, Nat.zero_le _⟩) (fun v hv => lo n 0 0 v (Nat.zero_add _) (Nat.zero_le _) hv)
  have ha' := n1.mp ha
  have hb' := n2.mp hb
  simp only [ha', hb', and_self, if_true] at hv
  have hv := Option.some.inj hv
  refine ⟨fun hl => ?_, fun l x hbe hx => ?_⟩
  · have ea := List.mem_singleton.mp hl
    have t := line_go (nl := nl2) (es := [k]) (n := k) (.inl h3) (S := inN (lineM nl2 k [k])) (fun r hr => n2.mpr hr) (k - b) b (by omega)
    rw [show b + (k - b) = k by omega] at t
    refine ⟨k, k - b, t, List.mem_cons_self, ?_⟩
    rw [← hv, ea, Nat.sub_self]
    exact Nat.le_refl _
  · obtain ⟨h5, h6, rfl⟩ := line_beh.mp hbe
    have er : n - a = (n - (a + 1)) + 1 := by omega
    have ux : ∀ y, y ≤ k → (fun a b => if a ≤ n ∧ b ≤ k then some (costF2 (swapOf nl nl2 p) p.take p.put (n - a) (k - b)) else none) (a + 1) y = some (costF2 (swapOf nl nl2 p) p.take p.put (n - (a + 1)) (k - y)) := fun y hy => if_pos ⟨by omega, hy⟩
    rw [er] at hv
    by_cases hbk : b < k
    · have eq : k - b = (k - (b + 1)) + 1 := by omega
      rw [eq] at hv
      have hv' : swapOf nl nl2 p + costF2 (swapOf nl nl2 p) p.take p.put (n - (a + 1)) (k - (b + 1)) = v := hv
      have h0 : beh (lineM nl2 k [k]) b 0 = some (b + 1) := line_beh.mpr ⟨hbk, h3, rfl⟩
      by_cases hl : l < nl2
      · refine ⟨b, 0, 0, b + 1, _, .nil, hb, .inr ⟨l, line_beh.mpr ⟨hbk, hl, rfl⟩, n2.mpr (by omega), (if_pos rfl).symm⟩, n2.mpr (by omega), ux _ (by omega), ?_⟩
        omega
      · have es : swapOf nl nl2 p = min p.change (p.put + p.take) := if_pos (by omega)
        rcases Nat.le_total p.change (p.put + p.take) with z | z
        · rw [Nat.min_eq_left z] at es
          refine ⟨b, 0, p.change, b + 1, _, .nil, hb, .inr ⟨0, h0, n2.mpr (by omega), ?_⟩, n2.mpr (by omega), ux _ (by omega), by omega⟩
          rw [if_neg (by omega)]
        · rw [Nat.min_eq_right z] at es
          refine ⟨b + 1, 1, p.take, b + 1, _, .snoc .nil h0 (n2.mpr (by omega)), n2.mpr (by omega), .inl ⟨rfl, rfl⟩, n2.mpr (by omega), ux _ (by omega), by omega⟩
    · have eq : k - b = 0 := by omega
      rw [eq] at hv
      have hv' : (n - (a + 1) + 1) * p.take = v := hv
      rw [Nat.succ_mul] at hv'
      refine ⟨b, 0, p.take, b, _, .nil, hb, .inl ⟨rfl, rfl⟩, hb, ux _ hb', ?_⟩
      rw [eq, cf_r]
      omega
/-- all texts of at most n letters, against the empty one -/
theorem upto_zero {n : Nat} {p : Pr} {W : HF} (hW : Lst (lineM 1 n (List.range (n + 1))) (lineM 1 0 (List.range (0 + 1))) p W) : W 0 0 = some (n * p.take) := by
  have o1 : (lineM 1 n (List.range (n + 1))).Ok := line_ok (by decide) (fun e he => by have := List.mem_range.mp he; omega) List.pairwise_lt_range
  have o2 : (lineM 1 0 (List.range (0 + 1))).Ok := line_ok (by decide) (fun e he => by have := List.mem_range.mp he; omega) List.pairwise_lt_range
  have n1 : ∀ {r}, r ∈ needed (lineM 1 n (List.range (n + 1))) ↔ r ≤ n := line_needed (.inl Nat.zero_lt_one) o1 (List.mem_range.mpr (Nat.lt_succ_self _))
  have n2 : ∀ {r}, r ∈ needed (lineM 1 0 (List.range (0 + 1))) ↔ r ≤ 0 := line_needed (.inr rfl) o2 (List.mem_range.mpr (Nat.lt_succ_self _))
  have lo : ∀ r a v, a + r = n → W a 0 = some v → r * p.take ≤ v := by
    intro r
    induction r with
    | zero => intro a v _ _; rw [Nat.zero_mul]; exact Nat.zero_le _
    | succ r ih =>
      intro a v ha hv
      obtain ⟨_, e2⟩ := hW.get o2 (n1.mpr (by omega)) (n2.mpr (Nat.le_refl _)) hv
      obtain ⟨x, j, q, y, v', t, hx, mv, hy, hv', hle⟩ := e2 0 (a + 1) (line_beh.mpr ⟨by omega, by decide, rfl⟩) (n1.mpr (by omega))
      have hy0 := Nat.le_zero.mp (n2.mp hy)
      subst hy0
      have := ih (a + 1) v' (by omega) hv'
      rw [Nat.succ_mul]
      rcases mv with ⟨rfl, rfl⟩ | ⟨o, ho, _, rfl⟩
      · omega
      · exact absurd (line_beh.mp ho).1 (Nat.not_lt_zero _)
  refine hW.eq (U := fun a b => some ((n - a) * p.take)) (pre_of o2 fun a b v ha hb hv => ?_) (n1.mpr (Nat.zero_le _)) (n2.mpr (Nat.zero_le _)) rfl (fun v hv => lo n 0 v (Nat.zero_add _) hv)
  have hv := Option.some.inj hv
  have hb0 := Nat.le_zero.mp (n2.mp hb)
  subst hb0
  refine ⟨fun _ => ⟨0, 0, .nil, List.mem_range.mpr (Nat.lt_succ_self _), by rw [Nat.zero_mul]; exact Nat.zero_le _⟩, fun l x hbe hx => ?_⟩
  obtain ⟨h5, h6, rfl⟩ := line_beh.mp hbe
  refine ⟨0, 0, p.take, 0, _, .nil, hb, .inl ⟨rfl, rfl⟩, hb, rfl, ?_⟩
  rw [← hv, show n - a = n - (a + 1) + 1 by omega, Nat.succ_mul]
  omega
end
end Rk10

open PySem L2 TL
namespace Rk10
section
variable {P : Program} {w : World} {K : PySem.W.Frag} {mg : Str → Option Value} {base : Heap}
abbrev rowE (r : Row) : List (Key × D) := (rowK r).map fun kv => (kv.1, D.v kv.2)
theorem putE_row {r : Row} (h : r.length < 3) (x : Nat) : putE (rowE r) (lkey r.length) (nD x) = rowE (r ++ [some x]) := by
  rw [putE_new]
  · show _ = List.map _ (rowKf 0 (r ++ [some x]))
    rw [rowKf_app, List.map_append, Nat.zero_add]
    rfl
  · intro hm
    rw [List.map_map] at hm
    have e : valV (rowK r) (lkey r.length) = none := by
      rw [valV_row (by omega) h]
      simp
    obtain ⟨kv, hkv, ek⟩ := List.mem_map.mp hm
    unfold valV at e
    rw [Option.map_eq_none_iff, List.find?_eq_none] at e
    exact e kv hkv (by simpa using ek)
theorem rowE_none (r : Row) : rowE (r ++ [none]) = rowE r := by
  show List.map _ (rowKf 0 (r ++ [none])) = _
  rw [rowKf_app]
  show List.map _ (rowKf 0 r ++ []) = _
  rw [List.append_nil]
/-! the law's own lines -/
def aL : Nat → Str
  | 1 => "a"
  | _ => "ab"
theorem aL_range {nl : Nat} (h : nl = 1 ∨ nl = 2) : (aL nl).cps.toList.map (fun c => D.str ⟨#[c]⟩) = (List.range nl).map fun l => D.str (letS l) := by
  rcases h with rfl | rfl <;> rfl
abbrev lnR (nl k : Nat) : Row := List.replicate nl (some (k + 1))
theorem line_tab (nl n : Nat) (es : List Nat) : (lineM nl n es).tab = (List.range n).map (lnR nl) ++ [[]] := rfl
def spLine (Cm Cr : Addr) : Prm := fun ds L KK KE => ∃ nl n : Nat, ds = [.str (aL nl), nD n] ∧ (nl = 1 ∨ nl = 2) ∧ n ≤ 5 ∧ L = [] ∧ KK (macD Cm Cr (lineM nl n [n])) []
theorem ok_line {f Cm Cr CB : Addr} {fd : FuncData} (FF : Fun K "_law_line" "_law_line" s__law_line f fd) (B : Bi mg) (g : Cla P w K mg base "Machine" Cm ["self", "rows", "ends"] (spMInit Cm Cr CB) 4) : Def P w K mg base 6 f fd ["_law_letters", "_law_size"] (spLine Cm Cr) := by
  refine def_ok FF sc__law_line ?_ ?_
  · rintro ds L KK KE ⟨nl, n, rfl, _⟩
    rfl
  · rintro ds L KK KE ⟨nl, n, rfl, hnl, hn, rfl, hk⟩ H0 F0
    wtm_at "bg"
    have lets := aL_range hnl
    wtm_at "gm"
    · exact Nat.zero_le _
    intro pr
    refine ⟨_, by wtm_at "pt", ?_⟩
    refine run_for rfl rfl (ei_rng1 (by wtm_at "gl") (by wtm_at "bi") ?_)
    wtm_at "ea"
    refine ⟨_, rfl, by omega, by omega, ?_⟩
    refine for_map (List.range n) (fun k => nD k) (rng0 n) (fun i G' L' => ∃ a b c : Option D, G' = [some (.str (aL nl)), some (nD n), some (.ref pr), a, b, c] ∧ L' = [(pr, .lst (((List.range i).map (lnR nl)).map rowD))] ∧ i ≤ n) ⟨_, _, _, rfl, rfl, Nat.zero_le _⟩ (fun _ _ _ _ _ h => nomatch h) ?_ ?_
    · rintro F1 i x G' L' hx hlt ⟨a, b, c, rfl, rfl, hi⟩
      rw [List.length_range] at hlt
      obtain ⟨_, ey⟩ := List.getElem?_eq_some_iff.mp hx
      rw [List.getElem_range] at ey
      subst ey
      refine tgt_name (by wtm_at "loc") (by wtm_at "pt") ?_
      refine run_set (by wtm_at "loc") (by wtm_at "mem") (ev_dnew fun pd => ?_)
      refine ⟨_, by wtm_at "pt", ?_⟩
      refine run_for rfl rfl (ei_str ?_)
      wtm_at "ea"
      refine ⟨_, rfl, ?_⟩
      rw [lets]
      refine for_map (List.range nl) (fun l => .str (letS l)) rfl (fun l G' L' => ∃ c : Option D, G' = [some (.str (aL nl)), some (nD n), some (.ref pr), some (nD i), some (.ref pd), c] ∧ L' = [(pd, .dK (rowE (List.replicate l (some (i + 1))))), (pr, .lst (((List.range i).map (lnR nl)).map rowD))]) ⟨_, rfl, rfl⟩ (fun _ _ _ _ _ h => nomatch h) ?_ ?_
      · rintro F2 l y G' L' hy hlt2 ⟨c, rfl, rfl⟩
        rw [List.length_range] at hlt2
        obtain ⟨_, ey⟩ := List.getElem?_eq_some_iff.mp hy
        rw [List.getElem_range] at ey
        subst ey
        refine tgt_name (by wtm_at "loc") (by wtm_at "pt") ?_
        refine run_dput rfl ?_
        wtm_at "ea"
        refine op_addI ?_
        wtm_at "ea"
        refine ⟨pd, _, lkey l, _, rfl, rfl, .here, ?_, ?_⟩
        · have : (rowK (List.replicate l (some (i + 1)))).length ≤ (List.replicate l (some (i + 1))).length := row_len _ 0
          rw [List.length_replicate] at this
          rw [List.length_map]
          exact sz_lt (by omega)
        · have e := putE_row (r := List.replicate l (some (i + 1))) (by rw [List.length_replicate]; omega) (i + 1)
          rw [List.length_replicate, ← List.replicate_succ'] at e
          rw [show D.int (((i : Nat) : Int) + 1) = nD (i + 1) from rfl, e]
          exact run_nil ⟨_, rfl, rfl⟩
      · rintro G' L' ⟨c, rfl, rfl⟩
        rw [List.length_range]
        refine run_frz (x := "_law_row") (by wtm_at "lk") .here (by wtm_at "pt") ?_
        refine run_expr (ev_append ?_)
        wtm_at "ea"
        refine ⟨pr, _, rfl, .head _, ?_⟩
        wtm_at "ea"
        refine ⟨_, _, .here, by rw [List.length_map, List.length_map, List.length_range]; exact sz_lt (by omega), ?_⟩
        refine run_nil ⟨_, _, _, rfl, ?_, hlt⟩
        rw [List.range_succ, List.map_append, List.map_append]
        rfl
    · rintro G' L' ⟨a, b, c, rfl, rfl, _⟩
      rw [List.length_range]
      refine run_frz (x := "_law_rows") (by wtm_at "lk") .here (by wtm_at "pt") ?_
      refine run_ret0 (ev_frz ?_)
      wtm_at "ev"
      wtm_at "ev"
      wtm_at "ev"
      wtm_at "ev"
      wtm_at "ev"
      wtm_at "ev"
      refine ev_lstF (ea_cons (ev_dnewF (ea_nil ⟨Nat.le_of_ble_eq_true rfl, ?_⟩)))
      refine op_catF .frz .frz (by rw [List.length_map, List.length_map, List.length_range]; exact sz_of (show n + 1 ≤ 1000000 by omega)) ?_
      wtm_at "ea"
      refine ⟨Nat.le_of_ble_eq_true rfl, ?_⟩
      wtm_at "ea"
      intro l
      have e : ((List.range n).map (lnR nl)).map rowD ++ [D.dK []] = (lineM nl n [n]).tab.map rowD := by
        rw [line_tab, List.map_append]
        rfl
      rw [e]
      refine calls_1 (minit_mac (m := lineM nl n [n]) (line_ok (by omega) (fun e he => by rw [List.mem_singleton.mp he]; exact Nat.le_refl _) (List.pairwise_singleton _ _)) (by rw [line_len]; omega) ⟨rfl, _, _, _, rfl, .here, hk⟩)
def spUpto (Cm Cr : Addr) : Prm := fun ds L KK KE => ∃ n : Nat, ds = [nD n] ∧ n ≤ 5 ∧ L = [] ∧ KK (macD Cm Cr (lineM 1 n (List.range (n + 1)))) []
theorem ok_upto {f Cm Cr CB : Addr} {fd : FuncData} (FF : Fun K "_law_upto" "_law_upto" s__law_upto f fd) (B : Bi mg) (g : Cla P w K mg base "Machine" Cm ["self", "rows", "ends"] (spMInit Cm Cr CB) 4) : Def P w K mg base 6 f fd ["_law_size"] (spUpto Cm Cr) := by
  refine def_ok FF sc__law_upto ?_ ?_
  · rintro ds L KK KE ⟨n, rfl, _⟩
    rfl
  · rintro ds L KK KE ⟨n, rfl, hn, rfl, hk⟩ H0 F0
    wtm_at "bg"
    refine run_setlc [("_law_k", 2)] rfl (by kernel_rfl) (by wtm_at "mem") (by kernel_rfl) (ei_rng1 (by wtm_at "gl") (by wtm_at "bi") ?_) rfl rfl rfl
    wtm_at "ea"
    refine ⟨_, rfl, by omega, by omega, ?_⟩
    refine lc_all (List.range n) (fun k => nD k) (fun k => rowD (lnR 1 k)) (rng0 n) (by rw [List.length_range]; exact sz_lt (by omega)) (fun _ h => (nomatch h)) ?_ ?_
    · intro F1 Dl k acc hk2
      refine tn_name (i := 2) (by wtm_at "loc") rfl (List.mem_singleton.mpr rfl) ?_
      wtm_at "wz"
      refine ev_frz (ev_dnew1 fun pd => ?_)
      wtm_at "ea"
      refine op_addI ?_
      refine ⟨lkey 0, rfl, _, rfl, ?_⟩
      exact ⟨_, _, _, rfl, .here, rfl, List.Sublist.refl _⟩
    · intro pr
      refine ⟨_, by wtm_at "pt", ?_⟩
      refine run_frz (x := "_law_rows") (by wtm_at "lk") .here (by wtm_at "pt") ?_
      refine run_ret0 (ev_frz ?_)
      wtm_at "ev"
      wtm_at "ev"
      wtm_at "ev"
      wtm_at "ev"
      wtm_at "ev"
      wtm_at "ev"
      refine ev_lstF (ea_cons (ev_dnewF (ea_nil ⟨Nat.le_of_ble_eq_true rfl, ?_⟩)))
      refine op_catF .frz .frz (by rw [List.length_map, List.length_range]; exact sz_of (show n + 1 ≤ 1000000 by omega)) ?_
      wtm_at "ev"
      wtm_at "cv"
      wtm_at "ev"
      refine ev_tupRg rfl (by wtm_at "gl") (by wtm_at "bi") (by wtm_at "gl") (by wtm_at "bi") ?_
      wtm_at "ea"
      refine op_addI ?_
      refine ⟨n + 1, rfl, by omega, ?_⟩
      wtm_at "ea"
      intro l
      have e : ((List.range n).map fun k => rowD (lnR 1 k)) ++ [D.dK []] = (lineM 1 n (List.range (n + 1))).tab.map rowD := by
        rw [line_tab, List.map_append, List.map_map]
        rfl
      rw [e]
      refine calls_1 (minit_mac (m := lineM 1 n (List.range (n + 1))) (line_ok (by decide) (fun e he => by have := List.mem_range.mp he; omega) List.pairwise_lt_range) (by rw [line_len]; omega) ⟨rfl, _, _, _, rfl, .here, hk⟩)
end
end Rk10

open PySem L2 TL
namespace Rk10
section
variable {P : Program} {w : World} {K : PySem.W.Frag} {mg : Str → Option Value} {base : Heap}
/-! small machines -/
def macB (m : Mac) : Bool := decide (0 < m.tab.length) && m.tab.all (fun r => decide (r.length ≤ 3) && r.all fun o => match o with | some x => decide (x < m.tab.length) | none => true) && m.last.all (fun e => decide (e < m.tab.length)) && decide (m.last.Pairwise (· < ·))
theorem macB_ok {m : Mac} (h : macB m = true) : m.Ok := by
  unfold macB at h
  simp only [Bool.and_eq_true, decide_eq_true_eq, List.all_eq_true] at h
  obtain ⟨⟨⟨h1, h2⟩, h3⟩, h4⟩ := h
  refine ⟨h1, fun r hr => (h2 r hr).1, fun r hr x hx => ?_, h3, h4⟩
  have := (h2 r hr).2 (some x) hx
  exact of_decide_eq_true this
def edL (m : Mac) : List (Nat × Nat × Nat) := (List.range m.tab.length).flatMap fun r => (List.range 3).filterMap fun l => (beh m r l).map fun x => (r, l, x)
theorem ed_mem {m : Mac} (h : m.Ok) {r l x : Nat} (e : beh m r l = some x) : (r, l, x) ∈ edL m := by
  have hr : r < m.tab.length := by
    rcases Nat.lt_or_ge r m.tab.length with q | q
    · exact q
    · unfold beh at e
      rw [List.getD_eq_getElem?_getD (l := m.tab), List.getElem?_eq_none q] at e
      cases e
  exact List.mem_flatMap.mpr ⟨r, List.mem_range.mpr hr, List.mem_filterMap.mpr ⟨l, List.mem_range.mpr (beh_l h e), by rw [e]; rfl⟩⟩
theorem put_pos {m : Mac} {S : Nat → Prop} {a b k : Nat} (p : Nat) (t : Pth m S a b k) : (k * p = 0 ∧ b = a) ∨ p ≤ k * p := by
  rcases pth0 t with ⟨rfl, rfl⟩ | h
  · exact .inl ⟨Nat.zero_mul _, rfl⟩
  · exact .inr (Nat.le_mul_of_pos_left _ h)
def mTwos : Mac := ⟨[[some 1], [none, some 0]], [0]⟩
def mOnes : Mac := ⟨[[some 0]], [0]⟩
def mEvens : Mac := ⟨[[some 1], [some 0]], [0]⟩
def mBoth : Mac := ⟨[[some 0, some 1], [none, some 1]], [0, 1]⟩
def mTurned : Mac := ⟨[[some 1, some 0], [some 1]], [0, 1]⟩
def mFree : Mac := ⟨[[some 0, some 0]], [0]⟩
def mEnds : Mac := ⟨[[some 0, some 1], [some 0, some 1]], [1]⟩
theorem okTwos : mTwos.Ok := macB_ok (by decide +kernel)
theorem okOnes : mOnes.Ok := macB_ok (by decide +kernel)
theorem okEvens : mEvens.Ok := macB_ok (by decide +kernel)
theorem okBoth : mBoth.Ok := macB_ok (by decide +kernel)
theorem okTurned : mTurned.Ok := macB_ok (by decide +kernel)
theorem okFree : mFree.Ok := macB_ok (by decide +kernel)
theorem okEnds : mEnds.Ok := macB_ok (by decide +kernel)
theorem ndTwos : needed mTwos = [0, 1] := by decide +kernel
theorem ndOnes : needed mOnes = [0] := by decide +kernel
theorem ndEvens : needed mEvens = [0, 1] := by decide +kernel
theorem ndBoth : needed mBoth = [0, 1] := by decide +kernel
theorem ndTurned : needed mTurned = [0, 1] := by decide +kernel
theorem ndFree : needed mFree = [0] := by decide +kernel
theorem ndEnds : needed mEnds = [0, 1] := by decide +kernel
theorem edTwos : edL mTwos = [(0, 0, 1), (1, 1, 0)] := by decide +kernel
theorem edOnes : edL mOnes = [(0, 0, 0)] := by decide +kernel
theorem edEvens : edL mEvens = [(0, 0, 1), (1, 0, 0)] := by decide +kernel
theorem edBoth : edL mBoth = [(0, 0, 0), (0, 1, 1), (1, 1, 1)] := by decide +kernel
theorem edTurned : edL mTurned = [(0, 0, 1), (0, 1, 0), (1, 0, 1)] := by decide +kernel
theorem edFree : edL mFree = [(0, 0, 0), (0, 1, 0)] := by decide +kernel
theorem edEnds : edL mEnds = [(0, 0, 0), (0, 1, 1), (1, 0, 0), (1, 1, 1)] := by decide +kernel
theorem two_of {a : Nat} (h : a ∈ [0, 1]) : a = 0 ∨ a = 1 := by simpa using h
theorem one_of {a : Nat} (h : a ∈ [0]) : a = 0 := by simpa using h
theorem ones_evens {p : Pr} (hp : p.Ok) {W : HF} (hW : Lst mOnes mEvens p W) : W 0 0 = some p.put := by
  have n1 : 0 ∈ needed mOnes := by rw [ndOnes]; decide
  have n2 : 0 ∈ needed mEvens := by rw [ndEvens]; decide
  have n3 : 1 ∈ needed mEvens := by rw [ndEvens]; decide
  have h1 := hp.p1; have h2 := hp.t1; have h3 := hp.c1
  have lo1 : ∀ v, W 0 1 = some v → p.put ≤ v := by
    intro v hv
    obtain ⟨e1, _⟩ := hW.get okEvens n1 n3 hv
    obtain ⟨e, k, t, he, hle⟩ := e1 (by decide)
    have he := one_of he
    rcases put_pos p.put t with ⟨_, q⟩ | q
    · omega
    · omega
  have lo0 : ∀ v, W 0 0 = some v → p.put ≤ v := by
    intro v hv
    obtain ⟨_, e2⟩ := hW.get okEvens n1 n2 hv
    obtain ⟨r, k, q, y, n, t, hr, mv, hy, hn, hle⟩ := e2 0 0 rfl n1
    rw [ndEvens] at hy
    rcases two_of hy with rfl | rfl
    · rw [hv] at hn
      cases hn
      rcases put_pos p.put t with ⟨_, rfl⟩ | z
      · rcases mv with ⟨_, rfl⟩ | ⟨o, ho, _, rfl⟩
        · omega
        · have := ed_mem okEvens ho
          rw [edEvens] at this
          simp at this
      · omega
    · have := lo1 n hn
      omega
  refine hW.eq (U := fun _ _ => some p.put) (pre_of okEvens fun a b v ha hb hv => ?_) n1 n2 rfl lo0
  have hv := Option.some.inj hv
  rw [ndOnes] at ha
  rw [ndEvens] at hb
  have ha := one_of ha
  subst ha
  rcases two_of hb with rfl | rfl
  · refine ⟨fun _ => ⟨0, 0, .nil, by decide, by rw [Nat.zero_mul]; exact Nat.zero_le _⟩, fun l x hbe hx => ?_⟩
    have := ed_mem okOnes hbe
    rw [edOnes] at this
    simp at this
    obtain ⟨rfl, rfl⟩ := this
    exact ⟨0, 0, 0, 1, _, .nil, n2, .inr ⟨0, rfl, n3, rfl⟩, n3, rfl, by omega⟩
  · refine ⟨fun _ => ⟨0, 1, .snoc (l := 0) .nil rfl n2, by decide, by rw [Nat.one_mul]; omega⟩, fun l x hbe hx => ?_⟩
    have := ed_mem okOnes hbe
    rw [edOnes] at this
    simp at this
    obtain ⟨rfl, rfl⟩ := this
    exact ⟨1, 0, 0, 0, _, .nil, n3, .inr ⟨0, rfl, n2, rfl⟩, n2, rfl, by omega⟩
theorem evens_ones {p : Pr} {W : HF} (hW : Lst mEvens mOnes p W) : W 0 0 = some 0 := by
  have n1 : 0 ∈ needed mOnes := by rw [ndOnes]; decide
  have n2 : 0 ∈ needed mEvens := by rw [ndEvens]; decide
  have n3 : 1 ∈ needed mEvens := by rw [ndEvens]; decide
  refine hW.eq (U := fun _ _ => some 0) (pre_of okOnes fun a b v ha hb hv => ?_) n2 n1 rfl (fun _ _ => Nat.zero_le _)
  have hv := Option.some.inj hv
  subst hv
  rw [ndEvens] at ha
  rw [ndOnes] at hb
  have hb := one_of hb
  subst hb
  refine ⟨fun _ => ⟨0, 0, .nil, by decide, by rw [Nat.zero_mul]; exact Nat.zero_le _⟩, fun l x hbe hx => ?_⟩
  have := ed_mem okEvens hbe
  rw [edEvens] at this
  simp at this
  rcases this with ⟨rfl, rfl, rfl⟩ | ⟨rfl, rfl, rfl⟩
  · exact ⟨0, 0, 0, 0, _, .nil, n1, .inr ⟨0, rfl, n1, rfl⟩, n1, rfl, by omega⟩
  · exact ⟨0, 0, 0, 0, _, .nil, n1, .inr ⟨0, rfl, n1, rfl⟩, n1, rfl, by omega⟩
theorem twos_ones {p : Pr} (hp : p.Ok) {W : HF} (hW : Lst mTwos mOnes p W) : W 0 0 = none := by
  have n1 : 0 ∈ needed mOnes := by rw [ndOnes]; decide
  have n2 : 0 ∈ needed mTwos := by rw [ndTwos]; decide
  have n3 : 1 ∈ needed mTwos := by rw [ndTwos]; decide
  have h1 := hp.p1; have h2 := hp.t1; have h3 := hp.c1
  refine none_of fun v hv => ?_
  obtain ⟨_, e2⟩ := hW.get okOnes n2 n1 hv
  obtain ⟨r, k, q, y, n, t, hr, mv, hy, hn, hle⟩ := e2 0 1 rfl n3
  rw [ndOnes] at hy
  have hy := one_of hy
  subst hy
  obtain ⟨_, e3⟩ := hW.get okOnes n3 n1 hn
  obtain ⟨r', k', q', y', n', t', hr', mv', hy', hn', hle'⟩ := e3 1 0 rfl n2
  rw [ndOnes] at hy'
  have hy' := one_of hy'
  subst hy'
  rw [hv] at hn'
  cases hn'
  rcases mv' with ⟨_, rfl⟩ | ⟨o, ho, _, rfl⟩
  · omega
  · have := ed_mem okOnes ho
    rw [edOnes] at this
    simp at this
    rw [if_neg (by omega)] at hle'
    omega
theorem ones_twos {p : Pr} (hp : p.Ok) {W : HF} (hW : Lst mOnes mTwos p W) : W 0 0 = none := by
  have n1 : 0 ∈ needed mOnes := by rw [ndOnes]; decide
  have n2 : 0 ∈ needed mTwos := by rw [ndTwos]; decide
  have n3 : 1 ∈ needed mTwos := by rw [ndTwos]; decide
  have h1 := hp.p1; have h2 := hp.t1; have h3 := hp.c1
  -- from row 1 each answer costs something
  have a1 : ∀ v, W 0 1 = some v → (∃ n, W 0 0 = some n ∧ n < v) ∨ ∃ n, W 0 1 = some n ∧ n < v := by
    intro v hv
    obtain ⟨_, e2⟩ := hW.get okTwos n1 n3 hv
    obtain ⟨r, k, q, y, n, t, hr, mv, hy, hn, hle⟩ := e2 0 0 rfl n1
    have pos : 1 ≤ k * p.put + q := by
      rcases put_pos p.put t with ⟨_, rfl⟩ | z
      · rcases mv with ⟨_, rfl⟩ | ⟨o, ho, _, rfl⟩
        · omega
        · have := ed_mem okTwos ho
          rw [edTwos] at this
          simp at this
          rw [if_neg (by omega)]
          omega
      · omega
    rw [ndTwos] at hy
    rcases two_of hy with rfl | rfl
    · exact .inl ⟨n, hn, by omega⟩
    · exact .inr ⟨n, hn, by omega⟩
  have a0 : ∀ v, W 0 0 = some v → (∃ n, W 0 0 = some n ∧ n < v) ∨ ∃ n, W 0 1 = some n ∧ n ≤ v := by
    intro v hv
    obtain ⟨_, e2⟩ := hW.get okTwos n1 n2 hv
    obtain ⟨r, k, q, y, n, t, hr, mv, hy, hn, hle⟩ := e2 0 0 rfl n1
    rw [ndTwos] at hy
    rcases two_of hy with rfl | rfl
    · refine .inl ⟨n, hn, ?_⟩
      rcases put_pos p.put t with ⟨_, rfl⟩ | z
      · rcases mv with ⟨_, rfl⟩ | ⟨o, ho, _, rfl⟩
        · omega
        · have := ed_mem okTwos ho
          rw [edTwos] at this
          simp at this
      · omega
    · exact .inr ⟨n, hn, by omega⟩
  refine none_of fun v hv => ?_
  rcases a0 v hv with ⟨n, hn, lt⟩ | ⟨n, hn, le⟩
  · rw [hv] at hn; cases hn; omega
  · rcases a1 n hn with ⟨j, hj, lt⟩ | ⟨j, hj, lt⟩
    · rw [hv] at hj; cases hj; omega
    · rw [hn] at hj; cases hj; omega
theorem both_turned {p : Pr} (hp : p.Ok) {W : HF} (hW : Lst mBoth mTurned p W) : W 0 0 = none := by
  have n1 : 0 ∈ needed mBoth := by rw [ndBoth]; decide
  have n2 : 1 ∈ needed mBoth := by rw [ndBoth]; decide
  have n3 : 0 ∈ needed mTurned := by rw [ndTurned]; decide
  have n4 : 1 ∈ needed mTurned := by rw [ndTurned]; decide
  have h1 := hp.p1; have h2 := hp.t1; have h3 := hp.c1
  have stay : ∀ {a r k : Nat}, Pth mTurned (inN mTurned) a r k → a = 1 → r = 1 := by
    intro a r k t ha
    induction t with
    | nil => exact ha
    | snoc _ e _ ih =>
      subst ih
      have := ed_mem okTurned e
      rw [edTurned] at this
      simp at this
      exact this.2
  have mvs : ∀ {l y q : Nat}, Mv mTurned p 1 l y q → y = 1 ∧ (l = 1 → 1 ≤ q) := by
    rintro l y q (⟨rfl, rfl⟩ | ⟨o, ho, _, rfl⟩)
    · exact ⟨rfl, fun _ => h2⟩
    · have := ed_mem okTurned ho
      rw [edTurned] at this
      simp at this
      refine ⟨this.2, fun hl => ?_⟩
      rw [if_neg (by omega)]
      exact h3
  have b1 : ∀ v, W 1 1 ≠ some v := by
    intro v hv
    obtain ⟨_, e2⟩ := hW.get okTurned n2 n4 hv
    obtain ⟨r, k, q, y, n, t, hr, mv, hy, hn, hle⟩ := e2 1 1 rfl n2
    have er := stay t rfl
    subst er
    obtain ⟨rfl, hq⟩ := mvs mv
    have := hq rfl
    rw [hv] at hn
    cases hn
    omega
  have b2 : ∀ v, W 0 1 ≠ some v := by
    intro v hv
    obtain ⟨_, e2⟩ := hW.get okTurned n1 n4 hv
    obtain ⟨r, k, q, y, n, t, hr, mv, hy, hn, hle⟩ := e2 1 1 rfl n2
    have er := stay t rfl
    subst er
    obtain ⟨rfl, hq⟩ := mvs mv
    exact b1 n hn
  refine none_of fun v hv => ?_
  obtain ⟨_, e2⟩ := hW.get okTurned n1 n3 hv
  obtain ⟨r, k, q, y, n, t, hr, mv, hy, hn, hle⟩ := e2 0 0 rfl n1
  rw [ndTurned] at hy
  rcases two_of hy with rfl | rfl
  · rw [hv] at hn
    cases hn
    rcases put_pos p.put t with ⟨_, rfl⟩ | z
    · rcases mv with ⟨_, rfl⟩ | ⟨o, ho, _, rfl⟩
      · omega
      · have := ed_mem okTurned ho
        rw [edTurned] at this
        simp at this
        rw [if_neg (by omega)] at hle
        omega
    · omega
  · exact b2 n hn
theorem both_free {p : Pr} {W : HF} (hW : Lst mBoth mFree p W) : W 0 0 = some 0 := by
  have n1 : 0 ∈ needed mFree := by rw [ndFree]; decide
  have n2 : 0 ∈ needed mBoth := by rw [ndBoth]; decide
  refine hW.eq (U := fun _ _ => some 0) (pre_of okFree fun a b v ha hb hv => ?_) n2 n1 rfl (fun _ _ => Nat.zero_le _)
  have hv := Option.some.inj hv
  subst hv
  rw [ndFree] at hb
  have hb := one_of hb
  subst hb
  refine ⟨fun _ => ⟨0, 0, .nil, by decide, by rw [Nat.zero_mul]; exact Nat.zero_le _⟩, fun l x hbe hx => ?_⟩
  have := ed_mem okBoth hbe
  rw [edBoth] at this
  simp at this
  rcases this with ⟨_, rfl, _⟩ | ⟨_, rfl, _⟩ | ⟨_, rfl, _⟩
  · exact ⟨0, 0, 0, 0, _, .nil, n1, .inr ⟨0, rfl, n1, rfl⟩, n1, rfl, by omega⟩
  · exact ⟨0, 0, 0, 0, _, .nil, n1, .inr ⟨1, rfl, n1, rfl⟩, n1, rfl, by omega⟩
  · exact ⟨0, 0, 0, 0, _, .nil, n1, .inr ⟨1, rfl, n1, rfl⟩, n1, rfl, by omega⟩
theorem free_ends {p : Pr} {W : HF} (hW : Lst mFree mEnds p W) : W 0 0 = some p.put := by
  have n1 : 0 ∈ needed mFree := by rw [ndFree]; decide
  have n2 : 0 ∈ needed mEnds := by rw [ndEnds]; decide
  have n3 : 1 ∈ needed mEnds := by rw [ndEnds]; decide
  have lo : ∀ v, W 0 0 = some v → p.put ≤ v := by
    intro v hv
    obtain ⟨e1, _⟩ := hW.get okEnds n1 n2 hv
    obtain ⟨e, k, t, he, hle⟩ := e1 (by decide)
    have he : e = 1 := by simpa [mEnds] using he
    rcases put_pos p.put t with ⟨_, q⟩ | q
    · omega
    · omega
  refine hW.eq (U := fun _ _ => some p.put) (pre_of okEnds fun a b v ha hb hv => ?_) n1 n2 rfl lo
  have hv := Option.some.inj hv
  rw [ndEnds] at hb
  have nx : ∀ l, l = 0 ∨ l = 1 → ∃ y, y ∈ needed mEnds ∧ beh mEnds b l = some y := by
    rintro l (rfl | rfl) <;> rcases two_of hb with rfl | rfl
    · exact ⟨0, n2, rfl⟩
    · exact ⟨0, n2, rfl⟩
    · exact ⟨1, n3, rfl⟩
    · exact ⟨1, n3, rfl⟩
  refine ⟨fun _ => ?_, fun l x hbe hx => ?_⟩
  · rcases two_of hb with rfl | rfl
    · exact ⟨1, 1, .snoc (l := 1) .nil rfl n3, by decide, by rw [Nat.one_mul]; omega⟩
    · exact ⟨1, 0, .nil, by decide, by rw [Nat.zero_mul]; exact Nat.zero_le _⟩
  · have := ed_mem okFree hbe
    rw [edFree] at this
    simp at this
    have hl : l = 0 ∨ l = 1 := by omega
    obtain ⟨y, hy, e⟩ := nx l hl
    refine ⟨b, 0, 0, y, _, .nil, by rw [ndEnds]; exact hb, .inr ⟨l, e, hy, (if_pos rfl).symm⟩, hy, rfl, by omega⟩
end
end Rk10

open PySem L2 TL
namespace Rk10
section
variable {P : Program} {w : World} {K : PySem.W.Frag} {mg : Str → Option Value} {base : Heap}
theorem byLet_sp {Cm Cr Cp CB : Addr} {m1 m2 : Mac} {p : Pr} (o1 : m1.Ok) (o2 : m2.Ok) (l1 : m1.tab.length < 64) (l2 : m2.tab.length < 64) (hp : p.Ok) (n1 : 0 ∈ needed m1) (n2 : 0 ∈ needed m2) {v : Option Nat} (hv : ∀ W, Lst m1 m2 p W → W 0 0 = v) {KK : D → Led → Prop} {KE : EX → Led → Prop} (hk : KK (optN v) []) :
    spByLet Cm Cr Cp CB [macD Cm Cr m1, macD Cm Cr m2, prD Cp p] [] KK KE :=
  ⟨m1, m2, p, rfl, o1, o2, l1, l2, hp, rfl, fun h => (by rw [h] at n2; cases n2), fun _ h => (by rw [h] at n1; cases n1), fun _ _ W hW => by rw [hv W hW]; exact hk⟩
theorem lineOk {nl n : Nat} (h : nl ≤ 3) : (lineM nl n [n]).Ok := line_ok h (fun e he => by rw [List.mem_singleton.mp he]; exact Nat.le_refl _) (List.pairwise_singleton _ _)
theorem uptoOk (n : Nat) : (lineM 1 n (List.range (n + 1))).Ok := line_ok (by decide) (fun e he => by have := List.mem_range.mp he; omega) List.pairwise_lt_range
/-- Machine(..) of rows that are written -/
theorem minit_w {Cm Cr CB l : Addr} {m : Mac} (rs : List (List (Key × V))) (es : List V) (h1 : RowsOk rs) (h2 : ∀ x ∈ es, scalV x = true) (h3 : es.length < 1000) (h4 : isMach rs es = true) (h5 : rs.length ≤ 6) (h6 : rdrD Cr rs es = macR Cr m) {KK : D → Led → Prop} {KE : EX → Led → Prop} (hk : KK .non [(l, .ins Cm [("inner", macR Cr m)])]) :
    spMInit Cm Cr CB [.ref l, .tup (rs.map rowV), .tup (es.map D.v)] [(l, .ins Cm [])] KK KE :=
  ⟨l, _, _, rfl, rfl, .inr (.inl ⟨rs, es, rfl, rfl, h1, h2, h3, h4, h5, by rw [h6]; exact hk⟩)⟩
def spLaw : Prm := fun ds L KK KE => ∃ ns : List Int, ds = [.sq (ns.map D.int)] ∧ ns.length ≤ 63 ∧ L = [] ∧ KK (.bl true) []
theorem ok_law {f Cm Cr Cp CP CN CB : Addr} {fd : FuncData} (FF : Fun K "law" "law" s_law f fd) (B : Bi mg) (g1 : Glob P w K mg base "_law_begin" ["_law_script"] spBegin 1) (g2 : Glob P w K mg base "_law_draw" ["_law_draws", "_law_size"] spDraw 1)
    (g3 : Cla P w K mg base "Prices" Cp ["self", "put", "take", "change"] (spPInit Cp CP) 2) (g4 : Glob P w K mg base "_law_line" ["_law_letters", "_law_size"] (spLine Cm Cr) 6) (g5 : Glob P w K mg base "_law_upto" ["_law_size"] (spUpto Cm Cr) 6)
    (g6 : Glob P w K mg base "by_letters" ["one", "other", "prices"] (spByLet Cm Cr Cp CN) 8) (g7 : Cla P w K mg base "Machine" Cm ["self", "rows", "ends"] (spMInit Cm Cr CB) 4) : Def P w K mg base 9 f fd ["_law_script"] spLaw := by
  refine def_ok FF sc_law ?_ ?_
  · rintro ds L KK KE ⟨z, rfl, _⟩
    rfl
  · rintro ds L KK KE ⟨ns, rfl, hn, rfl, hk⟩ H0 F0
    wtm_at "bg"
    refine run_set (by wtm_at "loc") (by wtm_at "mem") ?_
    wtm_at "ea"
    refine calls0 ⟨ns, rfl, hn, rfl, fun p => ?_⟩
    refine ⟨_, by wtm_at "pt", ?_⟩
    refine run_asg (ev_lc [("_law_k", 19)] rfl (by kernel_rfl) (ei_rng1 (by wtm_at "gl") (by wtm_at "bi") ?_))
    wtm_at "ea"
    refine ⟨_, rfl, by omega, by omega, ?_⟩
    refine lc_inv (List.range 3) (fun k => nD k) (rng0 3) (fun i acc L' => ∃ (as : List Nat) (pos w s : Int), acc = as.map nD ∧ L' = [(p, .lst (cellD ns pos w s))] ∧ 0 ≤ pos ∧ 0 ≤ w ∧ as.length = i ∧ i ≤ 3 ∧ ∀ a ∈ as, 1 ≤ a ∧ a ≤ 9) ⟨[], 0, 0, 7, rfl, rfl, by decide, by decide, rfl, by decide, fun _ h => nomatch h⟩ ?_ ?_ ?_
    · rintro i acc L' ⟨as, pos, wv, s, rfl, rfl, _, _, h1, h2, _⟩
      exact ⟨(fun _ h => nomatch h), by rw [List.length_map]; exact sz_lt (by omega)⟩
    · rintro F1 Dl i x acc L' hx hlt ⟨as, pos, wv, s, rfl, rfl, hp, hw, h1, h2, h3⟩
      rw [List.length_range] at hlt
      refine tn_name (i := 19) (by wtm_at "loc") rfl (List.mem_singleton.mpr rfl) ?_
      wtm_at "wz"
      refine ⟨fun _ => ?_, fun h => nomatch h⟩
      wtm_at "ea"
      refine calls_2 (draw_sp ns p _ _ _ 9 hp hw (by decide) (by decide) fun q pos' wv' s' hq0 hq1 hp' hw' => ?_)
      obtain ⟨a, rfl⟩ : ∃ a : Nat, q = a := ⟨q.toNat, by omega⟩
      refine op_addI ?_
      refine ⟨_, List.Sublist.refl _, as ++ [a + 1], _, _, _, ?_, rfl, hp', hw', by rw [List.length_append, h1]; rfl, hlt, fun y hy => ?_⟩
      · rw [List.map_append, Int.add_comm]
        rfl
      · rcases List.mem_append.mp hy with hy | hy
        · exact h3 y hy
        · rw [List.mem_singleton.mp hy]; omega
    · rintro acc L' ⟨as, pos, wv, s, rfl, rfl, hp, hw, h1, _, h3⟩ Dl
      rw [List.length_range] at h1
      obtain ⟨a, b, c, rfl⟩ : ∃ a b c, as = [a, b, c] := by
        match as, h1 with
        | [a, b, c], _ => exact ⟨a, b, c, rfl⟩
      refine tgt_threeL rfl (.own (.head _)) (tgt_name (by wtm_at "loc") (by wtm_at "pt") (tgt_name (by wtm_at "loc") (by wtm_at "pt") (tgt_name (by wtm_at "loc") (by wtm_at "pt") ?_)))
      refine run_drop (List.sublist_cons_self _ _) ?_
      have ha := h3 a (by simp)
      have hb := h3 b (by simp)
      have hc := h3 c (by simp)
      have pok : (Pr.mk a b c).Ok := ⟨ha.1, ha.2, hb.1, hb.2, hc.1, hc.2⟩
      refine run_set (by wtm_at "loc") (by wtm_at "mem") (ev_frz ?_)
      wtm_at "ea"
      intro lp
      refine calls_1 ⟨lp, _, _, _, rfl, rfl, rfl, rfl, rfl, fun _ => ?_, fun hf => ?_⟩
      rotate_left
      · exfalso
        have : [nV a, nV b, nV c].all (fun v => isWhole v 1 9) = true := by
          simp only [List.all_cons, List.all_nil, Bool.and_true, isWhole, Bool.and_eq_true, decide_eq_true_eq]
          omega
        rw [this] at hf
        cases hf
      refine ⟨rfl, _, _, _, rfl, .here, ?_⟩
      refine ⟨_, by wtm_at "pt", ?_⟩
      show TL.Run _ [some (.sq (ns.map D.int)), some (.ref p), some (nD a), some (nD b), some (nD c), some (prD Cp ⟨a, b, c⟩), none, none, none, none, none, none, none, none, none, none, none, none, none, none] [(p, .lst (cellD ns pos wv s))] _ _
      refine run_set (by wtm_at "loc") (by wtm_at "mem") ?_
      wtm_at "ea"
      refine calls_1 (draw_sp ns p _ _ _ 6 hp hw (by decide) (by decide) fun q pos wv s hq0 hq1 hp hw => ?_)
      obtain ⟨n, rfl⟩ : ∃ n : Nat, q = n := ⟨q.toNat, by omega⟩
      refine ⟨_, by wtm_at "pt", ?_⟩
      refine run_set (by wtm_at "loc") (by wtm_at "mem") ?_
      wtm_at "ea"
      refine calls_1 (draw_sp ns p _ _ _ 6 hp hw (by decide) (by decide) fun q pos wv s hr0 hr1 hp hw => ?_)
      obtain ⟨m, rfl⟩ : ∃ n : Nat, q = n := ⟨q.toNat, by omega⟩
      refine ⟨_, by wtm_at "pt", ?_⟩
      refine run_drop (List.nil_sublist _) ?_
      have hn5 : n ≤ 5 := by omega
      have hm5 : m ≤ 5 := by omega
      refine run_set (by wtm_at "loc") (by wtm_at "mem") ?_
      wtm_at "ea"
      refine op_addI ?_
      wtm_at "ea"
      rw [show min ((c : Nat) : Int) (((a : Nat) : Int) + ((b : Nat) : Int)) = ((min c (a + b) : Nat) : Int) by omega]
      refine ⟨_, by wtm_at "pt", ?_⟩
      refine run_par rfl (by kernel_rfl) (by kernel_rfl) (by kernel_rfl) (by wtm_at "mem") (by wtm_at "mem") (by decide +kernel) rfl ?_
      wtm_at "ea"
      refine calls0 ⟨2, n, rfl, .inr rfl, hn5, rfl, ?_⟩
      wtm_at "ea"
      refine calls0 ⟨1, n, rfl, .inl rfl, hn5, rfl, ?_⟩
      refine ⟨_, _, by wtm_at "pt", by wtm_at "pt", ?_⟩
      have nl : ∀ {nl n : Nat}, 0 < nl → nl ≤ 3 → 0 ∈ needed (lineM nl n [n]) := fun h1 h2 => (line_needed (.inl h1) (lineOk h2) List.mem_cons_self).mpr (Nat.zero_le _)
      have ll : ∀ {nl n : Nat} {es : List Nat}, n ≤ 5 → (lineM nl n es).tab.length < 64 := fun h => by rw [line_len]; omega
      have lb : ∀ {nl nl2 n k : Nat} {KK : D → Led → Prop} {KE : EX → Led → Prop}, 0 < nl → nl ≤ 3 → 0 < nl2 → nl2 ≤ 3 → n ≤ 5 → k ≤ 5 → KK (nD (costF2 (swapOf nl nl2 ⟨a, b, c⟩) b a n k)) [] → spByLet Cm Cr Cp CN [macD Cm Cr (lineM nl n [n]), macD Cm Cr (lineM nl2 k [k]), prD Cp ⟨a, b, c⟩] [] KK KE :=
        fun h1 h2 h3 h4 h5 h6 hk => byLet_sp (lineOk h2) (lineOk h4) (ll h5) (ll h6) pok (nl h1 h2) (nl h3 h4) (fun W hW => line_line h1 h2 h3 h4 hW) hk
      refine run_if (tst_bool (tw_or (tst_cmp ?_)))
      wtm_at "ea"
      refine calls0 (lb (nl := 2) (nl2 := 1) (by decide) (by decide) (by decide) (by decide) hn5 hn5 ?_)
      wtm_at "ea"
      refine op_mulI (.inl ⟨by omega, by omega⟩) ?_
      refine op_neI ?_
      rw [decide_eq_true (by
        rw [cf_same, show swapOf 2 1 ⟨a, b, c⟩ = min c (a + b) from if_pos (by decide)]
        exact Int.natCast_mul _ _)]
      refine ⟨false, rfl, fun _ => ?_, fun h => nomatch h⟩
      refine tw_or1 (tst_cmp ?_)
      wtm_at "ea"
      refine calls0 (lb (nl := 1) (nl2 := 2) (by decide) (by decide) (by decide) (by decide) hn5 hn5 ?_)
      wtm_at "ea"
      refine op_neI ?_
      rw [decide_eq_true (by
        rw [cf_same, show swapOf 1 2 ⟨a, b, c⟩ = 0 from if_neg (by decide)]
        rfl)]
      refine ⟨false, rfl, (fun h => nomatch h), fun _ => ?_⟩
      refine run_nil (show TL.Run _ _ [] _ _ from ?_)
      refine run_set (by wtm_at "loc") (by wtm_at "mem") ?_
      wtm_at "ea"
      refine op_subI ?_
      wtm_at "ea"
      rw [show max (((n : Nat) : Int) - ((m : Nat) : Int)) 0 = ((n - m : Nat) : Int) by omega]
      wtm_at "ea"
      refine op_mulI (.inl ⟨by omega, by omega⟩) ?_
      wtm_at "ea"
      refine op_subI ?_
      wtm_at "ea"
      rw [show max (((m : Nat) : Int) - ((n : Nat) : Int)) 0 = ((m - n : Nat) : Int) by omega]
      wtm_at "ea"
      refine op_mulI (.inl ⟨by omega, by omega⟩) ?_
      refine op_addI ?_
      rw [show (((n - m : Nat) : Int) * ((b : Nat) : Int) + ((m - n : Nat) : Int) * ((a : Nat) : Int)) = ((costF2 0 b a n m : Nat) : Int) by rw [cf_zero, Int.natCast_add, Int.natCast_mul, Int.natCast_mul]]
      refine ⟨_, by wtm_at "pt", ?_⟩
      refine run_if (tst_cmp ?_)
      wtm_at "ea"
      refine calls0 ⟨1, m, rfl, .inl rfl, hm5, rfl, ?_⟩
      wtm_at "ea"
      refine calls0 (lb (nl := 1) (nl2 := 1) (by decide) (by decide) (by decide) (by decide) hn5 hm5 ?_)
      wtm_at "ea"
      refine op_neI ?_
      rw [decide_eq_true (by
        rw [show swapOf 1 1 ⟨a, b, c⟩ = 0 from if_neg (by decide)])]
      refine ⟨false, rfl, (fun h => nomatch h), fun _ => ?_⟩
      refine run_nil (show TL.Run _ _ [] _ _ from ?_)
      refine run_if (tst_cmp ?_)
      wtm_at "ea"
      refine calls0 ⟨n, rfl, hn5, rfl, ?_⟩
      wtm_at "ea"
      refine calls0 ⟨0, rfl, by decide, rfl, ?_⟩
      wtm_at "ea"
      refine calls0 (byLet_sp (uptoOk n) (uptoOk 0) (ll hn5) (ll (by decide)) pok ((line_needed (.inl (by decide)) (uptoOk n) (List.mem_range.mpr (Nat.lt_succ_self _))).mpr (Nat.zero_le _)) ((line_needed (.inl (by decide)) (uptoOk 0) (List.mem_range.mpr (Nat.lt_succ_self _))).mpr (Nat.zero_le _)) (fun W hW => upto_zero hW) ?_)
      wtm_at "ea"
      refine op_mulI (.inl ⟨by omega, by omega⟩) ?_
      refine op_neI ?_
      rw [decide_eq_true (Int.natCast_mul _ _)]
      refine ⟨false, rfl, (fun h => nomatch h), fun _ => ?_⟩
      refine run_nil (show TL.Run _ _ [] _ _ from ?_)
      refine run_set (by wtm_at "loc") (by wtm_at "mem") (ev_frz ?_)
      wtm_at "mw"
      intro lm
      refine calls_1 (minit_w (m := mTwos) [[(lkey 0, nV 1)], [(lkey 1, nV 0)]] [nV 0] ⟨by decide, by decide +kernel⟩ (by decide) (by decide) (by decide +kernel) (by decide) (by kernel_rfl) ⟨rfl, _, _, _, rfl, .here, ?_⟩)
      refine ⟨_, by wtm_at "pt", ?_⟩
      refine run_set (by wtm_at "loc") (by wtm_at "mem") (ev_frz ?_)
      wtm_at "mw"
      intro lm
      refine calls_1 (minit_w (m := mOnes) [[(lkey 0, nV 0)]] [nV 0] ⟨by decide, by decide +kernel⟩ (by decide) (by decide) (by decide +kernel) (by decide) (by kernel_rfl) ⟨rfl, _, _, _, rfl, .here, ?_⟩)
      refine ⟨_, by wtm_at "pt", ?_⟩
      refine run_set (by wtm_at "loc") (by wtm_at "mem") (ev_frz ?_)
      wtm_at "mw"
      intro lm
      refine calls_1 (minit_w (m := mEvens) [[(lkey 0, nV 1)], [(lkey 0, nV 0)]] [nV 0] ⟨by decide, by decide +kernel⟩ (by decide) (by decide) (by decide +kernel) (by decide) (by kernel_rfl) ⟨rfl, _, _, _, rfl, .here, ?_⟩)
      refine ⟨_, by wtm_at "pt", ?_⟩
      have sb : ∀ {m1 m2 : Mac} (_ : m1.Ok) (_ : m2.Ok) (_ : m1.tab.length < 64) (_ : m2.tab.length < 64) (_ : (needed m1).head? = some 0) (_ : (needed m2).head? = some 0) {v : Option Nat} (_ : ∀ W, Lst m1 m2 ⟨a, b, c⟩ W → W 0 0 = v) {KK : D → Led → Prop} {KE : EX → Led → Prop}, KK (optN v) [] → spByLet Cm Cr Cp CN [macD Cm Cr m1, macD Cm Cr m2, prD Cp ⟨a, b, c⟩] [] KK KE :=
        fun o1 o2 l1 l2 n1 n2 _ hv _ _ hk => byLet_sp o1 o2 l1 l2 pok (List.mem_of_head? n1) (List.mem_of_head? n2) hv hk
      refine run_if (tst_bool (tw_or (tst_cmp ?_)))
      wtm_at "ea"
      refine calls0 (sb okOnes okEvens (by decide) (by decide) (by rw [ndOnes]; rfl) (by rw [ndEvens]; rfl) (fun W hW => ones_evens pok hW) ?_)
      wtm_at "ea"
      refine op_neI ?_
      rw [decide_eq_true rfl]
      refine ⟨false, rfl, fun _ => ?_, fun h => nomatch h⟩
      refine tw_or1 (tst_cmp ?_)
      wtm_at "ea"
      refine calls0 (sb okEvens okOnes (by decide) (by decide) (by rw [ndEvens]; rfl) (by rw [ndOnes]; rfl) (fun W hW => evens_ones hW) ?_)
      wtm_at "ea"
      refine op_neI ?_
      rw [decide_eq_true (show ((0 : Nat) : Int) = 0 from rfl)]
      refine ⟨false, rfl, (fun h => nomatch h), fun _ => ?_⟩
      refine run_nil (show TL.Run _ _ [] _ _ from ?_)
      refine run_if (tst_bool (tw_or (tst_cmp ?_)))
      wtm_at "ea"
      refine calls0 (sb okTwos okOnes (by decide) (by decide) (by rw [ndTwos]; rfl) (by rw [ndOnes]; rfl) (fun W hW => twos_ones pok hW) ?_)
      wtm_at "ea"
      refine op_notN ?_
      refine ⟨false, rfl, fun _ => ?_, fun h => nomatch h⟩
      refine tw_or1 (tst_cmp ?_)
      wtm_at "ea"
      refine calls0 (sb okOnes okTwos (by decide) (by decide) (by rw [ndOnes]; rfl) (by rw [ndTwos]; rfl) (fun W hW => ones_twos pok hW) ?_)
      wtm_at "ea"
      refine op_notN ?_
      refine ⟨false, rfl, (fun h => nomatch h), fun _ => ?_⟩
      refine run_nil (show TL.Run _ _ [] _ _ from ?_)
      refine run_set (by wtm_at "loc") (by wtm_at "mem") (ev_frz ?_)
      wtm_at "mw"
      intro lm
      refine calls_1 (minit_w (m := mBoth) [[(lkey 0, nV 0), (lkey 1, nV 1)], [(lkey 1, nV 1)]] [nV 0, nV 1] ⟨by decide, by decide +kernel⟩ (by decide) (by decide) (by decide +kernel) (by decide) (by kernel_rfl) ⟨rfl, _, _, _, rfl, .here, ?_⟩)
      refine ⟨_, by wtm_at "pt", ?_⟩
      refine run_set (by wtm_at "loc") (by wtm_at "mem") (ev_frz ?_)
      wtm_at "mw"
      intro lm
      refine calls_1 (minit_w (m := mTurned) [[(lkey 1, nV 0), (lkey 0, nV 1)], [(lkey 0, nV 1)]] [nV 0, nV 1] ⟨by decide, by decide +kernel⟩ (by decide) (by decide) (by decide +kernel) (by decide) (by kernel_rfl) ⟨rfl, _, _, _, rfl, .here, ?_⟩)
      refine ⟨_, by wtm_at "pt", ?_⟩
      refine run_set (by wtm_at "loc") (by wtm_at "mem") (ev_frz ?_)
      wtm_at "mw"
      intro lm
      refine calls_1 (minit_w (m := mFree) [[(lkey 0, nV 0), (lkey 1, nV 0)]] [nV 0] ⟨by decide, by decide +kernel⟩ (by decide) (by decide) (by decide +kernel) (by decide) (by kernel_rfl) ⟨rfl, _, _, _, rfl, .here, ?_⟩)
      refine ⟨_, by wtm_at "pt", ?_⟩
      refine run_set (by wtm_at "loc") (by wtm_at "mem") (ev_frz ?_)
      wtm_at "mw"
      intro lm
      refine calls_1 (minit_w (m := mEnds) [[(lkey 0, nV 0), (lkey 1, nV 1)], [(lkey 0, nV 0), (lkey 1, nV 1)]] [nV 1] ⟨by decide, by decide +kernel⟩ (by decide) (by decide) (by decide +kernel) (by decide) (by kernel_rfl) ⟨rfl, _, _, _, rfl, .here, ?_⟩)
      refine ⟨_, by wtm_at "pt", ?_⟩
      refine run_if (tst_bool (tw_or (tst_cmp ?_)))
      wtm_at "ea"
      refine calls0 (sb okBoth okTurned (by decide) (by decide) (by rw [ndBoth]; rfl) (by rw [ndTurned]; rfl) (fun W hW => both_turned pok hW) ?_)
      wtm_at "ea"
      refine op_notN ?_
      refine ⟨false, rfl, fun _ => ?_, fun h => nomatch h⟩
      refine tw_or1 (tst_cmp ?_)
      wtm_at "ea"
      refine calls0 (sb okBoth okFree (by decide) (by decide) (by rw [ndBoth]; rfl) (by rw [ndFree]; rfl) (fun W hW => both_free hW) ?_)
      wtm_at "ea"
      refine op_neI ?_
      rw [decide_eq_true (show ((0 : Nat) : Int) = 0 from rfl)]
      refine ⟨false, rfl, (fun h => nomatch h), fun _ => ?_⟩
      refine run_nil (show TL.Run _ _ [] _ _ from ?_)
      refine run_ret0 ?_
      wtm_at "ea"
      refine calls0 (sb okFree okEnds (by decide) (by decide) (by rw [ndFree]; rfl) (by rw [ndEnds]; rfl) (fun W hW => free_ends hW) ?_)
      wtm_at "ea"
      refine op_eqI ?_
      rw [decide_eq_true rfl]
      exact hk
end
end Rk10

open PySem L2 TL
namespace Rk10
section
variable {P : Program} {w : World} {K : PySem.W.Frag} {mg : Str → Option Value} {base : Heap}
theorem exm_self {K : PySem.W.Frag} {S : Addr} (h1 : PySem.W.subIn K (.ref S) (.type "BaseException") = some true) (h2 : PySem.W.isClsIn K S = true) (h3 : PySem.W.typeIn K (.ref S) = some (.type "type")) (h4 : PySem.W.subIn K (.ref S) (.ref S) = some true) :
    PySem.W.exmOne K (.ref S) (.ref S) = some true := by
  have e2 : ((PySem.W.clsIn K S).isSome && PySem.W.typeIn K (.ref S) == some (.type "type")) = true := by
    rw [show (PySem.W.clsIn K S).isSome = true from h2, h3] <;> rfl
  unfold PySem.W.exmOne PySem.W.kitCls
  simp only [h1, e2, h4]
  rfl
theorem kit_self {K : PySem.W.Frag} {C : Addr} : PySem.W.kitOne K (.ref C) (.ref C) = some true := by
  unfold PySem.W.kitOne
  simp
theorem kit_f {K : PySem.W.Frag} {C : Addr} {t : Value} {b : Bool} (h1 : PySem.W.isClsIn K C = true) (h2 : PySem.W.typeIn K (.ref C) = some (.type "type")) (h3 : PySem.W.subIn K t (.ref C) = some b) (h : (t == .ref C) = false) : PySem.W.kitOne K t (.ref C) = some b := by
  have e2 : ((PySem.W.clsIn K C).isSome && PySem.W.typeIn K (.ref C) == some (.type "type")) = true := by
    rw [show (PySem.W.clsIn K C).isSome = true from h1, h2] <;> rfl
  unfold PySem.W.kitOne PySem.W.kitCls
  simp only [h, e2, h3]
  rfl
theorem all_mk {l : PySem.W.OpenLaw} {w : World} {K : PySem.W.Frag} {h : Heap} {mg : Str → Option Value} {fa fiswhole fisletter fisrow fismachine fwaysof fleadingrows fneededrows fputways fneedsecond fsolved fbyletters flawbegin flawdraw flawline flawupto flaw CReader CMachine CPrices CCosts CGame fReader fMachine fReaderbehind fPrices fCosts fCostsputcost fCostsmoves fGameendcost fGameanswers fGame fGamebest fGameneed fGamegreatestprice CBadMachine CBadPrices CNoTexts pLETTERS : Addr} (X : K.In h) (G : h.Ns mainGlobals mg) (hfa : mg "law" = some (.ref fa))
    {odiswhole aniswhole : Option Addr} {sliswhole : Array (Option Value)} {ociswhole kViswhole dciswhole pmiswhole cdiswhole ctiswhole : Value}
    {odisletter anisletter : Option Addr} {slisletter : Array (Option Value)} {ocisletter kVisletter dcisletter pmisletter cdisletter ctisletter : Value}
    {odisrow anisrow : Option Addr} {slisrow : Array (Option Value)} {ocisrow kVisrow dcisrow pmisrow cdisrow ctisrow : Value}
    {odismachine anismachine : Option Addr} {slismachine : Array (Option Value)} {ocismachine kVismachine dcismachine pmismachine cdismachine ctismachine : Value}
    {odwaysof anwaysof : Option Addr} {slwaysof : Array (Option Value)} {ocwaysof kVwaysof dcwaysof pmwaysof cdwaysof ctwaysof : Value}
    {odleadingrows anleadingrows : Option Addr} {slleadingrows : Array (Option Value)} {ocleadingrows kVleadingrows dcleadingrows pmleadingrows cdleadingrows ctleadingrows : Value}
    {odneededrows anneededrows : Option Addr} {slneededrows : Array (Option Value)} {ocneededrows kVneededrows dcneededrows pmneededrows cdneededrows ctneededrows : Value}
    {odputways anputways : Option Addr} {slputways : Array (Option Value)} {ocputways kVputways dcputways pmputways cdputways ctputways : Value}
    {odneedsecond anneedsecond : Option Addr} {slneedsecond : Array (Option Value)} {ocneedsecond kVneedsecond dcneedsecond pmneedsecond cdneedsecond ctneedsecond : Value}
    {odsolved ansolved : Option Addr} {slsolved : Array (Option Value)} {ocsolved kVsolved dcsolved pmsolved cdsolved ctsolved : Value}
    {odbyletters anbyletters : Option Addr} {slbyletters : Array (Option Value)} {ocbyletters kVbyletters dcbyletters pmbyletters cdbyletters ctbyletters : Value}
    {odlawbegin anlawbegin : Option Addr} {sllawbegin : Array (Option Value)} {oclawbegin kVlawbegin dclawbegin pmlawbegin cdlawbegin ctlawbegin : Value}
    {odlawdraw anlawdraw : Option Addr} {sllawdraw : Array (Option Value)} {oclawdraw kVlawdraw dclawdraw pmlawdraw cdlawdraw ctlawdraw : Value}
    {odlawline anlawline : Option Addr} {sllawline : Array (Option Value)} {oclawline kVlawline dclawline pmlawline cdlawline ctlawline : Value}
    {odlawupto anlawupto : Option Addr} {sllawupto : Array (Option Value)} {oclawupto kVlawupto dclawupto pmlawupto cdlawupto ctlawupto : Value}
    {odlaw anlaw : Option Addr} {sllaw : Array (Option Value)} {oclaw kVlaw dclaw pmlaw cdlaw ctlaw : Value}
    {odReader anReader : Option Addr} {slReader : Array (Option Value)} {ocReader kVReader dcReader pmReader cdReader ctReader : Value}
    {odMachine anMachine : Option Addr} {slMachine : Array (Option Value)} {ocMachine kVMachine dcMachine pmMachine cdMachine ctMachine : Value}
    {odReaderbehind anReaderbehind : Option Addr} {slReaderbehind : Array (Option Value)} {ocReaderbehind kVReaderbehind dcReaderbehind pmReaderbehind cdReaderbehind ctReaderbehind : Value}
    {odPrices anPrices : Option Addr} {slPrices : Array (Option Value)} {ocPrices kVPrices dcPrices pmPrices cdPrices ctPrices : Value}
    {odCosts anCosts : Option Addr} {slCosts : Array (Option Value)} {ocCosts kVCosts dcCosts pmCosts cdCosts ctCosts : Value}
    {odCostsputcost anCostsputcost : Option Addr} {slCostsputcost : Array (Option Value)} {ocCostsputcost kVCostsputcost dcCostsputcost pmCostsputcost cdCostsputcost ctCostsputcost : Value}
    {odCostsmoves anCostsmoves : Option Addr} {slCostsmoves : Array (Option Value)} {ocCostsmoves kVCostsmoves dcCostsmoves pmCostsmoves cdCostsmoves ctCostsmoves : Value}
    {odGameendcost anGameendcost : Option Addr} {slGameendcost : Array (Option Value)} {ocGameendcost kVGameendcost dcGameendcost pmGameendcost cdGameendcost ctGameendcost : Value}
    {odGameanswers anGameanswers : Option Addr} {slGameanswers : Array (Option Value)} {ocGameanswers kVGameanswers dcGameanswers pmGameanswers cdGameanswers ctGameanswers : Value}
    {odGame anGame : Option Addr} {slGame : Array (Option Value)} {ocGame kVGame dcGame pmGame cdGame ctGame : Value}
    {odGamebest anGamebest : Option Addr} {slGamebest : Array (Option Value)} {ocGamebest kVGamebest dcGamebest pmGamebest cdGamebest ctGamebest : Value}
    {odGameneed anGameneed : Option Addr} {slGameneed : Array (Option Value)} {ocGameneed kVGameneed dcGameneed pmGameneed cdGameneed ctGameneed : Value}
    {odGamegreatestprice anGamegreatestprice : Option Addr} {slGamegreatestprice : Array (Option Value)} {ocGamegreatestprice kVGamegreatestprice dcGamegreatestprice pmGamegreatestprice cdGamegreatestprice ctGamegreatestprice : Value}
    {tkMOSTROWS : Tok}
    {dpLETTERS : Option Addr} {itLETTERS : Array Value} {nnLETTERS : Nat} {sqLETTERS : Array (Option Value)}
    (aiswhole : PySem.W.nsIn K mainGlobals "is_whole" = some (some (.ref fiswhole)))
    (liswhole : K.lookup fiswhole = some ⟨ociswhole, odiswhole, .func (PySem.W.fnOf "is_whole" "is_whole" (defArgs s_is_whole) (defBody s_is_whole) (defScope s_is_whole) .none kViswhole dciswhole pmiswhole aniswhole cdiswhole ctiswhole), sliswhole⟩)
    (ciswhole : PySem.W.codeIn K cdiswhole "is_whole" = true)
    (kiswhole : PySem.W.keepIn K (.ref fiswhole) = true)
    (aisletter : PySem.W.nsIn K mainGlobals "is_letter" = some (some (.ref fisletter)))
    (lisletter : K.lookup fisletter = some ⟨ocisletter, odisletter, .func (PySem.W.fnOf "is_letter" "is_letter" (defArgs s_is_letter) (defBody s_is_letter) (defScope s_is_letter) .none kVisletter dcisletter pmisletter anisletter cdisletter ctisletter), slisletter⟩)
    (cisletter : PySem.W.codeIn K cdisletter "is_letter" = true)
    (kisletter : PySem.W.keepIn K (.ref fisletter) = true)
    (aisrow : PySem.W.nsIn K mainGlobals "is_row" = some (some (.ref fisrow)))
    (lisrow : K.lookup fisrow = some ⟨ocisrow, odisrow, .func (PySem.W.fnOf "is_row" "is_row" (defArgs s_is_row) (defBody s_is_row) (defScope s_is_row) .none kVisrow dcisrow pmisrow anisrow cdisrow ctisrow), slisrow⟩)
    (cisrow : PySem.W.codeIn K cdisrow "is_row" = true)
    (kisrow : PySem.W.keepIn K (.ref fisrow) = true)
    (aismachine : PySem.W.nsIn K mainGlobals "is_machine" = some (some (.ref fismachine)))
    (lismachine : K.lookup fismachine = some ⟨ocismachine, odismachine, .func (PySem.W.fnOf "is_machine" "is_machine" (defArgs s_is_machine) (defBody s_is_machine) (defScope s_is_machine) .none kVismachine dcismachine pmismachine anismachine cdismachine ctismachine), slismachine⟩)
    (cismachine : PySem.W.codeIn K cdismachine "is_machine" = true)
    (kismachine : PySem.W.keepIn K (.ref fismachine) = true)
    (awaysof : PySem.W.nsIn K mainGlobals "ways_of" = some (some (.ref fwaysof)))
    (lwaysof : K.lookup fwaysof = some ⟨ocwaysof, odwaysof, .func (PySem.W.fnOf "ways_of" "ways_of" (defArgs s_ways_of) (defBody s_ways_of) (defScope s_ways_of) .none kVwaysof dcwaysof pmwaysof anwaysof cdwaysof ctwaysof), slwaysof⟩)
    (cwaysof : PySem.W.codeIn K cdwaysof "ways_of" = true)
    (kwaysof : PySem.W.keepIn K (.ref fwaysof) = true)
    (aleadingrows : PySem.W.nsIn K mainGlobals "leading_rows" = some (some (.ref fleadingrows)))
    (lleadingrows : K.lookup fleadingrows = some ⟨ocleadingrows, odleadingrows, .func (PySem.W.fnOf "leading_rows" "leading_rows" (defArgs s_leading_rows) (defBody s_leading_rows) (defScope s_leading_rows) .none kVleadingrows dcleadingrows pmleadingrows anleadingrows cdleadingrows ctleadingrows), slleadingrows⟩)
    (cleadingrows : PySem.W.codeIn K cdleadingrows "leading_rows" = true)
    (kleadingrows : PySem.W.keepIn K (.ref fleadingrows) = true)
    (aneededrows : PySem.W.nsIn K mainGlobals "needed_rows" = some (some (.ref fneededrows)))
    (lneededrows : K.lookup fneededrows = some ⟨ocneededrows, odneededrows, .func (PySem.W.fnOf "needed_rows" "needed_rows" (defArgs s_needed_rows) (defBody s_needed_rows) (defScope s_needed_rows) .none kVneededrows dcneededrows pmneededrows anneededrows cdneededrows ctneededrows), slneededrows⟩)
    (cneededrows : PySem.W.codeIn K cdneededrows "needed_rows" = true)
    (kneededrows : PySem.W.keepIn K (.ref fneededrows) = true)
    (aputways : PySem.W.nsIn K mainGlobals "put_ways" = some (some (.ref fputways)))
    (lputways : K.lookup fputways = some ⟨ocputways, odputways, .func (PySem.W.fnOf "put_ways" "put_ways" (defArgs s_put_ways) (defBody s_put_ways) (defScope s_put_ways) .none kVputways dcputways pmputways anputways cdputways ctputways), slputways⟩)
    (cputways : PySem.W.codeIn K cdputways "put_ways" = true)
    (kputways : PySem.W.keepIn K (.ref fputways) = true)
    (aneedsecond : PySem.W.nsIn K mainGlobals "need_second" = some (some (.ref fneedsecond)))
    (lneedsecond : K.lookup fneedsecond = some ⟨ocneedsecond, odneedsecond, .func (PySem.W.fnOf "need_second" "need_second" (defArgs s_need_second) (defBody s_need_second) (defScope s_need_second) .none kVneedsecond dcneedsecond pmneedsecond anneedsecond cdneedsecond ctneedsecond), slneedsecond⟩)
    (cneedsecond : PySem.W.codeIn K cdneedsecond "need_second" = true)
    (kneedsecond : PySem.W.keepIn K (.ref fneedsecond) = true)
    (asolved : PySem.W.nsIn K mainGlobals "solved" = some (some (.ref fsolved)))
    (lsolved : K.lookup fsolved = some ⟨ocsolved, odsolved, .func (PySem.W.fnOf "solved" "solved" (defArgs s_solved) (defBody s_solved) (defScope s_solved) .none kVsolved dcsolved pmsolved ansolved cdsolved ctsolved), slsolved⟩)
    (csolved : PySem.W.codeIn K cdsolved "solved" = true)
    (ksolved : PySem.W.keepIn K (.ref fsolved) = true)
    (abyletters : PySem.W.nsIn K mainGlobals "by_letters" = some (some (.ref fbyletters)))
    (lbyletters : K.lookup fbyletters = some ⟨ocbyletters, odbyletters, .func (PySem.W.fnOf "by_letters" "by_letters" (defArgs s_by_letters) (defBody s_by_letters) (defScope s_by_letters) .none kVbyletters dcbyletters pmbyletters anbyletters cdbyletters ctbyletters), slbyletters⟩)
    (cbyletters : PySem.W.codeIn K cdbyletters "by_letters" = true)
    (kbyletters : PySem.W.keepIn K (.ref fbyletters) = true)
    (alawbegin : PySem.W.nsIn K mainGlobals "_law_begin" = some (some (.ref flawbegin)))
    (llawbegin : K.lookup flawbegin = some ⟨oclawbegin, odlawbegin, .func (PySem.W.fnOf "_law_begin" "_law_begin" (defArgs s__law_begin) (defBody s__law_begin) (defScope s__law_begin) .none kVlawbegin dclawbegin pmlawbegin anlawbegin cdlawbegin ctlawbegin), sllawbegin⟩)
    (clawbegin : PySem.W.codeIn K cdlawbegin "_law_begin" = true)
    (klawbegin : PySem.W.keepIn K (.ref flawbegin) = true)
    (alawdraw : PySem.W.nsIn K mainGlobals "_law_draw" = some (some (.ref flawdraw)))
    (llawdraw : K.lookup flawdraw = some ⟨oclawdraw, odlawdraw, .func (PySem.W.fnOf "_law_draw" "_law_draw" (defArgs s__law_draw) (defBody s__law_draw) (defScope s__law_draw) .none kVlawdraw dclawdraw pmlawdraw anlawdraw cdlawdraw ctlawdraw), sllawdraw⟩)
    (clawdraw : PySem.W.codeIn K cdlawdraw "_law_draw" = true)
    (klawdraw : PySem.W.keepIn K (.ref flawdraw) = true)
    (alawline : PySem.W.nsIn K mainGlobals "_law_line" = some (some (.ref flawline)))
    (llawline : K.lookup flawline = some ⟨oclawline, odlawline, .func (PySem.W.fnOf "_law_line" "_law_line" (defArgs s__law_line) (defBody s__law_line) (defScope s__law_line) .none kVlawline dclawline pmlawline anlawline cdlawline ctlawline), sllawline⟩)
    (clawline : PySem.W.codeIn K cdlawline "_law_line" = true)
    (klawline : PySem.W.keepIn K (.ref flawline) = true)
    (alawupto : PySem.W.nsIn K mainGlobals "_law_upto" = some (some (.ref flawupto)))
    (llawupto : K.lookup flawupto = some ⟨oclawupto, odlawupto, .func (PySem.W.fnOf "_law_upto" "_law_upto" (defArgs s__law_upto) (defBody s__law_upto) (defScope s__law_upto) .none kVlawupto dclawupto pmlawupto anlawupto cdlawupto ctlawupto), sllawupto⟩)
    (clawupto : PySem.W.codeIn K cdlawupto "_law_upto" = true)
    (klawupto : PySem.W.keepIn K (.ref flawupto) = true)
    (alaw : PySem.W.nsIn K mainGlobals "law" = some (some (.ref flaw)))
    (llaw : K.lookup flaw = some ⟨oclaw, odlaw, .func (PySem.W.fnOf "law" "law" (defArgs s_law) (defBody s_law) (defScope s_law) .none kVlaw dclaw pmlaw anlaw cdlaw ctlaw), sllaw⟩)
    (claw : PySem.W.codeIn K cdlaw "law" = true)
    (klaw : PySem.W.keepIn K (.ref flaw) = true)
    (aCReader : PySem.W.nsIn K mainGlobals "Reader" = some (some (.ref CReader)))
    (pgReader : PySem.W.plainGet K CReader Str.empty = true)
    (hdReader : PySem.W.hasDictIn K CReader = true)
    (poReader : PySem.W.plainOver K CReader = true)
    (saReader : PySem.W.findIn K (.ref CReader) "__setattr__" = some (some (.builtin "object.__setattr__")))
    (nReadertable : PySem.W.findIn K (.ref CReader) "table" = some none)
    (nReaderlast : PySem.W.findIn K (.ref CReader) "last" = some none)
    (chaReader : PySem.W.findIn K (.ref CReader) "__class__" = some (some (.builtin "object.__class__")))
    (chmReader : PySem.W.mroIn K CReader (.type "object") = some true)
    (icReader : PySem.W.isClsIn K CReader = true)
    (tyReader : PySem.W.typeIn K (.ref CReader) = some (.type "type"))
    (aCMachine : PySem.W.nsIn K mainGlobals "Machine" = some (some (.ref CMachine)))
    (pgMachine : PySem.W.plainGet K CMachine Str.empty = true)
    (hdMachine : PySem.W.hasDictIn K CMachine = true)
    (poMachine : PySem.W.plainOver K CMachine = true)
    (saMachine : PySem.W.findIn K (.ref CMachine) "__setattr__" = some (some (.builtin "object.__setattr__")))
    (nMachineinner : PySem.W.findIn K (.ref CMachine) "inner" = some none)
    (aCPrices : PySem.W.nsIn K mainGlobals "Prices" = some (some (.ref CPrices)))
    (pgPrices : PySem.W.plainGet K CPrices Str.empty = true)
    (hdPrices : PySem.W.hasDictIn K CPrices = true)
    (poPrices : PySem.W.plainOver K CPrices = true)
    (saPrices : PySem.W.findIn K (.ref CPrices) "__setattr__" = some (some (.builtin "object.__setattr__")))
    (nPricesput : PySem.W.findIn K (.ref CPrices) "put" = some none)
    (nPricestake : PySem.W.findIn K (.ref CPrices) "take" = some none)
    (nPriceschange : PySem.W.findIn K (.ref CPrices) "change" = some none)
    (aCCosts : PySem.W.nsIn K mainGlobals "Costs" = some (some (.ref CCosts)))
    (pgCosts : PySem.W.plainGet K CCosts Str.empty = true)
    (hdCosts : PySem.W.hasDictIn K CCosts = true)
    (poCosts : PySem.W.plainOver K CCosts = true)
    (saCosts : PySem.W.findIn K (.ref CCosts) "__setattr__" = some (some (.builtin "object.__setattr__")))
    (nCostsreader : PySem.W.findIn K (.ref CCosts) "reader" = some none)
    (nCostsprices : PySem.W.findIn K (.ref CCosts) "prices" = some none)
    (nCostsneededones : PySem.W.findIn K (.ref CCosts) "needed_ones" = some none)
    (nCostsways : PySem.W.findIn K (.ref CCosts) "ways" = some none)
    (nCostsat : PySem.W.findIn K (.ref CCosts) "at" = some none)
    (aCGame : PySem.W.nsIn K mainGlobals "Game" = some (some (.ref CGame)))
    (pgGame : PySem.W.plainGet K CGame Str.empty = true)
    (hdGame : PySem.W.hasDictIn K CGame = true)
    (poGame : PySem.W.plainOver K CGame = true)
    (saGame : PySem.W.findIn K (.ref CGame) "__setattr__" = some (some (.builtin "object.__setattr__")))
    (nGamereader : PySem.W.findIn K (.ref CGame) "reader" = some none)
    (nGamefirsts : PySem.W.findIn K (.ref CGame) "firsts" = some none)
    (nGamecosts : PySem.W.findIn K (.ref CGame) "costs" = some none)
    (nGamepairs : PySem.W.findIn K (.ref CGame) "pairs" = some none)
    (nGameendcosts : PySem.W.findIn K (.ref CGame) "end_costs" = some none)
    (nGameallanswers : PySem.W.findIn K (.ref CGame) "all_answers" = some none)
    (chn : PySem.W.specialIn K (.builtin "object.__class__") "__get__" = some (some (.builtin "getset_descriptor.__get__")))
    (cht : PySem.W.takesIn K (.builtin "object.__class__") = some true)
    (wtupleReader : PySem.W.subIn K (.type "tuple") (.ref CReader) = some false)
    (wNoneTypeReader : PySem.W.subIn K (.type "NoneType") (.ref CReader) = some false)
    (wlistReader : PySem.W.subIn K (.type "list") (.ref CReader) = some false)
    (inReader : PySem.W.findIn K (.ref CReader) "__init__" = some (some (.ref fReader)))
    (jfReader : PySem.W.isFn K (.ref fReader) = true)
    (mkReader : PySem.W.makesIn K CReader = true)
    (kcReader : PySem.W.keepIn K (.ref CReader) = true)
    (lReader : K.lookup fReader = some ⟨ocReader, odReader, .func (PySem.W.fnOf "__init__" "Reader.__init__" (defArgs s_Reader_init) (defBody s_Reader_init) (defScope s_Reader_init) .none kVReader dcReader pmReader anReader cdReader ctReader), slReader⟩)
    (cReader : PySem.W.codeIn K cdReader "Reader.__init__" = true)
    (kReader : PySem.W.keepIn K (.ref fReader) = true)
    (inMachine : PySem.W.findIn K (.ref CMachine) "__init__" = some (some (.ref fMachine)))
    (jfMachine : PySem.W.isFn K (.ref fMachine) = true)
    (mkMachine : PySem.W.makesIn K CMachine = true)
    (kcMachine : PySem.W.keepIn K (.ref CMachine) = true)
    (lMachine : K.lookup fMachine = some ⟨ocMachine, odMachine, .func (PySem.W.fnOf "__init__" "Machine.__init__" (defArgs s_Machine_init) (defBody s_Machine_init) (defScope s_Machine_init) .none kVMachine dcMachine pmMachine anMachine cdMachine ctMachine), slMachine⟩)
    (cMachine : PySem.W.codeIn K cdMachine "Machine.__init__" = true)
    (kMachine : PySem.W.keepIn K (.ref fMachine) = true)
    (miReaderbehind : PySem.W.findIn K (.ref CReader) "behind" = some (some (.ref fReaderbehind)))
    (mjReaderbehind : PySem.W.isFn K (.ref fReaderbehind) = true)
    (lReaderbehind : K.lookup fReaderbehind = some ⟨ocReaderbehind, odReaderbehind, .func (PySem.W.fnOf "behind" "Reader.behind" (defArgs s_Reader_behind) (defBody s_Reader_behind) (defScope s_Reader_behind) .none kVReaderbehind dcReaderbehind pmReaderbehind anReaderbehind cdReaderbehind ctReaderbehind), slReaderbehind⟩)
    (cReaderbehind : PySem.W.codeIn K cdReaderbehind "Reader.behind" = true)
    (kReaderbehind : PySem.W.keepIn K (.ref fReaderbehind) = true)
    (inPrices : PySem.W.findIn K (.ref CPrices) "__init__" = some (some (.ref fPrices)))
    (jfPrices : PySem.W.isFn K (.ref fPrices) = true)
    (mkPrices : PySem.W.makesIn K CPrices = true)
    (kcPrices : PySem.W.keepIn K (.ref CPrices) = true)
    (lPrices : K.lookup fPrices = some ⟨ocPrices, odPrices, .func (PySem.W.fnOf "__init__" "Prices.__init__" (defArgs s_Prices_init) (defBody s_Prices_init) (defScope s_Prices_init) .none kVPrices dcPrices pmPrices anPrices cdPrices ctPrices), slPrices⟩)
    (cPrices : PySem.W.codeIn K cdPrices "Prices.__init__" = true)
    (kPrices : PySem.W.keepIn K (.ref fPrices) = true)
    (inCosts : PySem.W.findIn K (.ref CCosts) "__init__" = some (some (.ref fCosts)))
    (jfCosts : PySem.W.isFn K (.ref fCosts) = true)
    (mkCosts : PySem.W.makesIn K CCosts = true)
    (kcCosts : PySem.W.keepIn K (.ref CCosts) = true)
    (lCosts : K.lookup fCosts = some ⟨ocCosts, odCosts, .func (PySem.W.fnOf "__init__" "Costs.__init__" (defArgs s_Costs_init) (defBody s_Costs_init) (defScope s_Costs_init) .none kVCosts dcCosts pmCosts anCosts cdCosts ctCosts), slCosts⟩)
    (cCosts : PySem.W.codeIn K cdCosts "Costs.__init__" = true)
    (kCosts : PySem.W.keepIn K (.ref fCosts) = true)
    (miCostsputcost : PySem.W.findIn K (.ref CCosts) "put_cost" = some (some (.ref fCostsputcost)))
    (mjCostsputcost : PySem.W.isFn K (.ref fCostsputcost) = true)
    (lCostsputcost : K.lookup fCostsputcost = some ⟨ocCostsputcost, odCostsputcost, .func (PySem.W.fnOf "put_cost" "Costs.put_cost" (defArgs s_Costs_put_cost) (defBody s_Costs_put_cost) (defScope s_Costs_put_cost) .none kVCostsputcost dcCostsputcost pmCostsputcost anCostsputcost cdCostsputcost ctCostsputcost), slCostsputcost⟩)
    (cCostsputcost : PySem.W.codeIn K cdCostsputcost "Costs.put_cost" = true)
    (kCostsputcost : PySem.W.keepIn K (.ref fCostsputcost) = true)
    (miCostsmoves : PySem.W.findIn K (.ref CCosts) "moves" = some (some (.ref fCostsmoves)))
    (mjCostsmoves : PySem.W.isFn K (.ref fCostsmoves) = true)
    (lCostsmoves : K.lookup fCostsmoves = some ⟨ocCostsmoves, odCostsmoves, .func (PySem.W.fnOf "moves" "Costs.moves" (defArgs s_Costs_moves) (defBody s_Costs_moves) (defScope s_Costs_moves) .none kVCostsmoves dcCostsmoves pmCostsmoves anCostsmoves cdCostsmoves ctCostsmoves), slCostsmoves⟩)
    (cCostsmoves : PySem.W.codeIn K cdCostsmoves "Costs.moves" = true)
    (kCostsmoves : PySem.W.keepIn K (.ref fCostsmoves) = true)
    (miGameendcost : PySem.W.findIn K (.ref CGame) "end_cost" = some (some (.ref fGameendcost)))
    (mjGameendcost : PySem.W.isFn K (.ref fGameendcost) = true)
    (lGameendcost : K.lookup fGameendcost = some ⟨ocGameendcost, odGameendcost, .func (PySem.W.fnOf "end_cost" "Game.end_cost" (defArgs s_Game_end_cost) (defBody s_Game_end_cost) (defScope s_Game_end_cost) .none kVGameendcost dcGameendcost pmGameendcost anGameendcost cdGameendcost ctGameendcost), slGameendcost⟩)
    (cGameendcost : PySem.W.codeIn K cdGameendcost "Game.end_cost" = true)
    (kGameendcost : PySem.W.keepIn K (.ref fGameendcost) = true)
    (miGameanswers : PySem.W.findIn K (.ref CGame) "answers" = some (some (.ref fGameanswers)))
    (mjGameanswers : PySem.W.isFn K (.ref fGameanswers) = true)
    (lGameanswers : K.lookup fGameanswers = some ⟨ocGameanswers, odGameanswers, .func (PySem.W.fnOf "answers" "Game.answers" (defArgs s_Game_answers) (defBody s_Game_answers) (defScope s_Game_answers) .none kVGameanswers dcGameanswers pmGameanswers anGameanswers cdGameanswers ctGameanswers), slGameanswers⟩)
    (cGameanswers : PySem.W.codeIn K cdGameanswers "Game.answers" = true)
    (kGameanswers : PySem.W.keepIn K (.ref fGameanswers) = true)
    (inGame : PySem.W.findIn K (.ref CGame) "__init__" = some (some (.ref fGame)))
    (jfGame : PySem.W.isFn K (.ref fGame) = true)
    (mkGame : PySem.W.makesIn K CGame = true)
    (kcGame : PySem.W.keepIn K (.ref CGame) = true)
    (lGame : K.lookup fGame = some ⟨ocGame, odGame, .func (PySem.W.fnOf "__init__" "Game.__init__" (defArgs s_Game_init) (defBody s_Game_init) (defScope s_Game_init) .none kVGame dcGame pmGame anGame cdGame ctGame), slGame⟩)
    (cGame : PySem.W.codeIn K cdGame "Game.__init__" = true)
    (kGame : PySem.W.keepIn K (.ref fGame) = true)
    (miGamebest : PySem.W.findIn K (.ref CGame) "best" = some (some (.ref fGamebest)))
    (mjGamebest : PySem.W.isFn K (.ref fGamebest) = true)
    (lGamebest : K.lookup fGamebest = some ⟨ocGamebest, odGamebest, .func (PySem.W.fnOf "best" "Game.best" (defArgs s_Game_best) (defBody s_Game_best) (defScope s_Game_best) .none kVGamebest dcGamebest pmGamebest anGamebest cdGamebest ctGamebest), slGamebest⟩)
    (cGamebest : PySem.W.codeIn K cdGamebest "Game.best" = true)
    (kGamebest : PySem.W.keepIn K (.ref fGamebest) = true)
    (miGameneed : PySem.W.findIn K (.ref CGame) "need" = some (some (.ref fGameneed)))
    (mjGameneed : PySem.W.isFn K (.ref fGameneed) = true)
    (lGameneed : K.lookup fGameneed = some ⟨ocGameneed, odGameneed, .func (PySem.W.fnOf "need" "Game.need" (defArgs s_Game_need) (defBody s_Game_need) (defScope s_Game_need) .none kVGameneed dcGameneed pmGameneed anGameneed cdGameneed ctGameneed), slGameneed⟩)
    (cGameneed : PySem.W.codeIn K cdGameneed "Game.need" = true)
    (kGameneed : PySem.W.keepIn K (.ref fGameneed) = true)
    (miGamegreatestprice : PySem.W.findIn K (.ref CGame) "greatest_price" = some (some (.ref fGamegreatestprice)))
    (mjGamegreatestprice : PySem.W.isFn K (.ref fGamegreatestprice) = true)
    (lGamegreatestprice : K.lookup fGamegreatestprice = some ⟨ocGamegreatestprice, odGamegreatestprice, .func (PySem.W.fnOf "greatest_price" "Game.greatest_price" (defArgs s_Game_greatest_price) (defBody s_Game_greatest_price) (defScope s_Game_greatest_price) .none kVGamegreatestprice dcGamegreatestprice pmGamegreatestprice anGamegreatestprice cdGamegreatestprice ctGamegreatestprice), slGamegreatestprice⟩)
    (cGamegreatestprice : PySem.W.codeIn K cdGamegreatestprice "Game.greatest_price" = true)
    (kGamegreatestprice : PySem.W.keepIn K (.ref fGamegreatestprice) = true)
    (aCBadMachine : PySem.W.nsIn K mainGlobals "BadMachine" = some (some (.ref CBadMachine)))
    (aCBadPrices : PySem.W.nsIn K mainGlobals "BadPrices" = some (some (.ref CBadPrices)))
    (aCNoTexts : PySem.W.nsIn K mainGlobals "NoTexts" = some (some (.ref CNoTexts)))
    (xcBadMachine : PySem.W.excIn K CBadMachine [.type "ValueError", .type "Exception", .type "BaseException", .type "object"] "ValueError.__new__" = true)
    (xcBadPrices : PySem.W.excIn K CBadPrices [.type "ValueError", .type "Exception", .type "BaseException", .type "object"] "ValueError.__new__" = true)
    (xcNoTexts : PySem.W.excIn K CNoTexts [.type "ValueError", .type "Exception", .type "BaseException", .type "object"] "ValueError.__new__" = true)
    (kpBadMachine : PySem.W.keepIn K (.ref CBadMachine) = true)
    (sbBadMachine : PySem.W.subIn K (.ref CBadMachine) (.type "BaseException") = some true)
    (tyBadMachine : PySem.W.typeIn K (.ref CBadMachine) = some (.type "type"))
    (kpBadPrices : PySem.W.keepIn K (.ref CBadPrices) = true)
    (sbBadPrices : PySem.W.subIn K (.ref CBadPrices) (.type "BaseException") = some true)
    (tyBadPrices : PySem.W.typeIn K (.ref CBadPrices) = some (.type "type"))
    (kpNoTexts : PySem.W.keepIn K (.ref CNoTexts) = true)
    (sbNoTexts : PySem.W.subIn K (.ref CNoTexts) (.type "BaseException") = some true)
    (tyNoTexts : PySem.W.typeIn K (.ref CNoTexts) = some (.type "type"))
    (vMOSTROWS : PySem.W.nsIn K mainGlobals "MOST_ROWS" = some (some (.int 6 tkMOSTROWS)))
    (vLETTERS : PySem.W.nsIn K mainGlobals "LETTERS" = some (some (.ref pLETTERS)))
    (lLETTERS : K.lookup pLETTERS = some ⟨.type "tuple", dpLETTERS, .seq itLETTERS nnLETTERS, sqLETTERS⟩)
    (rLETTERS : Vals letV itLETTERS.toList)
    (zlen : PySem.W.nsIn K mainGlobals "len" = some none)
    (zisinstance : PySem.W.nsIn K mainGlobals "isinstance" = some none)
    (zrange : PySem.W.nsIn K mainGlobals "range" = some none)
    (zint : PySem.W.nsIn K mainGlobals "int" = some none)
    (zstr : PySem.W.nsIn K mainGlobals "str" = some none)
    (zall : PySem.W.nsIn K mainGlobals "all" = some none)
    (zany : PySem.W.nsIn K mainGlobals "any" = some none)
    (zmin : PySem.W.nsIn K mainGlobals "min" = some none)
    (zmax : PySem.W.nsIn K mainGlobals "max" = some none)
    (ztuple : PySem.W.nsIn K mainGlobals "tuple" = some none)
    (zlist : PySem.W.nsIn K mainGlobals "list" = some none)
    (zdict : PySem.W.nsIn K mainGlobals "dict" = some none)
    (zzip : PySem.W.nsIn K mainGlobals "zip" = some none)
    (zenumerate : PySem.W.nsIn K mainGlobals "enumerate" = some none)
    (zsum : PySem.W.nsIn K mainGlobals "sum" = some none)
    (zsorted : PySem.W.nsIn K mainGlobals "sorted" = some none)
    (zbool : PySem.W.nsIn K mainGlobals "bool" = some none)
    : ∃ fd : FuncData, (∀ (s : Shared) (v : Value), BindsTo s fd ⟨[v], []⟩ [("_law_script", v)]) ∧ ∀ base : Heap, K.In base → base.Ns mainGlobals mg → FnOk l.prog w K mg base (L2.CX l.prog w) 9 fa fd ["_law_script"] (TSp K spLaw) := by
  have e := hfa.symm.trans (PySem.W.mg_of X G alaw)
  cases e
  have B : Bi mg := ⟨fun {x} hx => by
    have hm : x ∈ biNames := mem_of hx
    simp only [biNames, List.mem_cons, List.not_mem_nil, or_false] at hm
    rcases hm with rfl | rfl | rfl | rfl | rfl | rfl | rfl | rfl | rfl | rfl | rfl | rfl | rfl | rfl | rfl | rfl | rfl
    · exact PySem.W.mg_none_of X G zlen
    · exact PySem.W.mg_none_of X G zisinstance
    · exact PySem.W.mg_none_of X G zrange
    · exact PySem.W.mg_none_of X G zint
    · exact PySem.W.mg_none_of X G zstr
    · exact PySem.W.mg_none_of X G zall
    · exact PySem.W.mg_none_of X G zany
    · exact PySem.W.mg_none_of X G zmin
    · exact PySem.W.mg_none_of X G zmax
    · exact PySem.W.mg_none_of X G ztuple
    · exact PySem.W.mg_none_of X G zlist
    · exact PySem.W.mg_none_of X G zdict
    · exact PySem.W.mg_none_of X G zzip
    · exact PySem.W.mg_none_of X G zenumerate
    · exact PySem.W.mg_none_of X G zsum
    · exact PySem.W.mg_none_of X G zsorted
    · exact PySem.W.mg_none_of X G zbool⟩
  have gMOSTROWS : GVal mg "MOST_ROWS" (.int 6) := ⟨_, PySem.W.mg_of X G vMOSTROWS, ⟨_, rfl⟩⟩
  have gLETTERS : GTup K mg "LETTERS" letV := ⟨pLETTERS, PySem.W.mg_of X G vLETTERS, fun F => .inr ⟨_, itLETTERS, nnLETTERS, lLETTERS, rfl, rfl, (by rw [← Array.length_toList, ← Paired.length rLETTERS]; decide), rLETTERS⟩⟩
  have clReader : Cls K CReader := ⟨pgReader, hdReader, poReader, saReader⟩
  have gCReader : GVal mg "Reader" (.ref CReader) := ⟨_, PySem.W.mg_of X G aCReader, rfl⟩
  have noReadertable : NoAttr K CReader "table" := nReadertable
  have noReaderlast : NoAttr K CReader "last" := nReaderlast
  have ciReader : ClsI K CReader := ⟨clReader, chaReader, chn, cht, chmReader⟩
  have clMachine : Cls K CMachine := ⟨pgMachine, hdMachine, poMachine, saMachine⟩
  have gCMachine : GVal mg "Machine" (.ref CMachine) := ⟨_, PySem.W.mg_of X G aCMachine, rfl⟩
  have noMachineinner : NoAttr K CMachine "inner" := nMachineinner
  have clPrices : Cls K CPrices := ⟨pgPrices, hdPrices, poPrices, saPrices⟩
  have gCPrices : GVal mg "Prices" (.ref CPrices) := ⟨_, PySem.W.mg_of X G aCPrices, rfl⟩
  have noPricesput : NoAttr K CPrices "put" := nPricesput
  have noPricestake : NoAttr K CPrices "take" := nPricestake
  have noPriceschange : NoAttr K CPrices "change" := nPriceschange
  have clCosts : Cls K CCosts := ⟨pgCosts, hdCosts, poCosts, saCosts⟩
  have gCCosts : GVal mg "Costs" (.ref CCosts) := ⟨_, PySem.W.mg_of X G aCCosts, rfl⟩
  have noCostsreader : NoAttr K CCosts "reader" := nCostsreader
  have noCostsprices : NoAttr K CCosts "prices" := nCostsprices
  have noCostsneededones : NoAttr K CCosts "needed_ones" := nCostsneededones
  have noCostsways : NoAttr K CCosts "ways" := nCostsways
  have noCostsat : NoAttr K CCosts "at" := nCostsat
  have clGame : Cls K CGame := ⟨pgGame, hdGame, poGame, saGame⟩
  have gCGame : GVal mg "Game" (.ref CGame) := ⟨_, PySem.W.mg_of X G aCGame, rfl⟩
  have noGamereader : NoAttr K CGame "reader" := nGamereader
  have noGamefirsts : NoAttr K CGame "firsts" := nGamefirsts
  have noGamecosts : NoAttr K CGame "costs" := nGamecosts
  have noGamepairs : NoAttr K CGame "pairs" := nGamepairs
  have noGameendcosts : NoAttr K CGame "end_costs" := nGameendcosts
  have noGameallanswers : NoAttr K CGame "all_answers" := nGameallanswers
  have eBadMachine : ExcC K mg "BadMachine" CBadMachine := ⟨xcBadMachine, PySem.W.mg_of X G aCBadMachine, kpBadMachine, sbBadMachine, tyBadMachine⟩
  have eBadPrices : ExcC K mg "BadPrices" CBadPrices := ⟨xcBadPrices, PySem.W.mg_of X G aCBadPrices, kpBadPrices, sbBadPrices, tyBadPrices⟩
  have eNoTexts : ExcC K mg "NoTexts" CNoTexts := ⟨xcNoTexts, PySem.W.mg_of X G aCNoTexts, kpNoTexts, sbNoTexts, tyNoTexts⟩
  have Fiswhole := fun_mk (st := s_is_whole) liswhole ciswhole kiswhole
  have Fisletter := fun_mk (st := s_is_letter) lisletter cisletter kisletter
  have Fisrow := fun_mk (st := s_is_row) lisrow cisrow kisrow
  have Fismachine := fun_mk (st := s_is_machine) lismachine cismachine kismachine
  have FReader := fun_mk (st := s_Reader_init) lReader cReader kReader
  have FMachine := fun_mk (st := s_Machine_init) lMachine cMachine kMachine
  have FReaderbehind := fun_mk (st := s_Reader_behind) lReaderbehind cReaderbehind kReaderbehind
  have Fwaysof := fun_mk (st := s_ways_of) lwaysof cwaysof kwaysof
  have Fleadingrows := fun_mk (st := s_leading_rows) lleadingrows cleadingrows kleadingrows
  have Fneededrows := fun_mk (st := s_needed_rows) lneededrows cneededrows kneededrows
  have FPrices := fun_mk (st := s_Prices_init) lPrices cPrices kPrices
  have Fputways := fun_mk (st := s_put_ways) lputways cputways kputways
  have FCosts := fun_mk (st := s_Costs_init) lCosts cCosts kCosts
  have FCostsputcost := fun_mk (st := s_Costs_put_cost) lCostsputcost cCostsputcost kCostsputcost
  have FCostsmoves := fun_mk (st := s_Costs_moves) lCostsmoves cCostsmoves kCostsmoves
  have FGameendcost := fun_mk (st := s_Game_end_cost) lGameendcost cGameendcost kGameendcost
  have FGameanswers := fun_mk (st := s_Game_answers) lGameanswers cGameanswers kGameanswers
  have FGame := fun_mk (st := s_Game_init) lGame cGame kGame
  have FGamebest := fun_mk (st := s_Game_best) lGamebest cGamebest kGamebest
  have FGameneed := fun_mk (st := s_Game_need) lGameneed cGameneed kGameneed
  have FGamegreatestprice := fun_mk (st := s_Game_greatest_price) lGamegreatestprice cGamegreatestprice kGamegreatestprice
  have Fneedsecond := fun_mk (st := s_need_second) lneedsecond cneedsecond kneedsecond
  have Fsolved := fun_mk (st := s_solved) lsolved csolved ksolved
  have Fbyletters := fun_mk (st := s_by_letters) lbyletters cbyletters kbyletters
  have Flawbegin := fun_mk (st := s__law_begin) llawbegin clawbegin klawbegin
  have Flawdraw := fun_mk (st := s__law_draw) llawdraw clawdraw klawdraw
  have Flawline := fun_mk (st := s__law_line) llawline clawline klawline
  have Flawupto := fun_mk (st := s__law_upto) llawupto clawupto klawupto
  have Flaw := fun_mk (st := s_law) llaw claw klaw
  refine ⟨PySem.W.fnOf "law" "law" (defArgs s_law) (defBody s_law) (defScope s_law) .none kVlaw dclaw pmlaw anlaw cdlaw ctlaw, fun s v => .of_eq rfl, fun base _ _ => ?_⟩
  have g_is_whole : Glob l.prog w K mg base "is_whole" ["thing", "least", "most"] spWhole 1 := ⟨_, _, ok_whole Fiswhole B, PySem.W.mg_of X G aiswhole, kiswhole, Fiswhole.binds (ps := ["thing", "least", "most"]) fun _ _ _ _ _ _ us hl => match us, hl with | [_, _, _], _ => rfl⟩
  have g_is_letter : Glob l.prog w K mg base "is_letter" ["thing"] spLetter 1 := ⟨_, _, ok_letter Fisletter B gLETTERS, PySem.W.mg_of X G aisletter, kisletter, Fisletter.binds (ps := ["thing"]) fun _ _ _ _ _ _ us hl => match us, hl with | [_], _ => rfl⟩
  have g_is_row : Glob l.prog w K mg base "is_row" ["thing", "many"] spRow 2 := ⟨_, _, ok_row Fisrow B g_is_letter g_is_whole, PySem.W.mg_of X G aisrow, kisrow, Fisrow.binds (ps := ["thing", "many"]) fun _ _ _ _ _ _ us hl => match us, hl with | [_, _], _ => rfl⟩
  have g_is_machine : Glob l.prog w K mg base "is_machine" ["rows", "ends"] spMach 3 := ⟨_, _, ok_machine Fismachine B g_is_row g_is_whole, PySem.W.mg_of X G aismachine, kismachine, Fismachine.binds (ps := ["rows", "ends"]) fun _ _ _ _ _ _ us hl => match us, hl with | [_, _], _ => rfl⟩
  have g_Reader : Cla l.prog w K mg base "Reader" CReader ["self", "rows", "ends"] (spRInit CReader) 1 := ⟨⟨_, _, ok_reader_init FReader B gLETTERS clReader noReadertable noReaderlast, PySem.W.mg_of X G aCReader, ⟨mkReader, inReader, jfReader, kcReader⟩, FReader.binds (ps := ["self", "rows", "ends"]) fun _ _ _ _ _ _ us hl => match us, hl with | [_, _, _], _ => rfl⟩, kcReader⟩
  have g_Machine : Cla l.prog w K mg base "Machine" CMachine ["self", "rows", "ends"] (spMInit CMachine CReader CBadMachine) 4 := ⟨⟨_, _, ok_machine_init FMachine B gCReader gMOSTROWS clMachine noMachineinner (kit_f icReader tyReader wtupleReader rfl) (kit_f icReader tyReader wNoneTypeReader rfl) (kit_f icReader tyReader wlistReader rfl) kit_self ciReader eBadMachine g_is_machine g_Reader, PySem.W.mg_of X G aCMachine, ⟨mkMachine, inMachine, jfMachine, kcMachine⟩, FMachine.binds (ps := ["self", "rows", "ends"]) fun _ _ _ _ _ _ us hl => match us, hl with | [_, _, _], _ => rfl⟩, kcMachine⟩
  have m_Readerbehind : Mth l.prog w K mg base CReader "behind" ["self", "row", "letter"] (spBehind CReader) 1 := ⟨_, _, ok_behind FReaderbehind B clReader noReadertable, ⟨miReaderbehind, mjReaderbehind, kReaderbehind⟩, FReaderbehind.binds (ps := ["self", "row", "letter"]) fun _ _ _ _ _ _ us hl => match us, hl with | [_, _, _], _ => rfl⟩
  have g_ways_of : Glob l.prog w K mg base "ways_of" ["reader"] (spWays CReader) 2 := ⟨_, _, ok_ways Fwaysof B gLETTERS clReader m_Readerbehind, PySem.W.mg_of X G awaysof, kwaysof, Fwaysof.binds (ps := ["reader"]) fun _ _ _ _ _ _ us hl => match us, hl with | [_], _ => rfl⟩
  have g_leading_rows : Glob l.prog w K mg base "leading_rows" ["reader"] (spLead CReader) 2 := ⟨_, _, ok_lead Fleadingrows B gLETTERS clReader noReadertable noReaderlast m_Readerbehind, PySem.W.mg_of X G aleadingrows, kleadingrows, Fleadingrows.binds (ps := ["reader"]) fun _ _ _ _ _ _ us hl => match us, hl with | [_], _ => rfl⟩
  have g_needed_rows : Glob l.prog w K mg base "needed_rows" ["reader"] (spNeeded CReader) 3 := ⟨_, _, ok_needed Fneededrows B g_ways_of g_leading_rows, PySem.W.mg_of X G aneededrows, kneededrows, Fneededrows.binds (ps := ["reader"]) fun _ _ _ _ _ _ us hl => match us, hl with | [_], _ => rfl⟩
  have g_Prices : Cla l.prog w K mg base "Prices" CPrices ["self", "put", "take", "change"] (spPInit CPrices CBadPrices) 2 := ⟨⟨_, _, ok_prices_init FPrices B clPrices noPricesput noPricestake noPriceschange eBadPrices g_is_whole, PySem.W.mg_of X G aCPrices, ⟨mkPrices, inPrices, jfPrices, kcPrices⟩, FPrices.binds (ps := ["self", "put", "take", "change"]) fun _ _ _ _ _ _ us hl => match us, hl with | [_, _, _, _], _ => rfl⟩, kcPrices⟩
  have g_put_ways : Glob l.prog w K mg base "put_ways" ["reader", "rows"] (spPutWays CReader) 2 := ⟨_, _, ok_put_ways Fputways B gLETTERS clReader m_Readerbehind, PySem.W.mg_of X G aputways, kputways, Fputways.binds (ps := ["reader", "rows"]) fun _ _ _ _ _ _ us hl => match us, hl with | [_, _], _ => rfl⟩
  have g_Costs : Cla l.prog w K mg base "Costs" CCosts ["self", "machine", "prices"] (spCInit CCosts CPrices CMachine CReader) 4 := ⟨⟨_, _, ok_costs_init FCosts B clMachine clCosts noMachineinner noCostsreader noCostsprices noCostsneededones noCostsways noCostsat g_needed_rows g_put_ways, PySem.W.mg_of X G aCCosts, ⟨mkCosts, inCosts, jfCosts, kcCosts⟩, FCosts.binds (ps := ["self", "machine", "prices"]) fun _ _ _ _ _ _ us hl => match us, hl with | [_, _, _], _ => rfl⟩, kcCosts⟩
  have m_Costsputcost : Mth l.prog w K mg base CCosts "put_cost" ["self", "row", "other"] (spPutC CCosts CPrices CReader) 1 := ⟨_, _, ok_put_cost FCostsputcost B clCosts clPrices noCostsprices noCostsways noPricesput, ⟨miCostsputcost, mjCostsputcost, kCostsputcost⟩, FCostsputcost.binds (ps := ["self", "row", "other"]) fun _ _ _ _ _ _ us hl => match us, hl with | [_, _, _], _ => rfl⟩
  have m_Costsmoves : Mth l.prog w K mg base CCosts "moves" ["self", "row", "letter"] (spMoves CCosts CPrices CReader) 2 := ⟨_, _, ok_moves FCostsmoves B gLETTERS clCosts clPrices clReader noCostsreader noCostsprices noCostsat noPricestake noPriceschange m_Readerbehind, ⟨miCostsmoves, mjCostsmoves, kCostsmoves⟩, FCostsmoves.binds (ps := ["self", "row", "letter"]) fun _ _ _ _ _ _ us hl => match us, hl with | [_, _, _], _ => rfl⟩
  have m_Gameendcost : Mth l.prog w K mg base CGame "end_cost" ["self", "second"] (spEndCost CGame CCosts CPrices CReader) 2 := ⟨_, _, ok_end_cost FGameendcost B clGame clCosts clReader noGamecosts noCostsneededones noCostsreader noReaderlast m_Costsputcost, ⟨miGameendcost, mjGameendcost, kGameendcost⟩, FGameendcost.binds (ps := ["self", "second"]) fun _ _ _ _ _ _ us hl => match us, hl with | [_, _], _ => rfl⟩
  have m_Gameanswers : Mth l.prog w K mg base CGame "answers" ["self", "second", "letter"] (spAnswers CGame CCosts CPrices CReader) 3 := ⟨_, _, ok_answers FGameanswers B clGame clCosts noGamecosts noCostsneededones m_Costsputcost m_Costsmoves, ⟨miGameanswers, mjGameanswers, kGameanswers⟩, FGameanswers.binds (ps := ["self", "second", "letter"]) fun _ _ _ _ _ _ us hl => match us, hl with | [_, _, _], _ => rfl⟩
  have g_Game : Cla l.prog w K mg base "Game" CGame ["self", "one", "other", "prices"] (spGInit CGame CCosts CPrices CMachine CReader) 6 := ⟨⟨_, _, ok_game_init FGame B gLETTERS clMachine clGame clCosts noMachineinner noGamereader noGamefirsts noGamecosts noGamepairs noGameendcosts noGameallanswers noCostsneededones g_needed_rows g_Costs m_Gameendcost m_Gameanswers, PySem.W.mg_of X G aCGame, ⟨mkGame, inGame, jfGame, kcGame⟩, FGame.binds (ps := ["self", "one", "other", "prices"]) fun _ _ _ _ _ _ us hl => match us, hl with | [_, _, _, _], _ => rfl⟩, kcGame⟩
  have m_Gamebest : Mth l.prog w K mg base CGame "best" ["self", "prices", "after", "heights"] (spBest CGame) 1 := ⟨_, _, ok_best FGamebest B, ⟨miGamebest, mjGamebest, kGamebest⟩, FGamebest.binds (ps := ["self", "prices", "after", "heights"]) fun _ _ _ _ _ _ us hl => match us, hl with | [_, _, _, _], _ => rfl⟩
  have m_Gameneed : Mth l.prog w K mg base CGame "need" ["self", "pair", "heights"] (spNeed CGame CCosts CPrices CReader) 2 := ⟨_, _, ok_need FGameneed B gLETTERS clGame clReader noGamereader noGamefirsts noGameendcosts noGameallanswers noReaderlast m_Readerbehind m_Gamebest, ⟨miGameneed, mjGameneed, kGameneed⟩, FGameneed.binds (ps := ["self", "pair", "heights"]) fun _ _ _ _ _ _ us hl => match us, hl with | [_, _, _], _ => rfl⟩
  have m_Gamegreatestprice : Mth l.prog w K mg base CGame "greatest_price" ["self"] (spGreat CGame CCosts CPrices CReader) 1 := ⟨_, _, ok_great FGamegreatestprice B clGame noGameendcosts noGameallanswers, ⟨miGamegreatestprice, mjGamegreatestprice, kGamegreatestprice⟩, FGamegreatestprice.binds (ps := ["self"]) fun _ _ _ _ _ _ us hl => match us, hl with | [_], _ => rfl⟩
  have g_need_second : Glob l.prog w K mg base "need_second" ["machine"] (spNeedSecond CMachine CReader CNoTexts) 4 := ⟨_, _, ok_need_second Fneedsecond B clMachine noMachineinner eNoTexts g_needed_rows, PySem.W.mg_of X G aneedsecond, kneedsecond, Fneedsecond.binds (ps := ["machine"]) fun _ _ _ _ _ _ us hl => match us, hl with | [_], _ => rfl⟩
  have g_solved : Glob l.prog w K mg base "solved" ["game"] (spSolved CGame CCosts CPrices CReader) 3 := ⟨_, _, ok_solved Fsolved B clGame noGamepairs m_Gamegreatestprice m_Gameneed, PySem.W.mg_of X G asolved, ksolved, Fsolved.binds (ps := ["game"]) fun _ _ _ _ _ _ us hl => match us, hl with | [_], _ => rfl⟩
  have g_by_letters : Glob l.prog w K mg base "by_letters" ["one", "other", "prices"] (spByLet CMachine CReader CPrices CNoTexts) 8 := ⟨_, _, ok_by_letters Fbyletters B clMachine noMachineinner g_need_second g_needed_rows g_solved g_Game, PySem.W.mg_of X G abyletters, kbyletters, Fbyletters.binds (ps := ["one", "other", "prices"]) fun _ _ _ _ _ _ us hl => match us, hl with | [_, _, _], _ => rfl⟩
  have g__law_begin : Glob l.prog w K mg base "_law_begin" ["_law_script"] spBegin 1 := ⟨_, _, ok_begin Flawbegin B, PySem.W.mg_of X G alawbegin, klawbegin, Flawbegin.binds (ps := ["_law_script"]) fun _ _ _ _ _ _ us hl => match us, hl with | [_], _ => rfl⟩
  have g__law_draw : Glob l.prog w K mg base "_law_draw" ["_law_draws", "_law_size"] spDraw 1 := ⟨_, _, ok_draw Flawdraw B, PySem.W.mg_of X G alawdraw, klawdraw, Flawdraw.binds (ps := ["_law_draws", "_law_size"]) fun _ _ _ _ _ _ us hl => match us, hl with | [_, _], _ => rfl⟩
  have g__law_line : Glob l.prog w K mg base "_law_line" ["_law_letters", "_law_size"] (spLine CMachine CReader) 6 := ⟨_, _, ok_line Flawline B g_Machine, PySem.W.mg_of X G alawline, klawline, Flawline.binds (ps := ["_law_letters", "_law_size"]) fun _ _ _ _ _ _ us hl => match us, hl with | [_, _], _ => rfl⟩
  have g__law_upto : Glob l.prog w K mg base "_law_upto" ["_law_size"] (spUpto CMachine CReader) 6 := ⟨_, _, ok_upto Flawupto B g_Machine, PySem.W.mg_of X G alawupto, klawupto, Flawupto.binds (ps := ["_law_size"]) fun _ _ _ _ _ _ us hl => match us, hl with | [_], _ => rfl⟩
  exact ok_law Flaw B g__law_begin g__law_draw g_Prices g__law_line g__law_upto g_by_letters g_Machine
theorem walk {l : PySem.W.OpenLaw} {q : Program} {loose : List Str} {XP : (Str → Option Value) → Heap → Prop} {YP : World → Heap → Prop} {d : DefRec} {K : Params → PySem.W.Frag} (hn : l.most = some 63) (hdf : d.params.defaults = [])
    (hY : ∀ (w : World) (h : Heap), YP w h → (K w.params).In h)
    (F : ∀ (w : World) (mg : Str → Option Value) (fa : Addr) (h : Heap), (K w.params).In h → h.Ns mainGlobals mg → mg d.name = some (.ref fa) →
      ∃ fd : FuncData, (∀ (s : Shared) (u : Value), BindsTo s fd ⟨[u], []⟩ [("_law_script", u)]) ∧ ∀ base : Heap, (K w.params).In base → base.Ns mainGlobals mg → FnOk l.prog w (K w.params) mg base (L2.CX l.prog w) 9 fa fd ["_law_script"] (TSp (K w.params) spLaw)) :
    PySem.W.WalkO q loose XP YP l.row.toRowW d [] (fun f vs => PySem.call f vs) := by
  refine L2.walk_of (n := 63) (k := 9) (x := "_law_script") (CX := fun w => L2.CX l.prog w) (sp := fun w => TSp (K w.params) spLaw) hn (by decide) hdf ⟨rfl, by decide, by decide⟩ hY F (fun w H a ns hl _ hS => ?_) ?_
  · have e : (ns.map V.int).map D.v = ns.map D.int := by
      rw [List.map_map]
      rfl
    refine ⟨H, H, [.sq (ns.map D.int)], [], fun d _ => d = .bl true, fun _ _ => False, .cons (.sq hS ?_) .nil, ⟨Same.refl _, Same.refl _, Same.refl _, fun _ _ _ _ h => h, fun _ h => (nomatch h), List.nodup_nil, .nil⟩, ⟨ns, rfl, hl, rfl, rfl⟩, fun d L' v F' H' k _ r => ?_, fun _ _ _ _ _ _ h => h.elim⟩
    · rw [← e]
      exact RepA.of_flats _
    · subst k
      exact r.flat
  · intro w H s e s' h
    obtain ⟨_, _, _, _, _, _, _, _, _, _, _, _, z⟩ := h
    exact z
end
end Rk10

open PySem PySem.W PyProof.Rows in
set_option maxRecDepth 100000 in
set_option maxHeartbeats 0 in
theorem PySem.Challenge.cw_repairscost_k10_whole_known_machines_holds : PySem.Challenge.rw_repairscost_k10_whole_known_machines.Holds := by
  w_on; o_law; k_head; (case hw => w_witness2)
  k_fill
  refine Rk10.walk (l := PySem.Challenge.rw_repairscost_k10_whole_known_machines) rfl rfl (fun w h Y => PySem.W.kIn_of Y) ?F
  case F =>
    intro w mg fa h KX G hmg
    refine' Rk10.all_mk KX G hmg ?aiswhole ?liswhole ?ciswhole ?kiswhole ?aisletter ?lisletter ?cisletter ?kisletter ?aisrow ?lisrow ?cisrow ?kisrow ?aismachine ?lismachine ?cismachine ?kismachine ?awaysof ?lwaysof ?cwaysof ?kwaysof ?aleadingrows ?lleadingrows ?cleadingrows ?kleadingrows ?aneededrows ?lneededrows ?cneededrows ?kneededrows ?aputways ?lputways ?cputways ?kputways ?aneedsecond ?lneedsecond ?cneedsecond ?kneedsecond ?asolved ?lsolved ?csolved ?ksolved ?abyletters ?lbyletters ?cbyletters ?kbyletters ?alawbegin ?llawbegin ?clawbegin ?klawbegin ?alawdraw ?llawdraw ?clawdraw ?klawdraw ?alawline ?llawline ?clawline ?klawline ?alawupto ?llawupto ?clawupto ?klawupto ?alaw ?llaw ?claw ?klaw ?aCReader ?pgReader ?hdReader ?poReader ?saReader ?nReadertable ?nReaderlast ?chaReader ?chmReader ?icReader ?tyReader ?aCMachine ?pgMachine ?hdMachine ?poMachine ?saMachine ?nMachineinner ?aCPrices ?pgPrices ?hdPrices ?poPrices ?saPrices ?nPricesput ?nPricestake ?nPriceschange ?aCCosts ?pgCosts ?hdCosts ?poCosts ?saCosts ?nCostsreader ?nCostsprices ?nCostsneededones ?nCostsways ?nCostsat ?aCGame ?pgGame ?hdGame ?poGame ?saGame ?nGamereader ?nGamefirsts ?nGamecosts ?nGamepairs ?nGameendcosts ?nGameallanswers ?chn ?cht ?wtupleReader ?wNoneTypeReader ?wlistReader ?inReader ?jfReader ?mkReader ?kcReader ?lReader ?cReader ?kReader ?inMachine ?jfMachine ?mkMachine ?kcMachine ?lMachine ?cMachine ?kMachine ?miReaderbehind ?mjReaderbehind ?lReaderbehind ?cReaderbehind ?kReaderbehind ?inPrices ?jfPrices ?mkPrices ?kcPrices ?lPrices ?cPrices ?kPrices ?inCosts ?jfCosts ?mkCosts ?kcCosts ?lCosts ?cCosts ?kCosts ?miCostsputcost ?mjCostsputcost ?lCostsputcost ?cCostsputcost ?kCostsputcost ?miCostsmoves ?mjCostsmoves ?lCostsmoves ?cCostsmoves ?kCostsmoves ?miGameendcost ?mjGameendcost ?lGameendcost ?cGameendcost ?kGameendcost ?miGameanswers ?mjGameanswers ?lGameanswers ?cGameanswers ?kGameanswers ?inGame ?jfGame ?mkGame ?kcGame ?lGame ?cGame ?kGame ?miGamebest ?mjGamebest ?lGamebest ?cGamebest ?kGamebest ?miGameneed ?mjGameneed ?lGameneed ?cGameneed ?kGameneed ?miGamegreatestprice ?mjGamegreatestprice ?lGamegreatestprice ?cGamegreatestprice ?kGamegreatestprice ?aCBadMachine ?aCBadPrices ?aCNoTexts ?xcBadMachine ?xcBadPrices ?xcNoTexts ?kpBadMachine ?sbBadMachine ?tyBadMachine ?kpBadPrices ?sbBadPrices ?tyBadPrices ?kpNoTexts ?sbNoTexts ?tyNoTexts ?vMOSTROWS ?vLETTERS ?lLETTERS ?rLETTERS ?zlen ?zisinstance ?zrange ?zint ?zstr ?zall ?zany ?zmin ?zmax ?ztuple ?zlist ?zdict ?zzip ?zenumerate ?zsum ?zsorted ?zbool
    (case aiswhole => k_is)
    (case liswhole => k_is)
    (case ciswhole => k_is)
    (case kiswhole => k_is)
    (case aisletter => k_is)
    (case lisletter => k_is)
    (case cisletter => k_is)
    (case kisletter => k_is)
    (case aisrow => k_is)
    (case lisrow => k_is)
    (case cisrow => k_is)
    (case kisrow => k_is)
    (case aismachine => k_is)
    (case lismachine => k_is)
    (case cismachine => k_is)
    (case kismachine => k_is)
    (case awaysof => k_is)
    (case lwaysof => k_is)
    (case cwaysof => k_is)
    (case kwaysof => k_is)
    (case aleadingrows => k_is)
    (case lleadingrows => k_is)
    (case cleadingrows => k_is)
    (case kleadingrows => k_is)
    (case aneededrows => k_is)
    (case lneededrows => k_is)
    (case cneededrows => k_is)
    (case kneededrows => k_is)
    (case aputways => k_is)
    (case lputways => k_is)
    (case cputways => k_is)
    (case kputways => k_is)
    (case aneedsecond => k_is)
    (case lneedsecond => k_is)
    (case cneedsecond => k_is)
    (case kneedsecond => k_is)
    (case asolved => k_is)
    (case lsolved => k_is)
    (case csolved => k_is)
    (case ksolved => k_is)
    (case abyletters => k_is)
    (case lbyletters => k_is)
    (case cbyletters => k_is)
    (case kbyletters => k_is)
    (case alawbegin => k_is)
    (case llawbegin => k_is)
    (case clawbegin => k_is)
    (case klawbegin => k_is)
    (case alawdraw => k_is)
    (case llawdraw => k_is)
    (case clawdraw => k_is)
    (case klawdraw => k_is)
    (case alawline => k_is)
    (case llawline => k_is)
    (case clawline => k_is)
    (case klawline => k_is)
    (case alawupto => k_is)
    (case llawupto => k_is)
    (case clawupto => k_is)
    (case klawupto => k_is)
    (case alaw => k_is)
    (case llaw => k_is)
    (case claw => k_is)
    (case klaw => k_is)
    (case aCReader => k_is)
    (case pgReader => k_is)
    (case hdReader => k_is)
    (case poReader => k_is)
    (case saReader => k_is)
    (case nReadertable => k_is)
    (case nReaderlast => k_is)
    (case chaReader => k_is)
    (case chmReader => k_is)
    (case icReader => k_is)
    (case tyReader => k_is)
    (case aCMachine => k_is)
    (case pgMachine => k_is)
    (case hdMachine => k_is)
    (case poMachine => k_is)
    (case saMachine => k_is)
    (case nMachineinner => k_is)
    (case aCPrices => k_is)
    (case pgPrices => k_is)
    (case hdPrices => k_is)
    (case poPrices => k_is)
    (case saPrices => k_is)
    (case nPricesput => k_is)
    (case nPricestake => k_is)
    (case nPriceschange => k_is)
    (case aCCosts => k_is)
    (case pgCosts => k_is)
    (case hdCosts => k_is)
    (case poCosts => k_is)
    (case saCosts => k_is)
    (case nCostsreader => k_is)
    (case nCostsprices => k_is)
    (case nCostsneededones => k_is)
    (case nCostsways => k_is)
    (case nCostsat => k_is)
    (case aCGame => k_is)
    (case pgGame => k_is)
    (case hdGame => k_is)
    (case poGame => k_is)
    (case saGame => k_is)
    (case nGamereader => k_is)
    (case nGamefirsts => k_is)
    (case nGamecosts => k_is)
    (case nGamepairs => k_is)
    (case nGameendcosts => k_is)
    (case nGameallanswers => k_is)
    (case chn => k_is)
    (case cht => k_is)
    (case wtupleReader => k_is)
    (case wNoneTypeReader => k_is)
    (case wlistReader => k_is)
    (case inReader => k_is)
    (case jfReader => k_is)
    (case mkReader => k_is)
    (case kcReader => k_is)
    (case lReader => k_is)
    (case cReader => k_is)
    (case kReader => k_is)
    (case inMachine => k_is)
    (case jfMachine => k_is)
    (case mkMachine => k_is)
    (case kcMachine => k_is)
    (case lMachine => k_is)
    (case cMachine => k_is)
    (case kMachine => k_is)
    (case miReaderbehind => k_is)
    (case mjReaderbehind => k_is)
    (case lReaderbehind => k_is)
    (case cReaderbehind => k_is)
    (case kReaderbehind => k_is)
    (case inPrices => k_is)
    (case jfPrices => k_is)
    (case mkPrices => k_is)
    (case kcPrices => k_is)
    (case lPrices => k_is)
    (case cPrices => k_is)
    (case kPrices => k_is)
    (case inCosts => k_is)
    (case jfCosts => k_is)
    (case mkCosts => k_is)
    (case kcCosts => k_is)
    (case lCosts => k_is)
    (case cCosts => k_is)
    (case kCosts => k_is)
    (case miCostsputcost => k_is)
    (case mjCostsputcost => k_is)
    (case lCostsputcost => k_is)
    (case cCostsputcost => k_is)
    (case kCostsputcost => k_is)
    (case miCostsmoves => k_is)
    (case mjCostsmoves => k_is)
    (case lCostsmoves => k_is)
    (case cCostsmoves => k_is)
    (case kCostsmoves => k_is)
    (case miGameendcost => k_is)
    (case mjGameendcost => k_is)
    (case lGameendcost => k_is)
    (case cGameendcost => k_is)
    (case kGameendcost => k_is)
    (case miGameanswers => k_is)
    (case mjGameanswers => k_is)
    (case lGameanswers => k_is)
    (case cGameanswers => k_is)
    (case kGameanswers => k_is)
    (case inGame => k_is)
    (case jfGame => k_is)
    (case mkGame => k_is)
    (case kcGame => k_is)
    (case lGame => k_is)
    (case cGame => k_is)
    (case kGame => k_is)
    (case miGamebest => k_is)
    (case mjGamebest => k_is)
    (case lGamebest => k_is)
    (case cGamebest => k_is)
    (case kGamebest => k_is)
    (case miGameneed => k_is)
    (case mjGameneed => k_is)
    (case lGameneed => k_is)
    (case cGameneed => k_is)
    (case kGameneed => k_is)
    (case miGamegreatestprice => k_is)
    (case mjGamegreatestprice => k_is)
    (case lGamegreatestprice => k_is)
    (case cGamegreatestprice => k_is)
    (case kGamegreatestprice => k_is)
    (case aCBadMachine => k_is)
    (case aCBadPrices => k_is)
    (case aCNoTexts => k_is)
    (case xcBadMachine => k_exc)
    (case xcBadPrices => k_exc)
    (case xcNoTexts => k_exc)
    (case kpBadMachine => k_is)
    (case sbBadMachine => k_is)
    (case tyBadMachine => k_is)
    (case kpBadPrices => k_is)
    (case sbBadPrices => k_is)
    (case tyBadPrices => k_is)
    (case kpNoTexts => k_is)
    (case sbNoTexts => k_is)
    (case tyNoTexts => k_is)
    (case vMOSTROWS => k_is)
    (case vLETTERS => k_is)
    (case lLETTERS => k_is)
    (case rLETTERS => exact .cons ⟨_, rfl⟩ (.cons ⟨_, rfl⟩ (.cons ⟨_, rfl⟩ (.nil))))
    (case zlen => k_is)
    (case zisinstance => k_is)
    (case zrange => k_is)
    (case zint => k_is)
    (case zstr => k_is)
    (case zall => k_is)
    (case zany => k_is)
    (case zmin => k_is)
    (case zmax => k_is)
    (case ztuple => k_is)
    (case zlist => k_is)
    (case zdict => k_is)
    (case zzip => k_is)
    (case zenumerate => k_is)
    (case zsum => k_is)
    (case zsorted => k_is)
    (case zbool => k_is)

