import PyProof.Rows.All
import Wide.All
import OpenK.AllK
import Wide.FinOn
import HandS.ForMost
import HandS.Exc
import HandS.ExcOwn
import HandS.TryOnly
import HandS.IsInst
import HandS.Zip
import HandS.TryMany
import HandS.WordsExc
import HandS.ExcInit
import HandS.ExcField
import HandS.NoneIn
import HandS.DictComp
import HandS.TupAny
import HandS.Iter
import HandS.Walk
import HandS.TupMul
import KE.KDictZip
import HandS.Style
import HandS.FStr
import KE.GoesMore
import KE.GoesEnum
import PyProof.P3Eq
import HandS.More
import HandS.SortInts
import HandS.Conv
import HandS.SortRule
import HandS.HeadHook3
import HandS.Deep
import KE.KDictKeyed
import HandS.DictTup
import HandS.TupLen
import KE.KDictDisplayH
import HandS.Text
import KE.KRevSl
import PyProof.DictTruth
import HandS.Flt
import KE.KDictCopyH
import HandS.SlotsOwn
import HandS.TupSets
import PySem.Challenge.RW_repairscost_k01_whole_machines
set_option Elab.async false
set_option maxRecDepth 100000
set_option maxHeartbeats 0
set_option linter.all false
namespace TL
open PySem L2
/-- a datum: an exact flat value, or what stands (for good) at an address -/
inductive D where
  | v (x : V)
  | tup (ds : List D)
  | ctup (ds : List D)
  | lst (ds : List D)
  | sq (ds : List D)
  | dK (kvs : List (Key × D))
  | dT (kvs : List (List Key × D))
  | ob (C : Addr) (fs : List (Str × D))
@[reducible] def D.int (i : Int) : D := .v (.int i)
@[reducible] def D.str (z : Str) : D := .v (.str z)
@[reducible] def D.bl (b : Bool) : D := .v (.bl b)
@[reducible] def D.non : D := .v .non
@[reducible] def D.ref (a : Addr) : D := .v (.ref a)
mutual
inductive Rep (K : PySem.W.Frag) (F : Hp) : D → V → Prop
  | v (x : V) : Rep K F (.v x) x
  | tup {ds : List D} {p : Addr} {vs : List V} : F p = some (.tup vs) → RepA K F ds vs → Rep K F (.tup ds) (.ref p)
  | ctup {ds : List D} {p : Addr} {vs : List V} : SqT K F p vs → RepA K F ds vs → Rep K F (.ctup ds) (.ref p)
  | lst {ds : List D} {p : Addr} {vs : List V} : F p = some (.lst vs) → RepA K F ds vs → Rep K F (.lst ds) (.ref p)
  | sq {ds : List D} {p : Addr} {vs : List V} : SqL K F p vs → RepA K F ds vs → Rep K F (.sq ds) (.ref p)
  | dK {kvs : List (Key × D)} {p : Addr} {ws : List (Key × V)} : Rd F p (.dK ws) → RepK K F kvs ws → Rep K F (.dK kvs) (.ref p)
  | dT {kvs : List (List Key × D)} {p : Addr} {ws : List (List Key × V)} : Rd F p (.dT ws) → RepT K F kvs ws → Rep K F (.dT kvs) (.ref p)
  | ob {C : Addr} {fs : List (Str × D)} {p dx : Addr} {ws : List (Str × V)} : F p = some (.ins C dx ws) → RepF K F fs ws → Rep K F (.ob C fs) (.ref p)
inductive RepA (K : PySem.W.Frag) (F : Hp) : List D → List V → Prop
  | nil : RepA K F [] []
  | cons {d : D} {v : V} {ds : List D} {vs : List V} : Rep K F d v → RepA K F ds vs → RepA K F (d :: ds) (v :: vs)
inductive RepK (K : PySem.W.Frag) (F : Hp) : List (Key × D) → List (Key × V) → Prop
  | nil : RepK K F [] []
  | cons {k : Key} {d : D} {v : V} {ds : List (Key × D)} {vs : List (Key × V)} : Rep K F d v → RepK K F ds vs → RepK K F ((k, d) :: ds) ((k, v) :: vs)
inductive RepT (K : PySem.W.Frag) (F : Hp) : List (List Key × D) → List (List Key × V) → Prop
  | nil : RepT K F [] []
  | cons {k : List Key} {d : D} {v : V} {ds : List (List Key × D)} {vs : List (List Key × V)} : Rep K F d v → RepT K F ds vs → RepT K F ((k, d) :: ds) ((k, v) :: vs)
inductive RepF (K : PySem.W.Frag) (F : Hp) : List (Str × D) → List (Str × V) → Prop
  | nil : RepF K F [] []
  | cons {k : Str} {d : D} {v : V} {ds : List (Str × D)} {vs : List (Str × V)} : Rep K F d v → RepF K F ds vs → RepF K F ((k, d) :: ds) ((k, v) :: vs)
end
section
variable {K : PySem.W.Frag} {F F' : Hp}
/-- all that data leans on is kept -/
structure Kp (F F' : Hp) : Prop where
  rd : ∀ a u, (∀ o v, u ≠ .frz o v) → Rd F a u → Rd F' a u
  lst : ∀ a xs, F a = some (.lst xs) → F' a = some (.lst xs)
  tup : ∀ a xs, F a = some (.tup xs) → F' a = some (.tup xs)
  ins : ∀ a C dx fs, F a = some (.ins C dx fs) → F' a = some (.ins C dx fs)
theorem Kp.same {F F' : Hp} (e : Same F F') : Kp F F' :=
  ⟨fun a u _ h => h.elim (fun h => .inl (e _ _ h)) fun ⟨o, h⟩ => .inr ⟨o, e _ _ h⟩, fun a xs h => e _ _ h, fun a xs h => e _ _ h, fun a C dx fs h => e _ _ h⟩
theorem sqT_keep {p : Addr} {vs : List V} (e : Kp F F') (h : SqT K F p vs) : SqT K F' p vs := h.elim (fun h => .inl (e.rd _ _ (fun _ _ z => nomatch z) h)) .inr
theorem sqT_mono {p : Addr} {vs : List V} (e : Same F F') (h : SqT K F p vs) : SqT K F' p vs := sqT_keep (.same e) h
theorem sqL_keep {p : Addr} {vs : List V} (e : Kp F F') (h : SqL K F p vs) : SqL K F' p vs := h.elim (fun h => .inl (e.rd _ _ (fun _ _ z => nomatch z) h)) .inr
theorem Kp.dK (e : Kp F F') {p : Addr} {ws : List (Key × V)} (h : Rd F p (.dK ws)) : Rd F' p (.dK ws) := e.rd _ _ (fun _ _ z => nomatch z) h
theorem Kp.dT (e : Kp F F') {p : Addr} {ws : List (List Key × V)} (h : Rd F p (.dT ws)) : Rd F' p (.dT ws) := e.rd _ _ (fun _ _ z => nomatch z) h
mutual
theorem Rep.keep (e : Kp F F') : ∀ {d : D} {v : V}, Rep K F d v → Rep K F' d v
  | _, _, .v x => .v x
  | _, _, .tup h r => .tup (e.tup _ _ h) (RepA.keep e r)
  | _, _, .ctup h r => .ctup (sqT_keep e h) (RepA.keep e r)
  | _, _, .lst h r => .lst (e.lst _ _ h) (RepA.keep e r)
  | _, _, .sq h r => .sq (sqL_keep e h) (RepA.keep e r)
  | _, _, .dK h r => .dK (e.dK h) (RepK.keep e r)
  | _, _, .dT h r => .dT (e.dT h) (RepT.keep e r)
  | _, _, .ob h r => .ob (e.ins _ _ _ _ h) (RepF.keep e r)
theorem RepA.keep (e : Kp F F') : ∀ {d : List D} {v : List V}, RepA K F d v → RepA K F' d v
  | _, _, .nil => .nil
  | _, _, .cons h t => .cons (Rep.keep e h) (RepA.keep e t)
theorem RepK.keep (e : Kp F F') : ∀ {d : List (Key × D)} {v : List (Key × V)}, RepK K F d v → RepK K F' d v
  | _, _, .nil => .nil
  | _, _, .cons h t => .cons (Rep.keep e h) (RepK.keep e t)
theorem RepT.keep (e : Kp F F') : ∀ {d : List (List Key × D)} {v : List (List Key × V)}, RepT K F d v → RepT K F' d v
  | _, _, .nil => .nil
  | _, _, .cons h t => .cons (Rep.keep e h) (RepT.keep e t)
theorem RepF.keep (e : Kp F F') : ∀ {d : List (Str × D)} {v : List (Str × V)}, RepF K F d v → RepF K F' d v
  | _, _, .nil => .nil
  | _, _, .cons h t => .cons (Rep.keep e h) (RepF.keep e t)
end
theorem Rep.mono (e : Same F F') {d : D} {v : V} (h : Rep K F d v) : Rep K F' d v := Rep.keep (.same e) h
theorem RepA.mono (e : Same F F') {d : List D} {v : List V} (h : RepA K F d v) : RepA K F' d v := RepA.keep (.same e) h
theorem RepK.mono (e : Same F F') {d : List (Key × D)} {v : List (Key × V)} (h : RepK K F d v) : RepK K F' d v := RepK.keep (.same e) h
theorem RepT.mono (e : Same F F') {d : List (List Key × D)} {v : List (List Key × V)} (h : RepT K F d v) : RepT K F' d v := RepT.keep (.same e) h
theorem RepF.mono (e : Same F F') {d : List (Str × D)} {v : List (Str × V)} (h : RepF K F d v) : RepF K F' d v := RepF.keep (.same e) h
theorem Rep.flat {x v : V} (h : Rep K F (.v x) v) : v = x := by cases h; rfl
theorem RepA.length : ∀ {ds : List D} {vs : List V}, RepA K F ds vs → ds.length = vs.length
  | _, _, .nil => rfl
  | _, _, .cons _ t => by simp [RepA.length t]
theorem RepA.get : ∀ {ds : List D} {vs : List V} {i : Nat} {d : D}, RepA K F ds vs → ds[i]? = some d → ∃ v, vs[i]? = some v ∧ Rep K F d v
  | _, _, _, _, .nil, e => by simp at e
  | _, _, 0, _, .cons r _, e => by simp at e; subst e; exact ⟨_, rfl, r⟩
  | _, _, i + 1, _, .cons _ t, e => by
    obtain ⟨v, h1, h2⟩ := RepA.get (i := i) t (by simpa using e)
    exact ⟨v, by simpa using h1, h2⟩
theorem RepA.append : ∀ {ds es : List D} {vs ws : List V}, RepA K F ds vs → RepA K F es ws → RepA K F (ds ++ es) (vs ++ ws)
  | _, _, _, _, .nil, s => s
  | _, _, _, _, .cons r t, s => .cons r (RepA.append t s)
theorem RepA.snoc {ds : List D} {vs : List V} {d : D} {v : V} (h : RepA K F ds vs) (r : Rep K F d v) : RepA K F (ds ++ [d]) (vs ++ [v]) := h.append (.cons r .nil)
theorem RepA.take : ∀ {ds : List D} {vs : List V} (n : Nat), RepA K F ds vs → RepA K F (ds.take n) (vs.take n)
  | _, _, 0, _ => .nil
  | _, _, _ + 1, .nil => .nil
  | _, _, n + 1, .cons r t => .cons r (RepA.take n t)
theorem RepA.drop : ∀ {ds : List D} {vs : List V} (n : Nat), RepA K F ds vs → RepA K F (ds.drop n) (vs.drop n)
  | _, _, 0, h => h
  | _, _, _ + 1, .nil => .nil
  | _, _, n + 1, .cons _ t => RepA.drop n t
theorem RepA.set : ∀ {ds : List D} {vs : List V} {d : D} {v : V} (i : Nat), RepA K F ds vs → Rep K F d v → RepA K F (ds.set i d) (vs.set i v)
  | _, _, _, _, _, .nil, _ => .nil
  | _, _, _, _, 0, .cons _ t, r => .cons r t
  | _, _, _, _, i + 1, .cons q t, r => .cons q (RepA.set i t r)
theorem RepA.erase : ∀ {ds : List D} {vs : List V} (i : Nat), RepA K F ds vs → RepA K F (ds.eraseIdx i) (vs.eraseIdx i)
  | _, _, _, .nil => .nil
  | _, _, 0, .cons _ t => t
  | _, _, i + 1, .cons q t => .cons q (RepA.erase i t)
theorem RepA.flats : ∀ {xs : List V} {vs : List V}, RepA K F (xs.map D.v) vs → vs = xs
  | [], _, .nil => rfl
  | _ :: _, _, .cons r t => by rw [r.flat, RepA.flats t]
theorem RepA.of_flats : ∀ (xs : List V), RepA K F (xs.map D.v) xs
  | [] => .nil
  | x :: xs => .cons (.v x) (RepA.of_flats xs)
theorem RepF.lookup : ∀ {fs : List (Str × D)} {ws : List (Str × V)} {f : Str} {d : D}, RepF K F fs ws → fs.lookup f = some d → ∃ v, ws.lookup f = some v ∧ Rep K F d v
  | _, _, _, _, .nil, e => by simp at e
  | (k, d) :: fs, (_, v) :: ws, f, d', .cons r t, e => by
    rw [List.lookup_cons] at e ⊢
    cases q : f == k with
    | true => rw [q] at e; simp at e; subst e; exact ⟨v, rfl, r⟩
    | false => rw [q] at e; simp at e; exact RepF.lookup t e
theorem RepF.lookup_none : ∀ {fs : List (Str × D)} {ws : List (Str × V)} {f : Str}, RepF K F fs ws → fs.lookup f = none → ws.lookup f = none
  | _, _, _, .nil, _ => rfl
  | (k, d) :: fs, (_, v) :: ws, f, .cons r t, e => by
    rw [List.lookup_cons] at e ⊢
    cases q : f == k with
    | true => rw [q] at e; cases e
    | false => rw [q] at e; exact RepF.lookup_none t e
theorem RepF.length : ∀ {ds : List (Str × D)} {vs : List (Str × V)}, RepF K F ds vs → ds.length = vs.length
  | _, _, .nil => rfl
  | _, _, .cons _ t => by simp [RepF.length t]
/-- a field stored, on data -/
def putD (f : Str) (d : D) : List (Str × D) → List (Str × D)
  | [] => [(f, d)]
  | (g, x) :: r => if g = f then (g, d) :: r else (g, x) :: putD f d r
theorem RepF.put {f : Str} {d : D} {v : V} (r : Rep K F d v) : ∀ {fs : List (Str × D)} {ws : List (Str × V)}, RepF K F fs ws → RepF K F (putD f d fs) (putF f v ws)
  | _, _, .nil => .cons r .nil
  | (g, x) :: fs, (_, y) :: ws, .cons q t => by
    show RepF K F (if g = f then (g, d) :: fs else (g, x) :: putD f d fs) (if g = f then (g, v) :: ws else (g, y) :: putF f v ws)
    by_cases h : g = f
    · rw [if_pos h, if_pos h]; exact .cons r t
    · rw [if_neg h, if_neg h]; exact .cons q (RepF.put r t)
end
inductive OW where
  | lst (ds : List D)
  | dK (kvs : List (Key × D))
  | dT (kvs : List (List Key × D))
  | ins (C : Addr) (fs : List (Str × D))
  | ext (l : Addr) (φ : Heap → Prop) (kb : List (Addr × List D))
abbrev Led := List (Addr × OW)
inductive OwnAt (K : PySem.W.Frag) (F H : Hp) : Addr → OW → Prop
  | lst {l : Addr} {ds : List D} {vs : List V} : H l = some (.lst vs) → RepA K F ds vs → OwnAt K F H l (.lst ds)
  | dK {l : Addr} {kvs : List (Key × D)} {ws : List (Key × V)} : H l = some (.dK ws) → RepK K F kvs ws → OwnAt K F H l (.dK kvs)
  | dT {l : Addr} {kvs : List (List Key × D)} {ws : List (List Key × V)} : H l = some (.dT ws) → RepT K F kvs ws → OwnAt K F H l (.dT kvs)
  | ins {l C dx : Addr} {fs : List (Str × D)} {ws : List (Str × V)} : H l = some (.ins C dx ws) → RepF K F fs ws → OwnAt K F H l (.ins C fs)
  | ext {l : Addr} {φ : Heap → Prop} {kb : List (Addr × List D)} : H l = some (.ext φ) → (∀ e ∈ kb, Rep K F (.tup e.2) (.ref e.1)) → OwnAt K F H l (.ext l φ kb)
theorem OwnAt.mono {K : PySem.W.Frag} {F F' H H' : Hp} {l : Addr} {o : OW} (e : Same F F') (h : ∀ u, H l = some u → H' l = some u) (x : OwnAt K F H l o) : OwnAt K F' H' l o := by
  cases x with
  | lst a r => exact .lst (h _ a) (r.mono e)
  | dK a r => exact .dK (h _ a) (r.mono e)
  | dT a r => exact .dT (h _ a) (r.mono e)
  | ins a r => exact .ins (h _ a) (r.mono e)
  | ext a r => exact .ext (h _ a) fun z hz => (r z hz).mono e
theorem OwnAt.there {K : PySem.W.Frag} {F H : Hp} {l : Addr} {o : OW} (x : OwnAt K F H l o) : ∃ u, H l = some u := by
  cases x with
  | lst a r => exact ⟨_, a⟩
  | dK a r => exact ⟨_, a⟩
  | dT a r => exact ⟨_, a⟩
  | ins a r => exact ⟨_, a⟩
  | ext a r => exact ⟨_, a⟩
theorem OwnAt.notTup {K : PySem.W.Frag} {F H : Hp} {l : Addr} {o : OW} {u : HO} (x : OwnAt K F H l o) (hu : H l = some u) : ∀ vs, u ≠ .tup vs := by
  intro vs e
  subst e
  cases x with
  | lst a r => rw [hu] at a; cases a
  | dK a r => rw [hu] at a; cases a
  | dT a r => rw [hu] at a; cases a
  | ins a r => rw [hu] at a; cases a
  | ext a r => rw [hu] at a; cases a
/-- what a frozen own object is as data -/
def OW.frz : OW → D
  | .lst ds => .lst ds
  | .dK kvs => .dK kvs
  | .dT kvs => .dT kvs
  | .ins C fs => .ob C fs
  | .ext l _ _ => .v (.ref l)
/-- slots -/
inductive RepS (K : PySem.W.Frag) (F : Hp) : List (Option D) → St → Prop
  | nil : RepS K F [] []
  | any {v : Option V} {g : List (Option D)} {σ : St} : RepS K F g σ → RepS K F (none :: g) (v :: σ)
  | val {d : D} {v : V} {g : List (Option D)} {σ : St} : Rep K F d v → RepS K F g σ → RepS K F (some d :: g) (some v :: σ)
section
variable {K : PySem.W.Frag} {F F' : Hp}
theorem RepS.keep (e : Kp F F') : ∀ {g : List (Option D)} {σ : St}, RepS K F g σ → RepS K F' g σ
  | _, _, .nil => .nil
  | _, _, .any t => .any (RepS.keep e t)
  | _, _, .val r t => .val (r.keep e) (RepS.keep e t)
theorem RepS.mono (e : Same F F') {g : List (Option D)} {σ : St} (h : RepS K F g σ) : RepS K F' g σ := RepS.keep (.same e) h
theorem RepS.length : ∀ {g : List (Option D)} {σ : St}, RepS K F g σ → g.length = σ.length
  | _, _, .nil => rfl
  | _, _, .any t => by simp [RepS.length t]
  | _, _, .val r t => by simp [RepS.length t]
theorem RepS.get : ∀ {g : List (Option D)} {σ : St} {i : Nat} {d : D}, RepS K F g σ → g[i]? = some (some d) → ∃ v, σ[i]? = some (some v) ∧ Rep K F d v
  | _, _, _, _, .nil, e => by simp at e
  | _, _, 0, _, .any _, e => by simp at e
  | _, _, 0, _, .val r _, e => by simp at e; subst e; exact ⟨_, rfl, r⟩
  | _, _, i + 1, _, .any t, e => by
    obtain ⟨v, h1, h2⟩ := RepS.get (i := i) t (by simpa using e)
    exact ⟨v, by simpa using h1, h2⟩
  | _, _, i + 1, _, .val _ t, e => by
    obtain ⟨v, h1, h2⟩ := RepS.get (i := i) t (by simpa using e)
    exact ⟨v, by simpa using h1, h2⟩
theorem RepS.set {d : D} {v : V} (r : Rep K F d v) : ∀ {g : List (Option D)} {σ : St} (i : Nat), RepS K F g σ → RepS K F (g.set i (some d)) (σ.set i (some v))
  | _, _, _, .nil => .nil
  | _, _, 0, .any t => .val r t
  | _, _, 0, .val _ t => .val r t
  | _, _, i + 1, .any t => .any (RepS.set r i t)
  | _, _, i + 1, .val q t => .val q (RepS.set r i t)
theorem RepS.clear {v : Option V} : ∀ {g : List (Option D)} {σ : St} (i : Nat), RepS K F g σ → RepS K F (g.set i none) (σ.set i v)
  | _, _, _, .nil => .nil
  | _, _, 0, .any t => .any t
  | _, _, 0, .val _ t => .any t
  | _, _, i + 1, .any t => .any (RepS.clear i t)
  | _, _, i + 1, .val q t => .val q (RepS.clear i t)
end
/-- THE STATE: H0 what is protected, F0 the frozen part at the entry; F the frozen part now, L the own objects -/
structure At (K : PySem.W.Frag) (H0 F0 : Hp) (G : List (Option D)) (L : Led) (F : Hp) (σ : St) (H : Hp) : Prop where
  ef : Same F0 F
  eh : Same H0 H
  fh : Same F H
  nf : ∀ a o, H0 a = some o → (∀ vs, o ≠ .tup vs) → F0 a = none → F a = none
  own : ∀ p ∈ L, OwnAt K F H p.1 p.2 ∧ F p.1 = none ∧ H0 p.1 = none
  nd : (L.map (·.1)).Nodup
  env : RepS K F G σ
section
variable {K : PySem.W.Frag} {H0 F0 F F' H H' : Hp} {G G' : List (Option D)} {L L' : Led} {σ σ' : St}
theorem At.envOf (a : At K H0 F0 G L F σ H) (e : RepS K F G' σ') : At K H0 F0 G' L F σ' H := ⟨a.ef, a.eh, a.fh, a.nf, a.own, a.nd, e⟩
theorem At.set {i : Nat} {d : D} {v : V} (a : At K H0 F0 G L F σ H) (r : Rep K F d v) : At K H0 F0 (G.set i (some d)) L F (σ.set i (some v)) H := a.envOf (a.env.set r i)
/-- the heap grows by an object that is not tracked by us -/
theorem At.junk {p : Addr} {o : HO} (a : At K H0 F0 G L F σ H) (hp : H p = none) : At K H0 F0 G L F σ (upd H p o) :=
  ⟨a.ef, fun b u e => by rw [upd_ne (ne_of_none (a.eh b u e) hp)]; exact a.eh b u e, fun b u e => by rw [upd_ne (ne_of_none (a.fh b u e) hp)]; exact a.fh b u e, a.nf,
    fun q hq => let ⟨x, y, z⟩ := a.own q hq; ⟨x.mono (Same.refl _) fun u e => by rw [upd_ne (ne_of_none e hp)]; exact e, y, z⟩, a.nd, a.env⟩
theorem At.free {p : Addr} (a : At K H0 F0 G L F σ H) (hp : H p = none) : F p = none ∧ H0 p = none ∧ p ∉ L.map (·.1) := by
  refine ⟨a.fh.free hp, a.eh.free hp, fun h => ?_⟩
  obtain ⟨q, hq, e⟩ := List.mem_map.mp h
  obtain ⟨u, hu⟩ := (a.own q hq).1.there
  rw [e, hp] at hu
  cases hu
/-- a new own object -/
theorem At.new {p : Addr} {o : HO} {w : OW} (a : At K H0 F0 G L F σ H) (hp : H p = none) (x : OwnAt K F (upd H p o) p w) : At K H0 F0 G ((p, w) :: L) F σ (upd H p o) := by
  have b := a.junk (o := o) hp
  obtain ⟨f1, f2, f3⟩ := a.free hp
  exact ⟨b.ef, b.eh, b.fh, b.nf, fun q hq => by
    rcases List.mem_cons.mp hq with rfl | hq
    · exact ⟨x, f1, f2⟩
    · exact b.own q hq, List.nodup_cons.mpr ⟨f3, b.nd⟩, b.env⟩
/-- a new frozen object -/
theorem At.ice {p : Addr} {o : HO} (a : At K H0 F0 G L F σ H) (hp : H p = none) : At K H0 F0 G L (upd F p o) σ (upd H p o) ∧ Same F (upd F p o) := by
  have b := a.junk (o := o) hp
  obtain ⟨f1, f2, f3⟩ := a.free hp
  have s : Same F (upd F p o) := fun c u e => by rw [upd_ne (ne_of_none e f1)]; exact e
  refine ⟨⟨a.ef.trans s, b.eh, fun c u e => ?_, fun c u e1 et e2 => ?_, fun q hq => ?_, b.nd, b.env.mono s⟩, s⟩
  · by_cases h : c = p
    · subst h; rw [upd_same] at e ⊢; exact e
    · rw [upd_ne h] at e ⊢; exact a.fh c u e
  · rw [upd_ne (ne_of_none e1 f2)]; exact a.nf c u e1 et e2
  · obtain ⟨x, y, z⟩ := b.own q hq
    refine ⟨x.mono s fun u e => e, ?_, z⟩
    have ne : q.1 ≠ p := fun e => f3 (List.mem_map.mpr ⟨q, hq, e⟩)
    rw [upd_ne ne]; exact y
/-- an entry of the ledger changed -/
inductive Chg : Led → Addr → OW → OW → Led → Prop
  | here {l : Addr} {o o' : OW} {L : Led} : Chg ((l, o) :: L) l o o' ((l, o') :: L)
  | there {p : Addr × OW} {l : Addr} {o o' : OW} {L L' : Led} : Chg L l o o' L' → Chg (p :: L) l o o' (p :: L')
theorem Chg.mem {l : Addr} {o o' : OW} : ∀ {L L' : Led}, Chg L l o o' L' → (l, o) ∈ L
  | _, _, .here => List.mem_cons_self
  | _, _, .there h => List.mem_cons_of_mem _ (Chg.mem h)
theorem Chg.keys {l : Addr} {o o' : OW} : ∀ {L L' : Led}, Chg L l o o' L' → L'.map (·.1) = L.map (·.1)
  | _, _, .here => rfl
  | _, _, .there h => by simp [Chg.keys h]
theorem Chg.of_mem {l : Addr} {o o' : OW} : ∀ {L L' : Led}, Chg L l o o' L' → (L.map (·.1)).Nodup → ∀ q ∈ L', (q = (l, o')) ∨ (q ∈ L ∧ q.1 ≠ l)
  | _, _, .here, nd, q, hq => by
    rcases List.mem_cons.mp hq with rfl | hq
    · exact .inl rfl
    · refine .inr ⟨List.mem_cons_of_mem _ hq, fun e => ?_⟩
      exact (List.nodup_cons.mp nd).1 (List.mem_map.mpr ⟨q, hq, e⟩)
  | p :: L, _, .there h, nd, q, hq => by
    rcases List.mem_cons.mp hq with rfl | hq
    · refine .inr ⟨List.mem_cons_self, fun e => ?_⟩
      exact (List.nodup_cons.mp nd).1 (List.mem_map.mpr ⟨_, h.mem, e.symm⟩)
    · rcases Chg.of_mem h (List.nodup_cons.mp nd).2 q hq with e | ⟨h1, h2⟩
      · exact .inl e
      · exact .inr ⟨List.mem_cons_of_mem _ h1, h2⟩
theorem At.chg {l : Addr} {o o' : OW} {u : HO} (a : At K H0 F0 G L F σ H) (c : Chg L l o o' L') (x : OwnAt K F (upd H l u) l o') : At K H0 F0 G L' F σ (upd H l u) := by
  obtain ⟨_, f1, f2⟩ := a.own _ c.mem
  refine ⟨a.ef, fun b v e => ?_, fun b v e => ?_, a.nf, fun q hq => ?_, by rw [c.keys]; exact a.nd, a.env⟩
  · rw [upd_ne (ne_of_none e f2)]; exact a.eh b v e
  · rw [upd_ne (ne_of_none e f1)]; exact a.fh b v e
  · rcases c.of_mem a.nd q hq with rfl | ⟨hq, ne⟩
    · exact ⟨x, f1, f2⟩
    · obtain ⟨y, z1, z2⟩ := a.own q hq
      exact ⟨y.mono (Same.refl _) fun v e => by rw [upd_ne ne]; exact e, z1, z2⟩
/-- an entry taken out -/
inductive Out : Led → Addr → OW → Led → Prop
  | here {l : Addr} {o : OW} {L : Led} : Out ((l, o) :: L) l o L
  | there {p : Addr × OW} {l : Addr} {o : OW} {L L' : Led} : Out L l o L' → Out (p :: L) l o (p :: L')
theorem Out.mem {l : Addr} {o : OW} : ∀ {L L' : Led}, Out L l o L' → (l, o) ∈ L
  | _, _, .here => List.mem_cons_self
  | _, _, .there h => List.mem_cons_of_mem _ (Out.mem h)
theorem Out.sub {l : Addr} {o : OW} : ∀ {L L' : Led}, Out L l o L' → L'.Sublist L
  | _, _, .here => List.sublist_cons_self _ _
  | _, _, .there h => (Out.sub h).cons_cons _
theorem Out.ne {l : Addr} {o : OW} : ∀ {L L' : Led}, Out L l o L' → (L.map (·.1)).Nodup → ∀ q ∈ L', q.1 ≠ l
  | _, _, .here, nd, q, hq => fun e => (List.nodup_cons.mp nd).1 (List.mem_map.mpr ⟨q, hq, e⟩)
  | p :: L, _, .there h, nd, q, hq => by
    rcases List.mem_cons.mp hq with rfl | hq
    · exact fun e => (List.nodup_cons.mp nd).1 (List.mem_map.mpr ⟨_, h.mem, e.symm⟩)
    · exact Out.ne h (List.nodup_cons.mp nd).2 q hq
theorem At.perm (a : At K H0 F0 G L F σ H) (s : L.Perm L') : At K H0 F0 G L' F σ H :=
  ⟨a.ef, a.eh, a.fh, a.nf, fun q hq => a.own q (s.symm.subset hq), (s.map _).nodup_iff.mp a.nd, a.env⟩
/-- a tuple that stands in the heap, frozen -/
theorem At.iceT {q : Addr} {vs : List V} {ds : List D} (a : At K H0 F0 G L F σ H) (hq : H q = some (.tup vs)) (r : RepA K F ds vs) : ∃ F', At K H0 F0 G L F' σ H ∧ Same F F' ∧ Rep K F' (.tup ds) (.ref q) := by
  cases e : F q with
  | some o =>
    have h := a.fh _ _ e
    rw [hq] at h
    cases h
    exact ⟨F, a, Same.refl _, .tup e r⟩
  | none =>
    have s : Same F (upd F q (.tup vs)) := fun c u h => by rw [upd_ne (ne_of_none h e)]; exact h
    refine ⟨upd F q (.tup vs), ⟨a.ef.trans s, a.eh, fun c u h => ?_, fun c u e1 et e2 => ?_, fun p hp => ?_, a.nd, a.env.mono s⟩, s, .tup upd_same (r.mono s)⟩
    · by_cases z : c = q
      · subst z; rw [upd_same] at h; cases h; exact hq
      · rw [upd_ne z] at h; exact a.fh c u h
    · by_cases z : c = q
      · subst z
        have h := a.eh _ _ e1
        rw [hq] at h
        cases h
        exact absurd rfl (et _)
      · rw [upd_ne z]; exact a.nf c u e1 et e2
    · obtain ⟨x, y, w⟩ := a.own p hp
      refine ⟨x.mono s fun _ h => h, ?_, w⟩
      have ne : p.1 ≠ q := fun z => by
        have := x.notTup (z ▸ hq)
        exact this _ rfl
      rw [upd_ne ne]
      exact y
/-- entries forgotten -/
theorem At.drop (a : At K H0 F0 G L F σ H) (s : L'.Sublist L) : At K H0 F0 G L' F σ H :=
  ⟨a.ef, a.eh, a.fh, a.nf, fun q hq => a.own q (s.subset hq), a.nd.sublist (s.map _), a.env⟩
/-- an own object frozen -/
theorem At.freeze {l : Addr} {o : OW} (a : At K H0 F0 G L F σ H) (c : Out L l o L') : ∃ F', At K H0 F0 G L' F' σ H ∧ Same F F' ∧ Rep K F' o.frz (.ref l) := by
  obtain ⟨x0, f1, f2⟩ := a.own _ c.mem
  have x : OwnAt K F H l o := x0
  obtain ⟨u, hu⟩ := x.there
  have s : Same F (upd F l u) := fun c u e => by rw [upd_ne (ne_of_none e f1)]; exact e
  refine ⟨upd F l u, ⟨a.ef.trans s, a.eh, fun b v e => ?_, fun b v e1 et e2 => ?_, fun q hq => ?_, a.nd.sublist (c.sub.map _), a.env.mono s⟩, s, ?_⟩
  · by_cases h : b = l
    · subst h; rw [upd_same] at e; cases e; exact hu
    · rw [upd_ne h] at e; exact a.fh b v e
  · rw [upd_ne (ne_of_none e1 f2)]; exact a.nf b v e1 et e2
  · obtain ⟨y, z1, z2⟩ := a.own q (c.sub.subset hq)
    refine ⟨y.mono s fun _ e => e, ?_, z2⟩
    rw [upd_ne (c.ne a.nd q hq)]; exact z1
  · cases x with
    | lst e r =>
      rw [e] at hu; cases hu
      exact .lst upd_same (r.mono s)
    | dK e r =>
      rw [e] at hu; cases hu
      exact .dK (.inl upd_same) (r.mono s)
    | dT e r =>
      rw [e] at hu; cases hu
      exact .dT (.inl upd_same) (r.mono s)
    | ins e r =>
      rw [e] at hu; cases hu
      exact .ob upd_same (r.mono s)
    | ext e r => exact .v _
/-- the heap without some addresses -/
def less (H : Hp) (as : List Addr) : Hp := fun a => if a ∈ as then none else H a
theorem less_in {H : Hp} {as : List Addr} {a : Addr} (h : a ∈ as) : less H as a = none := by unfold less; rw [if_pos h]
theorem less_out {H : Hp} {as : List Addr} {a : Addr} (h : a ∉ as) : less H as a = H a := by unfold less; rw [if_neg h]
theorem less_some {H : Hp} {as : List Addr} {a : Addr} {o : HO} (h : less H as a = some o) : a ∉ as ∧ H a = some o := by
  unfold less at h
  by_cases q : a ∈ as
  · rw [if_pos q] at h; cases h
  · rw [if_neg q] at h; exact ⟨q, h⟩
/-- the state that a callee is handed: it owns Lc -/
theorem At.hand {Lc R : Led} (a : At K H0 F0 G L F σ H) (e : (Lc ++ R).Perm L) : At K (less H (Lc.map (·.1))) F [] Lc F [] H := by
  have mem : ∀ q ∈ Lc, q ∈ L := fun q hq => e.subset (List.mem_append_left _ hq)
  refine ⟨Same.refl _, fun b o h => (less_some h).2, a.fh, fun _ _ _ _ h => h, fun q hq => ?_, ?_, .nil⟩
  · obtain ⟨x, y, _⟩ := a.own q (mem q hq)
    exact ⟨x, y, less_in (List.mem_map.mpr ⟨q, hq, rfl⟩)⟩
  · have := (e.map (·.1)).nodup_iff.mpr a.nd
    rw [List.map_append] at this
    exact (List.nodup_append.mp this).1
/-- behind a call -/
theorem At.back {Lc R : Led} (a : At K H0 F0 G L F σ H) (e : (Lc ++ R).Perm L) (b : At K (less H (Lc.map (·.1))) F [] L' F' [] H') : At K H0 F0 G (L' ++ R) F' σ H' := by
  have memC : ∀ q ∈ Lc, q ∈ L := fun q hq => e.subset (List.mem_append_left _ hq)
  have memR : ∀ q ∈ R, q ∈ L := fun q hq => e.subset (List.mem_append_right _ hq)
  have nd := (e.map (·.1)).nodup_iff.mpr a.nd
  rw [List.map_append] at nd
  have outR : ∀ q ∈ R, q.1 ∉ Lc.map (·.1) := fun q hq hc => (List.nodup_append.mp nd).2.2 _ hc _ (List.mem_map.mpr ⟨q, hq, rfl⟩) rfl
  have out0 : ∀ b o, H0 b = some o → b ∉ Lc.map (·.1) := fun b o h hc => by
    obtain ⟨q, hq, e⟩ := List.mem_map.mp hc
    have := (a.own q (memC q hq)).2.2
    rw [e, h] at this
    cases this
  have h0 : ∀ b o, H0 b = some o → less H (Lc.map (·.1)) b = some o := fun b o h => by rw [less_out (out0 b o h)]; exact a.eh b o h
  have hR : ∀ q ∈ R, ∀ u, H q.1 = some u → less H (Lc.map (·.1)) q.1 = some u := fun q hq u h => by rw [less_out (outR q hq)]; exact h
  refine ⟨a.ef.trans b.ef, fun c o h => b.eh c o (h0 c o h), b.fh, fun c o h1 ht h2 => b.nf c o (h0 c o h1) ht (a.nf c o h1 ht h2), fun q hq => ?_, ?_, a.env.mono b.ef⟩
  · rcases List.mem_append.mp hq with hq | hq
    · obtain ⟨x, y, z⟩ := b.own q hq
      refine ⟨x, y, ?_⟩
      cases w : H0 q.1 with
      | none => rfl
      | some o => rw [h0 _ _ w] at z; cases z
    · obtain ⟨x, y, z⟩ := a.own q (memR q hq)
      obtain ⟨u, hu⟩ := x.there
      exact ⟨x.mono b.ef fun v e => b.eh _ _ (hR q hq v e), b.nf _ _ (hR q hq u hu) (x.notTup hu) y, z⟩
  · rw [List.map_append]
    refine List.nodup_append.mpr ⟨b.nd, (List.nodup_append.mp nd).2.1, fun x hx y hy e => ?_⟩
    subst e
    obtain ⟨q, hq, rfl⟩ := List.mem_map.mp hx
    obtain ⟨r, hr, er⟩ := List.mem_map.mp hy
    obtain ⟨u, hu⟩ := (a.own r (memR r hr)).1.there
    have z := (b.own q hq).2.2
    have e2 : r.1 = q.1 := er
    have z2 := hR r hr u hu
    rw [e2, z] at z2
    cases z2
end
end TL
namespace TL
open PySem L2
structure Ctx where
  P : Program
  w : World
  K : PySem.W.Frag
  mg : Str → Option Value
  base : Heap
  N : List Str
  sc : Scope
  k : Nat
  df : Str → Bool
  lp : Bool
  cm : Bool
def GlC (C : Ctx) (x : Str) : Prop := C.sc.names.lookup x = some .globalImplicit
structure XOk (C : Ctx) (X : Cx) : Prop where
  eP : C.P = X.prog
  ew : C.w = X.w
  eK : C.K = X.K
  em : C.mg = X.mg
  eb : C.base = X.base
  eN : C.N = X.N
  es : C.sc = X.env.scope
  calm : C.cm = true → X.calm = true
  room : C.cm = true → Room C.k X.A
  nd : C.N.Nodup
  fn : ∀ x, C.df x = true → X.fn x = true
  po : C.lp = true → PassesOwn (model X.prog X.w) X.A X.env X.xe
  st : C.lp = true → X.stack = X.env :: X.outer ∧ X.env.frame = some X.env.locals
/-- an exception: of a class without fields, or of one whose __init__ stores one -/
inductive EX where
  | own (cls : Addr)
  | low (cls : Addr) (f : Str) (d : D)
inductive ExIs (K : PySem.W.Frag) (F H : Hp) : EX → Value → Option Addr → Prop
  | own {C : Addr} : ExIs K F H (.own C) (.ref C) none
  | low {C a : Addr} {f : Str} {d : D} {y : V} : H a = some (.xd [(f, y)]) → Rep K F d y → ExIs K F H (.low C f d) (.ref C) (some a)
structure Mode where
  C : Ctx
  H0 : Hp
  F0 : Hp
  T : EX → List (Option D) → Led → Prop
abbrev Mode.at (M : Mode) (G : List (Option D)) (L : Led) (F : Hp) (σ : St) (H : Hp) : Prop := At M.C.K M.H0 M.F0 G L F σ H
def Mode.Tk (M : Mode) (W : WX) : Prop := ∀ ex G L F σ H v d, M.T ex G L → M.at G L F σ H → ExIs M.C.K F H ex v d → W v d σ H
structure Sit (M : Mode) (X : Cx) : Prop where
  ok : XOk M.C X
  tk : ∃ W, Takes X W ∧ M.Tk W
section
variable (X : Cx)
def GE (e : Expr) (σ : St) (H : Hp) (Q : VK) : Prop := ∃ t, PE X e t ∧ t σ H Q
def GT (e : Expr) (σ : St) (H : Hp) (Q : Bool → Hp → Prop) : Prop := ∃ t, PT X e t ∧ t σ H Q
def GW (e : Expr) (σ : St) (H : Hp) (Q : Bool → Hp → Prop) : Prop := ∃ t, PW X e t ∧ t σ H Q
def GA (es : List Expr) (σ : St) (H : Hp) (Q : List V → Hp → Prop) : Prop := ∃ t, PA X es t ∧ t σ H Q
def GS (st : Stmt) (D : Ends) (σ : St) (H : Hp) : Prop := ∃ t, PS X st t ∧ t D σ H
def GSs (st : List Stmt) (D : Ends) (σ : St) (H : Hp) : Prop := ∃ t, PSs X st t ∧ t D σ H
def GI (tg iter : Expr) (σ : St) (H : Hp) (R : It → Hp → Prop) : Prop := ∃ t, PI X tg iter t ∧ t σ H R
def GG (tg : Expr) (v : V) (σ : St) (H : Hp) (Q : St → Hp → Prop) : Prop := ∃ t, PG X tg t ∧ t v σ H Q
def GOp (f : Value → Value → Sem Value) (x y : V) (H : Hp) (Q : VK) : Prop := ∃ r, OpR X f r ∧ r x y H Q
def GUn (f : Value → Sem Value) (x : V) (H : Hp) (Q : VK) : Prop := ∃ r, UnR X f r ∧ r x H Q
def GC (f : Value) (xs : List V) (H : Hp) (Q : VK) : Prop := ∃ r, CallR X f r ∧ r xs H Q
def GM (id : String) (x : V) (xs : List V) (H : Hp) (Q : VK) : Prop := ∃ r, MtR X id r ∧ r x xs H Q
def GIx (x y : V) (H : Hp) (Q : VK) : Prop := ∃ r, IxR X r ∧ r x y H Q
def GSl (x : V) (lo hi : Option Int) (H : Hp) (Q : VK) : Prop := ∃ r, SlR X r ∧ r x lo hi H Q
def GIp (op : Operator) (x y : V) (H : Hp) (Q : VK) : Prop := ∃ r, PIp X op r ∧ r x y H Q
end
section
variable {X : Cx}
theorem be {e : Expr} : PE X e (GE X e) := ⟨fun pins s σ H Q I ⟨_, h, q⟩ => h.run pins s σ H Q I q⟩
theorem bt {e : Expr} : PT X e (GT X e) := ⟨fun pins s σ H Q I ⟨_, h, q⟩ => h.run pins s σ H Q I q⟩
theorem bw {e : Expr} : PW X e (GW X e) := ⟨fun wh pins s σ H Q I ⟨_, h, q⟩ => h.run wh pins s σ H Q I q⟩
theorem ba {e : List Expr} : PA X e (GA X e) := ⟨fun pos pins s σ H Q I ⟨_, h, q⟩ => h.run pos pins s σ H Q I q⟩
theorem bs {e : Stmt} : PS X e (GS X e) := ⟨fun pins s σ H Q I ⟨_, h, q⟩ => h.run pins s σ H Q I q⟩
theorem bss {e : List Stmt} : PSs X e (GSs X e) := ⟨fun pins s σ H Q I ⟨_, h, q⟩ => h.run pins s σ H Q I q⟩
theorem bi {tg e : Expr} : PI X tg e (GI X tg e) := ⟨fun pins s σ H Q I ⟨_, h, q⟩ => h.run pins s σ H Q I q⟩
theorem bg {tg : Expr} : PG X tg (GG X tg) := ⟨fun pins s σ H v u Q I r ⟨_, h, q⟩ => h.run pins s σ H v u Q I r q⟩
theorem bop {f : Value → Value → Sem Value} : OpR X f (GOp X f) := fun pins s σ H x y v u Q I rx ry ⟨_, h, q⟩ => h pins s σ H x y v u Q I rx ry q
theorem bun {f : Value → Sem Value} : UnR X f (GUn X f) := fun pins s σ H x v Q I rx ⟨_, h, q⟩ => h pins s σ H x v Q I rx q
theorem bc {f : Value} : CallR X f (GC X f) := fun pins s σ H xs us Q I rx ⟨_, h, q⟩ => h pins s σ H xs us Q I rx q
theorem bm {id : String} : MtR X id (GM X id) := fun pins s σ H x xs v us Q I rx rs ⟨_, h, q⟩ => h pins s σ H x xs v us Q I rx rs q
theorem bix : IxR X (GIx X) := fun va sl pins s σ H x y v u Q I rx ry ⟨_, h, q⟩ hs => h va sl pins s σ H x y v u Q I rx ry q hs
theorem bsl : SlR X (GSl X) := fun pins s σ H x v vl vu lo hi sl Q I rx hs pl pu ⟨_, h, q⟩ => h pins s σ H x v vl vu lo hi sl Q I rx hs pl pu q
theorem bip {op : Operator} : PIp X op (GIp X op) := fun pins s σ H x y v u Q I rx ry ⟨_, h, q⟩ => h pins s σ H x y v u Q I rx ry q
end
section
variable (M : Mode) (G : List (Option D)) (L : Led)
/-- behind: a datum's value; K is what is to be shown of the datum and the ledger -/
def Post (F : Hp) (σ : St) (K : D → Led → Prop) (Q : VK) : Prop := ∀ d L' v F' H', K d L' → M.at G L' F' σ H' → Rep M.C.K F' d v → Same F F' → Q v H'
def Ev (e : Expr) (K : D → Led → Prop) : Prop := ∀ X, Sit M X → ∀ F σ H, M.at G L F σ H → ∀ Q, Post M G F σ K Q → GE X e σ H Q
def Op2 (f : Value → Value → Sem Value) (x y : D) (K : D → Led → Prop) : Prop := ∀ X, Sit M X → ∀ F σ H v u, M.at G L F σ H → Rep M.C.K F x v → Rep M.C.K F y u → ∀ Q, Post M G F σ K Q → GOp X f v u H Q
def Op1 (f : Value → Sem Value) (x : D) (K : D → Led → Prop) : Prop := ∀ X, Sit M X → ∀ F σ H v, M.at G L F σ H → Rep M.C.K F x v → ∀ Q, Post M G F σ K Q → GUn X f v H Q
def Ip2 (op : Operator) (x y : D) (K : D → Led → Prop) : Prop := ∀ X, Sit M X → ∀ F σ H v u, M.at G L F σ H → Rep M.C.K F x v → Rep M.C.K F y u → ∀ Q, Post M G F σ K Q → GIp X op v u H Q
def CallV (f : Value) (xs : List D) (K : D → Led → Prop) : Prop := ∀ X, Sit M X → ∀ F σ H vs, M.at G L F σ H → RepA M.C.K F xs vs → ∀ Q, Post M G F σ K Q → GC X f vs H Q
def MtV (id : String) (x : D) (xs : List D) (K : D → Led → Prop) : Prop := ∀ X, Sit M X → ∀ F σ H v vs, M.at G L F σ H → Rep M.C.K F x v → RepA M.C.K F xs vs → ∀ Q, Post M G F σ K Q → GM X id v vs H Q
def IxV (x y : D) (K : D → Led → Prop) : Prop := ∀ X, Sit M X → ∀ F σ H v u, M.at G L F σ H → Rep M.C.K F x v → Rep M.C.K F y u → ∀ Q, Post M G F σ K Q → GIx X v u H Q
def SlV (x : D) (lo hi : Option Int) (K : D → Led → Prop) : Prop := ∀ X, Sit M X → ∀ F σ H v, M.at G L F σ H → Rep M.C.K F x v → ∀ Q, Post M G F σ K Q → GSl X v lo hi H Q
def EvA (es : List Expr) (K : List D → Led → Prop) : Prop := ∀ X, Sit M X → ∀ F σ H, M.at G L F σ H → ∀ Q : List V → Hp → Prop, (∀ ds L' vs F' H', K ds L' → M.at G L' F' σ H' → RepA M.C.K F' ds vs → Same F F' → Q vs H') → GA X es σ H Q
def Tst (e : Expr) (K : Bool → Led → Prop) : Prop := ∀ X, Sit M X → ∀ F σ H, M.at G L F σ H → ∀ Q : Bool → Hp → Prop, (∀ b L' F' H', K b L' → M.at G L' F' σ H' → Same F F' → Q b H') → GT X e σ H Q
def TstW (e : Expr) (K : Bool → Led → Prop) : Prop := ∀ X, Sit M X → ∀ F σ H, M.at G L F σ H → ∀ Q : Bool → Hp → Prop, (∀ b L' F' H', K b L' → M.at G L' F' σ H' → Same F F' → Q b H') → GW X e σ H Q
/-- the truth of a datum -/
def TruD (x : D) (b : Bool) : Prop := ∀ F σ H v, M.at G L F σ H → Rep M.C.K F x v → TruV M.C.K v H b
end
inductive Look : List Str → List (Option D) → Str → Option D → Prop
  | here {x : Str} {N : List Str} {d : Option D} {G : List (Option D)} : Look (x :: N) (d :: G) x d
  | there {x y : Str} {N : List Str} {d e : Option D} {G : List (Option D)} : Look N G x d → Look (y :: N) (e :: G) x d
theorem Look.ix : ∀ {N : List Str} {G : List (Option D)} {x : Str} {d : Option D}, Look N G x d → ∃ i : Nat, N[i]? = some x ∧ G[i]? = some d
  | _, _, _, _, .here => ⟨0, rfl, rfl⟩
  | _, _, _, _, .there h => let ⟨i, a, b⟩ := Look.ix h; ⟨i + 1, by simpa using a, by simpa using b⟩
inductive Put : List Str → List (Option D) → Str → Option D → List (Option D) → Prop
  | here {x : Str} {N : List Str} {d e : Option D} {G : List (Option D)} : Put (x :: N) (e :: G) x d (d :: G)
  | there {x y : Str} {N : List Str} {d e : Option D} {G G' : List (Option D)} : Put N G x d G' → Put (y :: N) (e :: G) x d (e :: G')
theorem Put.ix : ∀ {N : List Str} {G G' : List (Option D)} {x : Str} {d : Option D}, Put N G x d G' → ∃ i : Nat, N[i]? = some x ∧ G' = G.set i d
  | _, _, _, _, _, .here => ⟨0, rfl, rfl⟩
  | _, _, _, _, _, .there h => let ⟨i, a, b⟩ := Put.ix h; ⟨i + 1, by simpa using a, by simp [b]⟩
section
variable {M : Mode} {G : List (Option D)} {L : Led} {K : D → Led → Prop} {pos : Pos}
theorem Ev.imp {e : Expr} {K' : D → Led → Prop} (h : Ev M G L e K) (k : ∀ d L', K d L' → K' d L') : Ev M G L e K' := fun X S F σ H a Q q => h X S F σ H a Q fun d L' v F' H' kk => q d L' v F' H' (k d L' kk)
theorem ev_name {x : Str} {d : D} (hl : Look M.C.N G x (some d)) (hv : Vis M.C.sc x) (h : K d L) (hd : (x == ("__debug__" : Str)) = false := by decide +kernel) (hcd : (x == ("__classdict__" : Str)) = false := by decide +kernel) : Ev M G L (.Name x pos) K := by
  intro X S F σ H a Q q
  obtain ⟨i, h1, h2⟩ := hl.ix
  obtain ⟨v, h3, r⟩ := a.env.get h2
  refine ⟨tVar i, pe_var (by rw [← S.ok.eN]; exact h1) (by rw [← S.ok.es]; exact hv) hd hcd, v, h3, ?_⟩
  exact q d L v F H h a r (Same.refl _)
theorem ev_glob {x : Str} {v : V} {u : Value} {d : D} (hg : GlC M.C x) (hm : M.C.mg x = some u) (r : RelV v u) (rd : ∀ F, Rep M.C.K F d v) (h : K d L) (hd : (x == ("__debug__" : Str)) = false := by decide +kernel) : Ev M G L (.Name x pos) K := by
  intro X S F σ H a Q q
  refine ⟨tC v, pe_glob (by show X.env.scope.names.lookup x = _; rw [← S.ok.es]; exact hg) (by rw [← S.ok.em]; exact hm) r hd, ?_⟩
  exact q d L v F H h a (rd F) (Same.refl _)
theorem ev_int {i : Int} {j : Nat} (h : K (.int i) L) : Ev M G L (.Constant (.int i) j pos) K := fun X S F σ H a Q q => ⟨_, pe_int, q _ L _ F H h a (.v _) (Same.refl _)⟩
theorem ev_bl {i : Bool} {j : Nat} (h : K (.bl i) L) : Ev M G L (.Constant (.bool i) j pos) K := fun X S F σ H a Q q => ⟨_, pe_bl, q _ L _ F H h a (.v _) (Same.refl _)⟩
theorem ev_non {j : Nat} (h : K .non L) : Ev M G L (.Constant .none j pos) K := fun X S F σ H a Q q => ⟨_, pe_non, q _ L _ F H h a (.v _) (Same.refl _)⟩
theorem ev_str {z : Str} {j : Nat} (h : K (.str z) L) : Ev M G L (.Constant (.str z) j pos) K := fun X S F σ H a Q q => ⟨_, pe_str, q _ L _ F H h a (.v _) (Same.refl _)⟩
variable {a b c : Expr}
theorem ev_bin {op : Operator} (h : Ev M G L a fun x L1 => Ev M G L1 b fun y L2 => Op2 M G L2 (binaryOp op) x y K) : Ev M G L (.BinOp a op b pos) K := by
  intro X S F σ H A Q q
  refine ⟨tOp (GOp X (binaryOp op)) (GE X a) (GE X b), pe_op bop be be, ?_⟩
  refine h X S F σ H A _ fun x L1 v F1 H1 k1 A1 r1 s1 => ?_
  refine k1 X S F1 σ H1 A1 _ fun y L2 u F2 H2 k2 A2 r2 s2 => ?_
  exact k2 X S F2 σ H2 v u A2 (r1.mono s2) r2 Q fun d L3 w F3 H3 k3 A3 r3 s3 => q d L3 w F3 H3 k3 A3 r3 ((s1.trans s2).trans s3)
theorem ev_un {op : UnaryOp} (h : Ev M G L a fun x L1 => Op1 M G L1 (unaryOp op) x K) : Ev M G L (.UnaryOp op a pos) K := by
  intro X S F σ H A Q q
  refine ⟨tUn (GUn X (unaryOp op)) (GE X a), pe_un bun be, ?_⟩
  refine h X S F σ H A _ fun x L1 v F1 H1 k1 A1 r1 s1 => ?_
  exact k1 X S F1 σ H1 v A1 r1 Q fun d L3 w F3 H3 k3 A3 r3 s3 => q d L3 w F3 H3 k3 A3 r3 (s1.trans s3)
theorem ev_cmp {op : CmpOp} (h : Ev M G L a fun x L1 => Ev M G L1 b fun y L2 => Op2 M G L2 (compareOp op) x y K) (hm : behindInMarks op b = false := by first | exact nomark _ | rfl) : Ev M G L (.Compare a [op] [b] pos) K := by
  intro X S F σ H A Q q
  refine ⟨tOp (GOp X (compareOp op)) (GE X a) (GE X b), pe_cmpR bop be be hm, ?_⟩
  refine h X S F σ H A _ fun x L1 v F1 H1 k1 A1 r1 s1 => ?_
  refine k1 X S F1 σ H1 A1 _ fun y L2 u F2 H2 k2 A2 r2 s2 => ?_
  exact k2 X S F2 σ H2 v u A2 (r1.mono s2) r2 Q fun d L3 w F3 H3 k3 A3 r3 s3 => q d L3 w F3 H3 k3 A3 r3 ((s1.trans s2).trans s3)
/-- a op b op' c: the second is asked where the first is true -/
theorem ev_chain {op op' : CmpOp} (h : Ev M G L a fun x L1 => Ev M G L1 b fun y L2 => Op2 M G L2 (compareOp op) x y fun d L3 => ∃ k : Bool, d = .bl k ∧
      (k = true → Ev M G L3 c fun z L4 => Op2 M G L4 (compareOp op') y z K) ∧ (k = false → K (.bl false) L3)) (hm : lastMarks [op, op'] [b, c] = false := by with_unfolding_all rfl) : Ev M G L (.Compare a [op, op'] [b, c] pos) K := by
  intro X S F σ H A Q q
  refine ⟨tChain (GOp X (compareOp op)) (GOp X (compareOp op')) (GE X a) (GE X b) (GE X c), pe_chain bop bop be be be hm, ?_⟩
  refine h X S F σ H A _ fun x L1 v F1 H1 k1 A1 r1 s1 => ?_
  refine k1 X S F1 σ H1 A1 _ fun y L2 u F2 H2 k2 A2 r2 s2 => ?_
  refine k2 X S F2 σ H2 v u A2 (r1.mono s2) r2 _ fun d L3 w F3 H3 k3 A3 r3 s3 => ?_
  obtain ⟨k, rfl, ht, hf⟩ := k3
  cases r3
  refine ⟨k, rfl, ?_⟩
  cases k with
  | true =>
    rw [if_pos rfl]
    refine ht rfl X S F3 σ H3 A3 _ fun z L4 w4 F4 H4 k4 A4 r4 s4 => ?_
    exact k4 X S F4 σ H4 u w4 A4 (r2.mono (s3.trans s4)) r4 Q fun d L5 w5 F5 H5 k5 A5 r5 s5 => q d L5 w5 F5 H5 k5 A5 r5 ((((s1.trans s2).trans s3).trans s4).trans s5)
  | false =>
    rw [if_neg Bool.false_ne_true]
    exact q _ L3 _ F3 H3 (hf rfl) A3 (.v _) ((s1.trans s2).trans s3)
theorem ev_if {t : Expr} (h : Tst M G L t fun k L1 => (k = true → Ev M G L1 a K) ∧ (k = false → Ev M G L1 b K)) : Ev M G L (.IfExp t a b pos) K := by
  intro X S F σ H A Q q
  refine ⟨tIf (GT X t) (GE X a) (GE X b), pe_ifExp bt be be, ?_⟩
  refine h X S F σ H A _ fun k L1 F1 H1 k1 A1 s1 => ?_
  cases k with
  | true =>
    show GE X a σ H1 Q
    exact k1.1 rfl X S F1 σ H1 A1 Q fun d L' v F' H' kk a' r' s' => q d L' v F' H' kk a' r' (s1.trans s')
  | false =>
    show GE X b σ H1 Q
    exact k1.2 rfl X S F1 σ H1 A1 Q fun d L' v F' H' kk a' r' s' => q d L' v F' H' kk a' r' (s1.trans s')
/-- and, or, not as values, all but the last bools -/
theorem ev_one {op : BoolOp} (h : Ev M G L a K) : Ev M G L (.BoolOp op [a] pos) K := fun X S F σ H A Q q => ⟨_, pe_one be, h X S F σ H A Q q⟩
theorem ev_and {rest : List Expr} (h : Ev M G L a fun x L1 => ∃ k : Bool, x = .bl k ∧ (k = true → Ev M G L1 (.BoolOp .And (b :: rest) pos) K) ∧ (k = false → K (.bl false) L1)) : Ev M G L (.BoolOp .And (a :: b :: rest) pos) K := by
  intro X S F σ H A Q q
  refine ⟨_, pe_and be be, ?_⟩
  refine h X S F σ H A _ fun x L1 v F1 H1 k1 A1 r1 s1 => ?_
  obtain ⟨k, rfl, ht, hf⟩ := k1
  cases r1
  refine ⟨k, rfl, ?_⟩
  cases k with
  | true =>
    rw [if_pos rfl]
    exact ht rfl X S F1 σ H1 A1 Q fun d L' v F' H' kk a' r' s' => q d L' v F' H' kk a' r' (s1.trans s')
  | false =>
    rw [if_neg Bool.false_ne_true]
    exact q _ L1 _ F1 H1 (hf rfl) A1 (.v _) s1
theorem ev_or {rest : List Expr} (h : Ev M G L a fun x L1 => ∃ k : Bool, x = .bl k ∧ (k = false → Ev M G L1 (.BoolOp .Or (b :: rest) pos) K) ∧ (k = true → K (.bl true) L1)) : Ev M G L (.BoolOp .Or (a :: b :: rest) pos) K := by
  intro X S F σ H A Q q
  refine ⟨_, pe_or be be, ?_⟩
  refine h X S F σ H A _ fun x L1 v F1 H1 k1 A1 r1 s1 => ?_
  obtain ⟨k, rfl, ht, hf⟩ := k1
  cases r1
  refine ⟨k, rfl, ?_⟩
  cases k with
  | false =>
    rw [if_neg Bool.false_ne_true]
    exact ht rfl X S F1 σ H1 A1 Q fun d L' v F' H' kk a' r' s' => q d L' v F' H' kk a' r' (s1.trans s')
  | true =>
    rw [if_pos rfl]
    exact q _ L1 _ F1 H1 (hf rfl) A1 (.v _) s1
theorem ev_not (h : Ev M G L a fun x L1 => ∃ k : Bool, x = .bl k ∧ K (.bl (!k)) L1) : Ev M G L (.UnaryOp .Not a pos) K := by
  intro X S F σ H A Q q
  refine ⟨_, pe_not be, ?_⟩
  refine h X S F σ H A _ fun x L1 v F1 H1 k1 A1 r1 s1 => ?_
  obtain ⟨k, rfl, hk⟩ := k1
  cases r1
  exact ⟨k, rfl, q _ L1 _ F1 H1 hk A1 (.v _) s1⟩
variable {KB : Bool → Led → Prop}
theorem tst_cmp {op : CmpOp} (h : Ev M G L a fun x L1 => Ev M G L1 b fun y L2 => Op2 M G L2 (compareOp op) x y fun d L3 => ∃ k : Bool, d = .bl k ∧ KB k L3) (hm : behindInMarks op b = false := by first | exact nomark _ | rfl) : Tst M G L (.Compare a [op] [b] pos) KB := by
  intro X S F σ H A Q q
  refine ⟨tTest (tOp (GOp X (compareOp op)) (GE X a) (GE X b)), pt_cmpR bop be be hm, ?_⟩
  refine h X S F σ H A _ fun x L1 v F1 H1 k1 A1 r1 s1 => ?_
  refine k1 X S F1 σ H1 A1 _ fun y L2 u F2 H2 k2 A2 r2 s2 => ?_
  refine k2 X S F2 σ H2 v u A2 (r1.mono s2) r2 _ fun d L3 w F3 H3 k3 A3 r3 s3 => ?_
  obtain ⟨k, rfl, hk⟩ := k3
  cases r3
  exact ⟨k, rfl, q k L3 F3 H3 hk A3 ((s1.trans s2).trans s3)⟩
/-- a test that is a value's truth -/
theorem tst_val {e : Expr} (h : Ev M G L e fun d L1 => ∃ k : Bool, TruD M G L1 d k ∧ KB k L1) (he : ∀ X : Cx, ∀ whole, isTrue e X.env whole = (do let v ← whole; standAt e.pos; holding [v] (truthy v)) := by intro _ _; rfl) : Tst M G L e KB := by
  intro X S F σ H A Q q
  refine ⟨_, pt_truth be (he X), ?_⟩
  refine h X S F σ H A _ fun d L1 v F1 H1 k1 A1 r1 s1 => ?_
  obtain ⟨k, ht, hk⟩ := k1
  refine ⟨k, ?_, q k L1 F1 H1 hk A1 s1⟩
  rw [← S.ok.eK]
  exact ht F1 σ H1 v A1 r1
theorem tst_not (h : Tst M G L a fun k L1 => KB (!k) L1) : Tst M G L (.UnaryOp .Not a pos) KB := by
  intro X S F σ H A Q q
  refine ⟨_, pt_not bt, ?_⟩
  exact h X S F σ H A _ fun k L1 F1 H1 k1 A1 s1 => q (!k) L1 F1 H1 k1 A1 s1
theorem tst_w {e : Expr} (h : TstW M G L e KB) : Tst M G L e KB := fun X S F σ H A Q q => ⟨_, bw.pt, h X S F σ H A Q q⟩
theorem tw_and1 (h : Tst M G L a KB) : TstW M G L (.BoolOp .And [a] pos) KB := fun X S F σ H A Q q => ⟨_, pw_and1 bt, h X S F σ H A Q q⟩
theorem tw_or1 (h : Tst M G L a KB) : TstW M G L (.BoolOp .Or [a] pos) KB := fun X S F σ H A Q q => ⟨_, pw_or1 bt, h X S F σ H A Q q⟩
theorem tw_and {rest : List Expr} (h : Tst M G L a fun k L1 => (k = true → TstW M G L1 (.BoolOp .And (b :: rest) pos) KB) ∧ (k = false → KB false L1)) : TstW M G L (.BoolOp .And (a :: b :: rest) pos) KB := by
  intro X S F σ H A Q q
  refine ⟨_, pw_and bt bw, ?_⟩
  refine h X S F σ H A _ fun k L1 F1 H1 k1 A1 s1 => ?_
  cases k with
  | true =>
    rw [if_pos rfl]
    exact k1.1 rfl X S F1 σ H1 A1 Q fun d L' F' H' kk a' s' => q d L' F' H' kk a' (s1.trans s')
  | false =>
    rw [if_neg Bool.false_ne_true]
    exact q _ L1 F1 H1 (k1.2 rfl) A1 s1
theorem tw_or {rest : List Expr} (h : Tst M G L a fun k L1 => (k = false → TstW M G L1 (.BoolOp .Or (b :: rest) pos) KB) ∧ (k = true → KB true L1)) : TstW M G L (.BoolOp .Or (a :: b :: rest) pos) KB := by
  intro X S F σ H A Q q
  refine ⟨_, pw_or bt bw, ?_⟩
  refine h X S F σ H A _ fun k L1 F1 H1 k1 A1 s1 => ?_
  cases k with
  | false =>
    rw [if_neg Bool.false_ne_true]
    exact k1.1 rfl X S F1 σ H1 A1 Q fun d L' F' H' kk a' s' => q d L' F' H' kk a' (s1.trans s')
  | true =>
    rw [if_pos rfl]
    exact q _ L1 F1 H1 (k1.2 rfl) A1 s1
variable {KA : List D → Led → Prop} {e : Expr} {es : List Expr}
theorem ea_nil (h : KA [] L) : EvA M G L [] KA := fun X S F σ H A Q q => ⟨_, pa_nil, q [] L [] F H h A .nil (Same.refl _)⟩
theorem ea_cons (h : Ev M G L e fun d L1 => EvA M G L1 es fun ds L2 => KA (d :: ds) L2) (hs : ∀ X : Cx, starEach (e :: es) X.env = (false, eval e X.env) :: starEach es X.env := by intro _; rfl) : EvA M G L (e :: es) KA := by
  intro X S F σ H A Q q
  refine ⟨_, pa_cons be ba (hs X), ?_⟩
  refine h X S F σ H A _ fun x L1 v F1 H1 k1 A1 r1 s1 => ?_
  exact k1 X S F1 σ H1 A1 _ fun ds L2 vs F2 H2 k2 A2 r2 s2 => q (x :: ds) L2 (v :: vs) F2 H2 k2 A2 (.cons (r1.mono s2) r2) (s1.trans s2)
theorem ev_tup {x1} (h : EvA M G L es fun ds L1 => ds.length ≤ sizeLine ∧ K (.tup ds) L1) : Ev M G L (.Tuple es x1 pos) K := by
  intro X S F σ H A Q q
  refine ⟨_, pe_tup ba, ?_⟩
  refine h X S F σ H A _ fun ds L1 vs F1 H1 k1 A1 r1 s1 => ⟨by rw [← r1.length]; exact k1.1, fun p hp => ?_⟩
  obtain ⟨A2, s2⟩ := A1.ice (o := .tup vs) hp
  exact q _ L1 _ _ _ k1.2 A2 (.tup upd_same (r1.mono s2)) (s1.trans s2)
theorem ev_lst (h : EvA M G L es fun ds L1 => ds.length ≤ sizeLine ∧ ∀ p, K (.ref p) ((p, .lst ds) :: L1)) : Ev M G L (.List es pos) K := by
  intro X S F σ H A Q q
  refine ⟨_, pe_lst ba, ?_⟩
  refine h X S F σ H A _ fun ds L1 vs F1 H1 k1 A1 r1 s1 => ⟨by rw [← r1.length]; exact k1.1, fun p hp => ?_⟩
  exact q _ _ _ F1 _ (k1.2 p) (A1.new hp (.lst upd_same r1)) (.v _) s1
end
end TL
namespace TL
open PySem L2
theorem sz_of {n : Nat} (h : n ≤ 1000000) : n ≤ sizeLine := Nat.le_trans h (by decide)
theorem sz_lt {n : Nat} (h : n ≤ 1000000) : n < sizeLine := Nat.lt_of_le_of_lt h (by decide)
inductive IsL (L : Led) : D → List D → Prop
  | frz {ds : List D} : IsL L (.lst ds) ds
  | own {l : Addr} {ds : List D} : (l, OW.lst ds) ∈ L → IsL L (.ref l) ds
inductive IsK (L : Led) : D → List (Key × D) → Prop
  | frz {ds : List (Key × D)} : IsK L (.dK ds) ds
  | own {l : Addr} {ds : List (Key × D)} : (l, OW.dK ds) ∈ L → IsK L (.ref l) ds
inductive IsTT (L : Led) : D → List (List Key × D) → Prop
  | frz {ds : List (List Key × D)} : IsTT L (.dT ds) ds
  | own {l : Addr} {ds : List (List Key × D)} : (l, OW.dT ds) ∈ L → IsTT L (.ref l) ds
inductive IsO (L : Led) : D → Addr → List (Str × D) → Prop
  | frz {C : Addr} {fs : List (Str × D)} : IsO L (.ob C fs) C fs
  | own {l C : Addr} {fs : List (Str × D)} : (l, OW.ins C fs) ∈ L → IsO L (.ref l) C fs
section
variable {K : PySem.W.Frag} {H0 F0 F H : Hp} {G : List (Option D)} {L : Led} {σ : St} {x : D} {v : V}
theorem rd_up {F H : Hp} (s : Same F H) {p : Addr} {u : HO} (h : Rd F p u) : Rd H p u := h.elim (fun h => .inl (s _ _ h)) fun ⟨o, h⟩ => .inr ⟨o, s _ _ h⟩
theorem IsL.get {ds : List D} (h : IsL L x ds) (a : At K H0 F0 G L F σ H) (r : Rep K F x v) : ∃ p vs, v = .ref p ∧ H p = some (.lst vs) ∧ RepA K F ds vs := by
  cases h with
  | frz =>
    cases r with
    | lst h1 h2 => exact ⟨_, _, rfl, a.fh _ _ h1, h2⟩
  | own h1 =>
    cases r
    obtain ⟨o, _⟩ := a.own _ h1
    cases o with
    | lst h2 h3 => exact ⟨_, _, rfl, h2, h3⟩
theorem IsK.get {ds : List (Key × D)} (h : IsK L x ds) (a : At K H0 F0 G L F σ H) (r : Rep K F x v) : ∃ p vs, v = .ref p ∧ Rd H p (.dK vs) ∧ RepK K F ds vs := by
  cases h with
  | frz =>
    cases r with
    | dK h1 h2 => exact ⟨_, _, rfl, rd_up a.fh h1, h2⟩
  | own h1 =>
    cases r
    obtain ⟨o, _⟩ := a.own _ h1
    cases o with
    | dK h2 h3 => exact ⟨_, _, rfl, .inl h2, h3⟩
theorem IsTT.get {ds : List (List Key × D)} (h : IsTT L x ds) (a : At K H0 F0 G L F σ H) (r : Rep K F x v) : ∃ p vs, v = .ref p ∧ Rd H p (.dT vs) ∧ RepT K F ds vs := by
  cases h with
  | frz =>
    cases r with
    | dT h1 h2 => exact ⟨_, _, rfl, rd_up a.fh h1, h2⟩
  | own h1 =>
    cases r
    obtain ⟨o, _⟩ := a.own _ h1
    cases o with
    | dT h2 h3 => exact ⟨_, _, rfl, .inl h2, h3⟩
theorem IsO.get {C : Addr} {fs : List (Str × D)} (h : IsO L x C fs) (a : At K H0 F0 G L F σ H) (r : Rep K F x v) : ∃ p dx ws, v = .ref p ∧ H p = some (.ins C dx ws) ∧ RepF K F fs ws := by
  cases h with
  | frz =>
    cases r with
    | ob h1 h2 => exact ⟨_, _, _, rfl, a.fh _ _ h1, h2⟩
  | own h1 =>
    cases r
    obtain ⟨o, _⟩ := a.own _ h1
    cases o with
    | ins h2 h3 => exact ⟨_, _, _, rfl, h2, h3⟩
theorem tup_get {ds : List D} (a : At K H0 F0 G L F σ H) (r : Rep K F (.tup ds) v) : ∃ p vs, v = .ref p ∧ SqT K H p vs ∧ RepA K F ds vs := by
  cases r with
  | tup h1 h2 => exact ⟨_, _, rfl, .inl (.inl (a.fh _ _ h1)), h2⟩
theorem tup_at {ds : List D} (a : At K H0 F0 G L F σ H) (r : Rep K F (.tup ds) v) : ∃ p vs, v = .ref p ∧ H p = some (.tup vs) ∧ RepA K F ds vs := by
  cases r with
  | tup h1 h2 => exact ⟨_, _, rfl, a.fh _ _ h1, h2⟩
def tupOf : D → Option (List D)
  | .tup ds => some ds
  | .ctup ds => some ds
  | _ => none
theorem tup_of {x : D} {ds : List D} (a : At K H0 F0 G L F σ H) (e : tupOf x = some ds) (r : Rep K F x v) : ∃ p vs, v = .ref p ∧ SqT K H p vs ∧ RepA K F ds vs := by
  cases x with
  | tup es => cases e; exact tup_get a r
  | ctup es =>
    cases e
    cases r with
    | ctup h1 h2 => exact ⟨_, _, rfl, sqT_mono a.fh h1, h2⟩
  | _ => cases e
/-- dicts: finding by key -/
def valD {κ : Type} [DecidableEq κ] (kvs : List (κ × D)) (k : κ) : Option D := (kvs.find? fun kv => decide (kv.1 = k)).map (·.2)
def putE {κ : Type} [DecidableEq κ] (kvs : List (κ × D)) (k : κ) (v : D) : List (κ × D) := if (kvs.any fun kv => decide (kv.1 = k)) then kvs.map (fun kv => if kv.1 = k then (kv.1, v) else kv) else kvs ++ [(k, v)]
theorem RepK.val {kvs : List (Key × D)} {ws : List (Key × V)} (h : RepK K F kvs ws) (k : Key) : (∀ d, valD kvs k = some d → ∃ v, valV ws k = some v ∧ Rep K F d v) ∧ (valD kvs k = none → valV ws k = none) := by
  induction kvs generalizing ws with
  | nil => cases h; exact ⟨(fun d e => nomatch e), (fun _ => rfl)⟩
  | cons p kvs ih =>
    cases h with
    | @cons k' d' v' _ vs r t =>
      unfold valD valV
      rw [List.find?_cons, List.find?_cons]
      by_cases e : k' = k
      · simp only [e, decide_true]
        exact ⟨(fun d q => by cases q; exact ⟨_, rfl, r⟩), (fun q => nomatch q)⟩
      · simp only [decide_eq_false e]
        exact ih t
theorem RepK.length {kvs : List (Key × D)} {ws : List (Key × V)} (h : RepK K F kvs ws) : kvs.length = ws.length := by
  induction kvs generalizing ws with
  | nil => cases h; rfl
  | cons p kvs ih =>
    cases h with
    | cons r t => simp [ih t]
theorem RepT.length {kvs : List (List Key × D)} {ws : List (List Key × V)} (h : RepT K F kvs ws) : kvs.length = ws.length := by
  induction kvs generalizing ws with
  | nil => cases h; rfl
  | cons p kvs ih =>
    cases h with
    | cons r t => simp [ih t]
theorem RepT.val {kvs : List (List Key × D)} {ws : List (List Key × V)} (h : RepT K F kvs ws) (k : List Key) : (∀ d, valD kvs k = some d → ∃ v, valV ws k = some v ∧ Rep K F d v) ∧ (valD kvs k = none → valV ws k = none) := by
  induction kvs generalizing ws with
  | nil => cases h; exact ⟨(fun d e => nomatch e), (fun _ => rfl)⟩
  | cons p kvs ih =>
    cases h with
    | @cons k' d' v' _ vs r t =>
      unfold valD valV
      rw [List.find?_cons, List.find?_cons]
      by_cases e : k' = k
      · simp only [e, decide_true]
        exact ⟨(fun d q => by cases q; exact ⟨_, rfl, r⟩), (fun q => nomatch q)⟩
      · simp only [decide_eq_false e]
        exact ih t
theorem RepK.isSome {kvs : List (Key × D)} {ws : List (Key × V)} (h : RepK K F kvs ws) (k : Key) : (valV ws k).isSome = (valD kvs k).isSome := by
  obtain ⟨h1, h2⟩ := h.val k
  cases e : valD kvs k with
  | none => rw [h2 e]; rfl
  | some d => obtain ⟨v, q, _⟩ := h1 d e; rw [q]; rfl
theorem RepT.isSome {kvs : List (List Key × D)} {ws : List (List Key × V)} (h : RepT K F kvs ws) (k : List Key) : (valV ws k).isSome = (valD kvs k).isSome := by
  obtain ⟨h1, h2⟩ := h.val k
  cases e : valD kvs k with
  | none => rw [h2 e]; rfl
  | some d => obtain ⟨v, q, _⟩ := h1 d e; rw [q]; rfl
theorem RepK.any {kvs : List (Key × D)} {ws : List (Key × V)} (h : RepK K F kvs ws) (k : Key) : (kvs.any fun kv => decide (kv.1 = k)) = ws.any fun kv => decide (kv.1 = k) := by
  induction kvs generalizing ws with
  | nil => cases h; rfl
  | cons p kvs ih =>
    cases h with
    | cons r t => simp only [List.any_cons, ih t]
theorem RepT.any {kvs : List (List Key × D)} {ws : List (List Key × V)} (h : RepT K F kvs ws) (k : List Key) : (kvs.any fun kv => decide (kv.1 = k)) = ws.any fun kv => decide (kv.1 = k) := by
  induction kvs generalizing ws with
  | nil => cases h; rfl
  | cons p kvs ih =>
    cases h with
    | cons r t => simp only [List.any_cons, ih t]
theorem RepK.mapput {d : D} {v : V} (r : Rep K F d v) (k : Key) : ∀ {kvs : List (Key × D)} {ws : List (Key × V)}, RepK K F kvs ws →
    RepK K F (kvs.map fun kv => if kv.1 = k then (kv.1, d) else kv) (ws.map fun kv => if kv.1 = k then (kv.1, v) else kv)
  | _, _, .nil => .nil
  | (k', x) :: _, (_, y) :: _, .cons q t => by
    simp only [List.map_cons]
    by_cases e : k' = k
    · simp only [if_pos e]; exact .cons r (RepK.mapput r k t)
    · simp only [if_neg e]; exact .cons q (RepK.mapput r k t)
theorem RepT.mapput {d : D} {v : V} (r : Rep K F d v) (k : List Key) : ∀ {kvs : List (List Key × D)} {ws : List (List Key × V)}, RepT K F kvs ws →
    RepT K F (kvs.map fun kv => if kv.1 = k then (kv.1, d) else kv) (ws.map fun kv => if kv.1 = k then (kv.1, v) else kv)
  | _, _, .nil => .nil
  | (k', x) :: _, (_, y) :: _, .cons q t => by
    simp only [List.map_cons]
    by_cases e : k' = k
    · simp only [if_pos e]; exact .cons r (RepT.mapput r k t)
    · simp only [if_neg e]; exact .cons q (RepT.mapput r k t)
theorem RepK.snoc {d : D} {v : V} {k : Key} (r : Rep K F d v) : ∀ {kvs : List (Key × D)} {ws : List (Key × V)}, RepK K F kvs ws → RepK K F (kvs ++ [(k, d)]) (ws ++ [(k, v)])
  | _, _, .nil => .cons r .nil
  | _, _, .cons q t => .cons q (RepK.snoc r t)
theorem RepT.snoc {d : D} {v : V} {k : List Key} (r : Rep K F d v) : ∀ {kvs : List (List Key × D)} {ws : List (List Key × V)}, RepT K F kvs ws → RepT K F (kvs ++ [(k, d)]) (ws ++ [(k, v)])
  | _, _, .nil => .cons r .nil
  | _, _, .cons q t => .cons q (RepT.snoc r t)
theorem RepK.put {kvs : List (Key × D)} {ws : List (Key × V)} {d : D} {v : V} (h : RepK K F kvs ws) (k : Key) (r : Rep K F d v) : RepK K F (putE kvs k d) (putK ws k v) := by
  unfold putE putK
  rw [← h.any k]
  split
  · exact RepK.mapput r k h
  · exact h.snoc r
theorem RepT.put {kvs : List (List Key × D)} {ws : List (List Key × V)} {d : D} {v : V} (h : RepT K F kvs ws) (k : List Key) (r : Rep K F d v) : RepT K F (putE kvs k d) (putK ws k v) := by
  unfold putE putK
  rw [← h.any k]
  split
  · exact RepT.mapput r k h
  · exact h.snoc r
end
section
variable {M : Mode} {G : List (Option D)} {L : Led} {K : D → Led → Prop}
theorem op2_of {f : Value → Value → Sem Value} {x y : V} {d : D} (r : R2) (w : V) (ho : ∀ X : Cx, OpR X f r) (hr : ∀ H (Q : VK), Q w H → r x y H Q) (h : K (.v w) L) : Op2 M G L f (.v x) (.v y) K := by
  intro X S F σ H v u a rx ry Q q
  cases rx; cases ry
  exact ⟨r, ho X, hr H Q (q _ L _ F H h a (.v _) (Same.refl _))⟩
theorem op_addI {i j : Int} (h : K (.int (i + j)) L) : Op2 M G L (binaryOp .Add) (.int i) (.int j) K := op2_of (d := .non) _ _ (fun _ => op_add) (fun H Q q => ⟨i, j, rfl, rfl, q⟩) h
theorem op_subI {i j : Int} (h : K (.int (i - j)) L) : Op2 M G L (binaryOp .Sub) (.int i) (.int j) K := op2_of (d := .non) _ _ (fun _ => op_sub) (fun H Q q => ⟨i, j, rfl, rfl, q⟩) h
theorem op_mulI {i j : Int} (hc : CMul i j) (h : K (.int (i * j)) L) : Op2 M G L (binaryOp .Mult) (.int i) (.int j) K := op2_of (d := .non) _ _ (fun _ => op_mul) (fun H Q q => ⟨i, j, rfl, rfl, hc, q⟩) h
theorem op_modI {i j : Int} (hc : 0 < j) (h : K (.int (i % j)) L) : Op2 M G L (binaryOp .Mod) (.int i) (.int j) K := op2_of (d := .non) _ _ (fun _ => op_mod) (fun H Q q => ⟨i, j, rfl, rfl, hc, q⟩) h
theorem op_fdivI {i j : Int} (hc : CDiv i j) (h : K (.int (i / j)) L) : Op2 M G L (binaryOp .FloorDiv) (.int i) (.int j) K := op2_of (d := .non) _ _ (fun _ => op_fdiv) (fun H Q q => ⟨i, j, rfl, rfl, hc, q⟩) h
theorem op_powI {i j : Int} (hc : CPow i j) (h : K (.int (i ^ j.toNat)) L) : Op2 M G L (binaryOp .Pow) (.int i) (.int j) K := op2_of (d := .non) _ _ (fun _ => op_pow) (fun H Q q => ⟨i, j, rfl, rfl, hc, q⟩) h
theorem op_addS {i j : Str} (hc : i.length + j.length ≤ sizeLine) (h : K (.str (i ++ j)) L) : Op2 M G L (binaryOp .Add) (.str i) (.str j) K := op2_of (d := .non) _ _ (fun _ => op_add_str) (fun H Q q => ⟨i, j, rfl, rfl, hc, q⟩) h
theorem op_ltI {i j : Int} (h : K (.bl (decide (i < j))) L) : Op2 M G L (compareOp .Lt) (.int i) (.int j) K := op2_of (d := .non) _ _ (fun _ => op_lt) (fun H Q q => ⟨i, j, rfl, rfl, q⟩) h
theorem op_leI {i j : Int} (h : K (.bl (decide (i ≤ j))) L) : Op2 M G L (compareOp .LtE) (.int i) (.int j) K := op2_of (d := .non) _ _ (fun _ => op_le) (fun H Q q => ⟨i, j, rfl, rfl, q⟩) h
theorem op_gtI {i j : Int} (h : K (.bl (decide (j < i))) L) : Op2 M G L (compareOp .Gt) (.int i) (.int j) K := op2_of (d := .non) _ _ (fun _ => op_gt) (fun H Q q => ⟨i, j, rfl, rfl, q⟩) h
theorem op_geI {i j : Int} (h : K (.bl (decide (j ≤ i))) L) : Op2 M G L (compareOp .GtE) (.int i) (.int j) K := op2_of (d := .non) _ _ (fun _ => op_ge) (fun H Q q => ⟨i, j, rfl, rfl, q⟩) h
theorem op_eqV {x y : V} (hs : scal x y = true) (h : K (.bl (decide (x = y))) L) : Op2 M G L (compareOp .Eq) (.v x) (.v y) K := op2_of (d := .non) _ _ (fun _ => op_eq) (fun H Q q => ⟨hs, q⟩) h
theorem op_neV {x y : V} (hs : scal x y = true) (h : K (.bl (!decide (x = y))) L) : Op2 M G L (compareOp .NotEq) (.v x) (.v y) K := op2_of (d := .non) _ _ (fun _ => op_ne) (fun H Q q => ⟨hs, q⟩) h
theorem op_eqI {i j : Int} (h : K (.bl (decide (i = j))) L) : Op2 M G L (compareOp .Eq) (.int i) (.int j) K := op_eqV rfl (by
  have e : decide (V.int i = V.int j) = decide (i = j) := by simp
  rw [e]; exact h)
theorem op_neI {i j : Int} (h : K (.bl (!decide (i = j))) L) : Op2 M G L (compareOp .NotEq) (.int i) (.int j) K := op_neV rfl (by
  have e : decide (V.int i = V.int j) = decide (i = j) := by simp
  rw [e]; exact h)
theorem op_eqS {i j : Str} (h : K (.bl (decide (i = j))) L) : Op2 M G L (compareOp .Eq) (.str i) (.str j) K := op_eqV rfl (by
  have e : decide (V.str i = V.str j) = decide (i = j) := by simp
  rw [e]; exact h)
theorem op_neS {i j : Str} (h : K (.bl (!decide (i = j))) L) : Op2 M G L (compareOp .NotEq) (.str i) (.str j) K := op_neV rfl (by
  have e : decide (V.str i = V.str j) = decide (i = j) := by simp
  rw [e]; exact h)
theorem op_eqB {i j : Bool} (h : K (.bl (decide (i = j))) L) : Op2 M G L (compareOp .Eq) (.bl i) (.bl j) K := op_eqV rfl (by
  have e : decide (V.bl i = V.bl j) = decide (i = j) := by simp
  rw [e]; exact h)
theorem op_neB {i j : Bool} (h : K (.bl (!decide (i = j))) L) : Op2 M G L (compareOp .NotEq) (.bl i) (.bl j) K := op_neV rfl (by
  have e : decide (V.bl i = V.bl j) = decide (i = j) := by simp
  rw [e]; exact h)
/-- is None of anything -/
def isN : D → Bool
  | .v .non => true
  | _ => false
theorem rep_isN {Kk : PySem.W.Frag} {F : Hp} {x : D} {v : V} (r : Rep Kk F x v) : decide (v = .non) = isN x := by
  cases r with
  | v => cases v <;> rfl
  | tup _ _ => rfl
  | ctup _ _ => rfl
  | lst _ _ => rfl
  | sq _ _ => rfl
  | dK _ _ => rfl
  | dT _ _ => rfl
  | ob _ _ => rfl
theorem op_isN {x : D} (h : K (.bl (isN x)) L) : Op2 M G L (compareOp .Is) x .non K := by
  intro X S F σ H v u a rx ry Q q
  cases ry
  refine ⟨_, L2.op_isN, rfl, ?_⟩
  rw [rep_isN rx]
  exact q _ L _ F H h a (.v _) (Same.refl _)
theorem op_notN {x : D} (h : K (.bl (!isN x)) L) : Op2 M G L (compareOp .IsNot) x .non K := by
  intro X S F σ H v u a rx ry Q q
  cases ry
  refine ⟨_, L2.op_notN, rfl, ?_⟩
  rw [rep_isN rx]
  exact q _ L _ F H h a (.v _) (Same.refl _)
/-- in, over lists and tuples of flat things -/
def flatD : D → Bool
  | .v x => flatV x
  | _ => false
def inD (x : V) (ds : List D) : Bool := ds.any fun d => match d with
  | .v y => eqV y x
  | _ => false
theorem flat_reps {Kk : PySem.W.Frag} {F : Hp} {x : V} : ∀ {ds : List D} {vs : List V}, RepA Kk F ds vs → ds.all flatD = true → vs.all flatV = true ∧ inV x vs = inD x ds
  | _, _, .nil, _ => ⟨rfl, rfl⟩
  | d :: ds, v :: vs, .cons r t, h => by
    rw [List.all_cons, Bool.and_eq_true] at h
    obtain ⟨h1, h2⟩ := flat_reps (x := x) t h.2
    cases r with
    | v y =>
      refine ⟨by rw [List.all_cons, h1, Bool.and_true]; exact h.1, ?_⟩
      unfold inV inD at h2 ⊢
      rw [List.any_cons, List.any_cons, h2]
    | tup _ _ => exact absurd h.1 (fun z => nomatch z)
    | ctup _ _ => exact absurd h.1 (fun z => nomatch z)
    | lst _ _ => exact absurd h.1 (fun z => nomatch z)
    | sq _ _ => exact absurd h.1 (fun z => nomatch z)
    | dK _ _ => exact absurd h.1 (fun z => nomatch z)
    | dT _ _ => exact absurd h.1 (fun z => nomatch z)
    | ob _ _ => exact absurd h.1 (fun z => nomatch z)
inductive IsSq (L : Led) : D → List D → Prop
  | tup {ds : List D} : IsSq L (.tup ds) ds
  | ctup {ds : List D} : IsSq L (.ctup ds) ds
  | lst {x : D} {ds : List D} : IsL L x ds → IsSq L x ds
theorem IsSq.get {Kk : PySem.W.Frag} {H0 F0 F H : Hp} {σ : St} {x : D} {v : V} {ds : List D} (h : IsSq L x ds) (a : At Kk H0 F0 G L F σ H) (r : Rep Kk F x v) : ∃ p vs, v = .ref p ∧ (SqL Kk H p vs ∨ SqT Kk H p vs) ∧ RepA Kk F ds vs := by
  cases h with
  | tup =>
    obtain ⟨p, vs, e, h1, h2⟩ := tup_get a r
    exact ⟨p, vs, e, .inr h1, h2⟩
  | ctup =>
    obtain ⟨p, vs, e, h1, h2⟩ := tup_of a rfl r
    exact ⟨p, vs, e, .inr h1, h2⟩
  | lst h =>
    obtain ⟨p, vs, e, h1, h2⟩ := h.get a r
    exact ⟨p, vs, e, .inl (SqL.of h1), h2⟩
theorem op_inQ {x : V} {y : D} {ds : List D} (hy : IsSq L y ds) (hx : flatV x = true) (hd : ds.all flatD = true) (h : K (.bl (inD x ds)) L) : Op2 M G L (compareOp .In) (.v x) y K := by
  intro X S F σ H v u a rx ry Q q
  cases rx
  obtain ⟨p, vs, rfl, h1, h2⟩ := hy.get a ry
  obtain ⟨h3, h4⟩ := flat_reps (x := x) h2 hd
  refine ⟨_, op_in_seq, p, vs, rfl, by rw [← S.ok.eK]; exact h1, hx, h3, ?_⟩
  show Q (.bl (if false = true then _ else inV x vs)) H
  rw [if_neg Bool.false_ne_true, h4]
  exact q _ L _ F H h a (.v _) (Same.refl _)
theorem op_niQ {x : V} {y : D} {ds : List D} (hy : IsSq L y ds) (hx : flatV x = true) (hd : ds.all flatD = true) (h : K (.bl (!inD x ds)) L) : Op2 M G L (compareOp .NotIn) (.v x) y K := by
  intro X S F σ H v u a rx ry Q q
  cases rx
  obtain ⟨p, vs, rfl, h1, h2⟩ := hy.get a ry
  obtain ⟨h3, h4⟩ := flat_reps (x := x) h2 hd
  refine ⟨_, op_notIn_seq, p, vs, rfl, by rw [← S.ok.eK]; exact h1, hx, h3, ?_⟩
  show Q (.bl (if true = true then !inV x vs else _)) H
  rw [if_pos rfl, h4]
  exact q _ L _ F H h a (.v _) (Same.refl _)
/-- dicts -/
theorem din_R {X : Cx} (hu : X.A.units + 1 < cLine) : OpR X (compareOp .In) (fun y x H Q => ∃ a o, x = .ref a ∧ DGet H a y o ∧ Q (.bl o.isSome) H) := by
  intro pins s σ H x y v u Q I rx ry h
  obtain ⟨a, o, rfl, g, q⟩ := h
  cases ry
  exact d_in hu I g rx fun s' I' => ⟨.bl _, H, I', rfl, q⟩
theorem dni_R {X : Cx} (hu : X.A.units + 1 < cLine) : OpR X (compareOp .NotIn) (fun y x H Q => ∃ a o, x = .ref a ∧ DGet H a y o ∧ Q (.bl (!o.isSome)) H) := by
  intro pins s σ H x y v u Q I rx ry h
  obtain ⟨a, o, rfl, g, q⟩ := h
  cases ry
  exact d_notIn hu I g rx fun s' I' => ⟨.bl _, H, I', rfl, q⟩
theorem sit_hu {X : Cx} (S : Sit M X) (hc : M.C.cm = true) : X.A.units + 1 < cLine := Nat.lt_of_le_of_lt (Nat.add_le_add_left (by decide : 1 ≤ 64) _) (S.ok.room hc).units
theorem op_inK (hc : M.C.cm = true) {y : D} {kvs : List (Key × D)} {k : Key} (hy : IsK L y kvs) (h : K (.bl (valD kvs k).isSome) L) : Op2 M G L (compareOp .In) (.v (kV k)) y K := by
  intro X S F σ H v u a rx ry Q q
  cases rx
  obtain ⟨p, ws, rfl, h1, h2⟩ := hy.get a ry
  refine ⟨_, din_R (sit_hu S hc), p, valV ws k, rfl, .inl ⟨ws, k, h1, rfl, rfl⟩, ?_⟩
  rw [h2.isSome]
  exact q _ L _ F H h a (.v _) (Same.refl _)
theorem op_niK (hc : M.C.cm = true) {y : D} {kvs : List (Key × D)} {k : Key} (hy : IsK L y kvs) (h : K (.bl (!(valD kvs k).isSome)) L) : Op2 M G L (compareOp .NotIn) (.v (kV k)) y K := by
  intro X S F σ H v u a rx ry Q q
  cases rx
  obtain ⟨p, ws, rfl, h1, h2⟩ := hy.get a ry
  refine ⟨_, dni_R (sit_hu S hc), p, valV ws k, rfl, .inl ⟨ws, k, h1, rfl, rfl⟩, ?_⟩
  rw [h2.isSome]
  exact q _ L _ F H h a (.v _) (Same.refl _)
/-- xs + ys -/
theorem op_catL {x y : D} {ds es : List D} (hx : IsL L x ds) (hy : IsL L y es) (hl : ds.length + es.length ≤ sizeLine) (h : ∀ p, K (.ref p) ((p, .lst (ds ++ es)) :: L)) : Op2 M G L (binaryOp .Add) x y K := by
  intro X S F σ H v u a rx ry Q q
  obtain ⟨p1, vs, rfl, h1, h2⟩ := hx.get a rx
  obtain ⟨p2, ws, rfl, h3, h4⟩ := hy.get a ry
  refine ⟨_, op_cat, p1, p2, vs, ws, rfl, rfl, h1, h3, by rw [← h2.length, ← h4.length]; exact hl, fun p hp => ?_⟩
  exact q _ _ _ F _ (h p) (a.new hp (.lst upd_same (h2.append h4))) (.v _) (Same.refl _)
theorem ix_L {x : D} {ds : List D} {i : Int} {d : D} (hx : IsL L x ds) (hi : atI ds i = some d) (h : K d L) : IxV M G L x (.int i) K := by
  intro X S F σ H v u a rx ry Q q
  cases ry
  obtain ⟨p, vs, rfl, h1, h2⟩ := hx.get a rx
  unfold atI at hi
  rw [h2.length] at hi
  obtain ⟨j, e1, e2⟩ := Option.bind_eq_some_iff.mp hi
  obtain ⟨w, e3, rw'⟩ := h2.get e2
  refine ⟨_, ix_list, p, vs, i, w, rfl, rfl, SqL.of h1, ?_, q _ L _ F H h a rw' (Same.refl _)⟩
  unfold atI
  rw [e1]
  exact e3
theorem ix_T {ds : List D} {i : Int} {d : D} (hi : atI ds i = some d) (h : K d L) : IxV M G L (.tup ds) (.int i) K := by
  intro X S F σ H v u a rx ry Q q
  cases ry
  obtain ⟨p, vs, rfl, h1, h2⟩ := tup_get a rx
  unfold atI at hi
  rw [h2.length] at hi
  obtain ⟨j, e1, e2⟩ := Option.bind_eq_some_iff.mp hi
  obtain ⟨w, e3, rw'⟩ := h2.get e2
  refine ⟨_, ix_tup, p, vs, i, w, rfl, rfl, by rw [← S.ok.eK]; exact h1, ?_, q _ L _ F H h a rw' (Same.refl _)⟩
  unfold atI
  rw [e1]
  exact e3
theorem ev_ix {a b : Expr} {pos : Pos} (h : Ev M G L a fun x L1 => Ev M G L1 b fun y L2 => IxV M G L2 x y K) (hs : PlainIx b := by exact fun _ _ => rfl) : Ev M G L (.Subscript a b pos) K := by
  intro X S F σ H A Q q
  refine ⟨tOp (GIx X) (GE X a) (GE X b), pe_ix bix be be hs, ?_⟩
  refine h X S F σ H A _ fun x L1 v F1 H1 k1 A1 r1 s1 => ?_
  refine k1 X S F1 σ H1 A1 _ fun y L2 u F2 H2 k2 A2 r2 s2 => ?_
  exact k2 X S F2 σ H2 v u A2 (r1.mono s2) r2 Q fun d L3 w F3 H3 k3 A3 r3 s3 => q d L3 w F3 H3 k3 A3 r3 ((s1.trans s2).trans s3)
/-- parts of a slice: written, or left out -/
def EvP (M : Mode) (G : List (Option D)) (L : Led) (e : Option Expr) (K : Option Int → Led → Prop) : Prop := match e with
  | none => K none L
  | some e => Ev M G L e fun d L1 => ∃ i, d = .int i ∧ K (some i) L1
theorem EvP.go {e : Option Expr} {KI : Option Int → Led → Prop} (h : EvP M G L e KI) : ∀ X, Sit M X → ∃ t, PO X e t ∧ ∀ F σ H, M.at G L F σ H → ∀ Q : Option Int → Hp → Prop, (∀ o L' F' H', KI o L' → M.at G L' F' σ H' → Same F F' → Q o H') → t σ H Q := by
  intro X S
  cases e with
  | none => exact ⟨_, po_none, fun F σ H A Q q => q none L F H h A (Same.refl _)⟩
  | some e =>
    refine ⟨_, po_some be, fun F σ H A Q q => ?_⟩
    refine h X S F σ H A _ fun d L1 v F1 H1 k1 A1 r1 s1 => ?_
    obtain ⟨i, rfl, hk⟩ := k1
    cases r1
    exact ⟨i, rfl, q _ L1 F1 H1 hk A1 s1⟩
end
end TL
namespace TL
open PySem L2
structure TD where
  nx : List (Option D) → Led → Prop
  rt : D → Led → Prop
  bk : List (Option D) → Led → Prop := fun _ _ => False
  ct : List (Option D) → Led → Prop := fun _ _ => False
structure EndsOk (M : Mode) (D : TD) (E : Ends) : Prop where
  nx : ∀ G L F σ H, D.nx G L → M.at G L F σ H → E.nx σ H
  rt : ∀ d G L v F σ H, D.rt d L → M.at G L F σ H → Rep M.C.K F d v → E.rt v H
  bk : ∀ G L F σ H, D.bk G L → M.at G L F σ H → E.bk σ H
  ct : ∀ G L F σ H, D.ct G L → M.at G L F σ H → E.ct σ H
def Run (M : Mode) (G : List (Option D)) (L : Led) (ss : List Stmt) (D : TD) : Prop := ∀ X, Sit M X → ∀ F σ H, M.at G L F σ H → ∀ E, EndsOk M D E → GSs X ss E σ H
def Tgt (M : Mode) (G : List (Option D)) (L : Led) (tg : Expr) (d : D) (K : List (Option D) → Led → Prop) : Prop :=
  ∀ X, Sit M X → ∀ F σ H v, M.at G L F σ H → Rep M.C.K F d v → ∀ Q : St → Hp → Prop, (∀ G' L' F' σ' H', K G' L' → M.at G' L' F' σ' H' → Same F F' → Q σ' H') → GG X tg v σ H Q
section
variable {M : Mode} {G : List (Option D)} {L : Led} {pos : Pos} {rest : List Stmt} {E : TD}
theorem gss_cons {X : Cx} {st : Stmt} {rest : List Stmt} {D : Ends} {σ : St} {H : Hp} (h : GS X st { D with nx := fun σ' H' => GSs X rest D σ' H' } σ H) : GSs X (st :: rest) D σ H := ⟨_, pss_cons bs bss, h⟩
theorem run_nil (h : E.nx G L) : Run M G L [] E := fun X S F σ H A D o => ⟨_, pss_nil, o.nx G L F σ H h A⟩
/-- one statement, for what stands behind it -/
theorem EndsOk.seq {D : Ends} {X : Cx} (o : EndsOk M E D) (S : Sit M X) {rest : List Stmt} : EndsOk M { E with nx := fun G' L' => Run M G' L' rest E } { D with nx := fun σ' H' => GSs X rest D σ' H' } :=
  ⟨fun G L F σ H h A => h X S F σ H A D o, o.rt, o.bk, o.ct⟩
theorem run_pass (h : Run M G L rest E) : Run M G L (.Pass pos :: rest) E := fun X S F σ H A D o => gss_cons ⟨_, ps_pass, h X S F σ H A D o⟩
theorem run_break (h : E.bk G L) : Run M G L (.Break pos :: rest) E := fun X S F σ H A D o => gss_cons ⟨_, ps_break, o.bk G L F σ H h A⟩
theorem run_cont (h : E.ct G L) : Run M G L (.Continue pos :: rest) E := fun X S F σ H A D o => gss_cons ⟨_, ps_continue, o.ct G L F σ H h A⟩
theorem run_ret {e : Expr} (h : Ev M G L e fun d L1 => E.rt d L1) : Run M G L (.Return (some e) pos :: rest) E := by
  intro X S F σ H A D o
  refine gss_cons ⟨_, ps_ret be, ?_⟩
  exact h X S F σ H A _ fun d L1 v F1 H1 k1 A1 r1 s1 => o.rt d G L1 v F1 σ H1 k1 A1 r1
theorem run_retN (h : E.rt .non L) : Run M G L (.Return none pos :: rest) E := by
  intro X S F σ H A D o
  refine gss_cons ⟨_, ps_retN, ?_⟩
  exact o.rt _ G L _ F σ H h A (.v _)
theorem run_expr {e : Expr} (h : Ev M G L e fun _ L1 => Run M G L1 rest E) (hs : ∀ X : Cx, swapsWith e none pos.line X.env = pure false := by intro _; rfl) : Run M G L (.Expr e pos :: rest) E := by
  intro X S F σ H A D o
  refine gss_cons ⟨_, ps_expr be (hs X), ?_⟩
  exact h X S F σ H A _ fun d L1 v F1 H1 k1 A1 r1 s1 => k1 X S F1 σ H1 A1 D o
theorem run_if {c : Expr} {a b : List Stmt} (h : Tst M G L c fun k L1 => (k = true → Run M G L1 a { E with nx := fun G' L' => Run M G' L' rest E }) ∧ (k = false → Run M G L1 b { E with nx := fun G' L' => Run M G' L' rest E })) :
    Run M G L (.If c a b pos :: rest) E := by
  intro X S F σ H A D o
  refine gss_cons ⟨_, ps_if bt bss bss, ?_⟩
  refine h X S F σ H A _ fun k L1 F1 H1 k1 A1 s1 => ?_
  cases k with
  | true =>
    rw [if_pos rfl]
    exact k1.1 rfl X S F1 σ H1 A1 _ (o.seq S)
  | false =>
    rw [if_neg Bool.false_ne_true]
    exact k1.2 rfl X S F1 σ H1 A1 _ (o.seq S)
def Loc' (M : Mode) (x : Str) : Prop := M.C.sc.names.lookup x = some .local ∨ (M.C.sc.names.lookup x = some .cell ∧ M.C.df x = true)
theorem Loc'.loc {x : Str} (h : Loc' M x) {X : Cx} (S : Sit M X) : Loc X.env.scope x ∧ (X.fn x = true ∨ X.env.scope.names.lookup x = some .local) := by
  rw [← S.ok.es]
  rcases h with h | ⟨h, e⟩
  · exact ⟨.inl h, .inr h⟩
  · exact ⟨.inr h, .inl (S.ok.fn x e)⟩
theorem run_set {x : Str} {p : Pos} {e : Expr} (hx : Loc' M x) (hn : x ∈ M.C.N) (h : Ev M G L e fun d L1 => ∃ G', Put M.C.N G x (some d) G' ∧ Run M G' L1 rest E) (hs : ∀ X : Cx, swapsWith e (some (.Name x p)) pos.line X.env = pure false := by intro _; rfl) :
    Run M G L (.Assign [.Name x p] e pos :: rest) E := by
  intro X S F σ H A D o
  obtain ⟨hl, hf⟩ := hx.loc S
  obtain ⟨i, hi⟩ := List.getElem?_of_mem hn
  have nd : X.N.Nodup := by rw [← S.ok.eN]; exact S.ok.nd
  rw [S.ok.eN] at hi
  refine gss_cons ⟨_, ps_set (i := i) nd hi hl be (hs X) hf, ?_⟩
  refine h X S F σ H A _ fun d L1 v F1 H1 k1 A1 r1 s1 => ?_
  obtain ⟨G', hp, hr⟩ := k1
  obtain ⟨j, hj, rfl⟩ := hp.ix
  rw [S.ok.eN] at hj
  have e : j = i := nodup_ix nd hj hi
  subst e
  exact hr X S F1 _ H1 (A1.set r1) D o
/-- any target but a plain name -/
theorem run_asg {tg e : Expr} (h : Ev M G L e fun d L1 => Tgt M G L1 tg d fun G2 L2 => Run M G2 L2 rest E)
    (hs : ∀ X : Cx, swapsWithSole [tg] e pos.line X.env = pure false := by intro _; rfl) (hw : ∀ X : Cx, swappedStores [tg] e X.env = pure none := by intro _; rfl)
    (h1 : ∀ X : Cx, (assignEach [tg] X.env).map (·.2) = [assign tg X.env] := by intro _; rfl) : Run M G L (.Assign [tg] e pos :: rest) E := by
  intro X S F σ H A D o
  refine gss_cons ⟨_, ps_asg be bg (hs X) (hw X) (h1 X), ?_⟩
  refine h X S F σ H A _ fun d L1 v F1 H1 k1 A1 r1 s1 => ?_
  exact k1 X S F1 σ H1 v A1 r1 _ fun G2 L2 F2 σ2 H2 k2 A2 _ => k2 X S F2 σ2 H2 A2 D o
/-- name op= e -/
theorem run_aug {x : Str} {p : Pos} {op : Operator} {e : Expr} {d0 : D} (hx : Loc' M x) (hl : Look M.C.N G x (some d0)) (h : Ev M G L e fun d L1 => Ip2 M G L1 op d0 d fun z L2 => ∃ G', Put M.C.N G x (some z) G' ∧ Run M G' L2 rest E) :
    Run M G L (.AugAssign (.Name x p) op e pos :: rest) E := by
  intro X S F σ H A D o
  obtain ⟨hlc, hf⟩ := hx.loc S
  have nd : X.N.Nodup := by rw [← S.ok.eN]; exact S.ok.nd
  obtain ⟨i, hi, hg⟩ := hl.ix
  rw [S.ok.eN] at hi
  obtain ⟨v0, hv0, r0⟩ := A.env.get hg
  refine gss_cons ⟨_, ps_aug (i := i) nd hi hlc be bip hf, v0, hv0, ?_⟩
  refine h X S F σ H A _ fun d L1 v F1 H1 k1 A1 r1 s1 => ?_
  refine k1 X S F1 σ H1 v0 v A1 (r0.mono s1) r1 _ fun z L2 u F2 H2 k2 A2 r2 s2 => ?_
  obtain ⟨G', hp, hr⟩ := k2
  obtain ⟨j, hj, rfl⟩ := hp.ix
  rw [S.ok.eN] at hj
  have e : j = i := nodup_ix nd hj hi
  subst e
  exact hr X S F2 _ H2 (A2.set r2) D o
theorem ip_addI {i j : Int} {K : D → Led → Prop} (h : K (.int (i + j)) L) : Ip2 M G L .Add (.int i) (.int j) K := by
  intro X S F σ H v u A r1 r2 Q q
  cases r1; cases r2
  exact ⟨_, ip_add, i, j, rfl, rfl, q _ L _ F H h A (.v _) (Same.refl _)⟩
theorem tgt_name {x : Str} {p : Pos} {d : D} {K : List (Option D) → Led → Prop} {G' : List (Option D)} (hx : Loc' M x) (hp : Put M.C.N G x (some d) G') (h : K G' L) : Tgt M G L (.Name x p) d K := by
  intro X S F σ H v A r Q q
  obtain ⟨hlc, hf⟩ := hx.loc S
  obtain ⟨i, hi, rfl⟩ := hp.ix
  rw [S.ok.eN] at hi
  exact ⟨_, pg_name (i := i) (by rw [← S.ok.eN]; exact S.ok.nd) hi hlc hf, q _ L F _ H h (A.set r) (Same.refl _)⟩
/-- targets, one after another -/
def Tgts (M : Mode) (G : List (Option D)) (L : Led) : List Expr → List D → (List (Option D) → Led → Prop) → Prop
  | [], ds, K => ds = [] ∧ K G L
  | tg :: tgs, ds, K => ∃ d r, ds = d :: r ∧ Tgt M G L tg d fun G1 L1 => Tgts M G1 L1 tgs r K
def GGs (X : Cx) (ts : List Expr) (vs : List V) (σ : St) (H : Hp) (Q : St → Hp → Prop) : Prop := ∃ t, PGs X ts t ∧ t vs σ H Q
theorem bgs {X : Cx} {ts : List Expr} : PGs X ts (GGs X ts) := ⟨fun pins s σ H vs us Q I r ⟨_, h, q⟩ => h.run pins s σ H vs us Q I r q⟩
theorem Tgts.go : ∀ {ts : List Expr} {M : Mode} {G : List (Option D)} {L : Led} {ds : List D} {K : List (Option D) → Led → Prop}, Tgts M G L ts ds K →
    (hs : ∀ (X : Cx) (e : Expr) (es : List Expr), (e :: es) <:+ ts → (assignEach (e :: es) X.env).map (·.2) = assign e X.env :: (assignEach es X.env).map (·.2)) →
    ∀ X, Sit M X → ∀ F σ H vs, M.at G L F σ H → RepA M.C.K F ds vs → ∀ Q : St → Hp → Prop, (∀ G' L' F' σ' H', K G' L' → M.at G' L' F' σ' H' → Same F F' → Q σ' H') → GGs X ts vs σ H Q
  | [], M, G, L, ds, K, h, hs, X, S, F, σ, H, vs, A, r, Q, q => by
    obtain ⟨rfl, h⟩ := h
    cases r
    exact ⟨_, pgs_nil, rfl, q G L F σ H h A (Same.refl _)⟩
  | t :: ts, M, G, L, ds, K, h, hs, X, S, F, σ, H, vs, A, r, Q, q => by
    obtain ⟨d, rs, rfl, h⟩ := h
    cases r with
    | cons r1 r2 =>
      refine ⟨_, pgs_cons bg bgs (hs X t ts (List.suffix_refl _)), _, _, rfl, ?_⟩
      refine h X S F σ H _ A r1 _ fun G1 L1 F1 σ1 H1 k1 A1 s1 => ?_
      exact Tgts.go k1 (fun X e es hm => hs X e es (hm.trans (List.suffix_cons _ _))) X S F1 σ1 H1 _ A1 (r2.mono s1) Q fun G' L' F' σ' H' kk AA ss => q G' L' F' σ' H' kk AA (s1.trans ss)
theorem tgt_tup (hc : M.C.cm = true) {es : List Expr} {k : Nat} {ds : List D} {K : List (Option D) → Led → Prop} (h : Tgts M G L es ds K) (hl : ds.length = es.length)
    (hn : ∀ X : Cx, (assignEach es X.env).length = es.length := by intro _; rfl) (hst : ∀ X : Cx, (assignEach es X.env).findIdx? (·.1) = none := by intro _; rfl)
    (hs : ∀ (X : Cx) (e : Expr) (fs : List Expr), (e :: fs) <:+ es → (assignEach (e :: fs) X.env).map (·.2) = assign e X.env :: (assignEach fs X.env).map (·.2)) : Tgt M G L (.Tuple es k pos) (.tup ds) K := by
  intro X S F σ H v A r Q q
  obtain ⟨p, vs, rfl, h1, h2⟩ := tup_get A r
  refine ⟨_, pg_tup (n := es.length) (S.ok.calm hc) bgs (hn X) (hst X), p, vs, rfl, by rw [← S.ok.eK]; exact h1, by rw [← h2.length]; exact hl, ?_⟩
  exact h.go hs X S F σ H vs A h2 Q q
theorem two_sfx {a b e : Expr} {fs : List Expr} (h : (e :: fs) <:+ [a, b]) : (e = a ∧ fs = [b]) ∨ (e = b ∧ fs = []) := by
  obtain ⟨t, ht⟩ := h
  match t, ht with
  | [], ht => cases ht; exact .inl ⟨rfl, rfl⟩
  | [_], ht => cases ht; exact .inr ⟨rfl, rfl⟩
  | [_, _], ht => cases ht
  | _ :: _ :: _ :: _, ht => cases ht
/-- a, b = a pair -/
theorem tgt_two (hc : M.C.cm = true) {a b : Expr} {k : Nat} {d e : D} {K : List (Option D) → Led → Prop} (h : Tgt M G L a d fun G1 L1 => Tgt M G1 L1 b e K)
    (hn : ∀ X : Cx, (assignEach [a, b] X.env).length = 2 := by intro _; rfl) (hst : ∀ X : Cx, (assignEach [a, b] X.env).findIdx? (·.1) = none := by intro _; rfl)
    (h1 : ∀ X : Cx, (assignEach [a, b] X.env).map (·.2) = assign a X.env :: (assignEach [b] X.env).map (·.2) := by intro _; rfl) (h2 : ∀ X : Cx, (assignEach [b] X.env).map (·.2) = assign b X.env :: (assignEach [] X.env).map (·.2) := by intro _; rfl) :
    Tgt M G L (.Tuple [a, b] k pos) (.tup [d, e]) K :=
  tgt_tup hc (es := [a, b]) ⟨d, [e], rfl, fun X S F σ H v A r Q q => h X S F σ H v A r Q fun G1 L1 F1 σ1 H1 k1 A1 s1 => q G1 L1 F1 σ1 H1 ⟨e, [], rfl, fun X S F σ H v A r Q q => k1 X S F σ H v A r Q fun G2 L2 F2 σ2 H2 k2 A2 s2 => q G2 L2 F2 σ2 H2 ⟨rfl, k2⟩ A2 s2⟩ A1 s1⟩ rfl hn hst
    fun X e fs hm => by
      rcases two_sfx hm with ⟨rfl, rfl⟩ | ⟨rfl, rfl⟩
      · exact h1 X
      · exact h2 X
@[reducible] def Mode.fix (M : Mode) (F : Hp) : Mode := { M with F0 := F }
theorem At.fixed {F : Hp} {σ : St} {H : Hp} (A : M.at G L F σ H) : (M.fix F).at G L F σ H := ⟨Same.refl _, A.eh, A.fh, fun _ _ _ _ h => h, A.own, A.nd, A.env⟩
theorem At.unfix {F F' : Hp} {σ σ' : St} {H H' : Hp} {G' : List (Option D)} {L' : Led} (A : M.at G L F σ H) (B : (M.fix F).at G' L' F' σ' H') : M.at G' L' F' σ' H' :=
  ⟨A.ef.trans B.ef, B.eh, B.fh, fun a o h1 ht h2 => B.nf a o h1 ht (A.nf a o h1 ht h2), B.own, B.nd, B.env⟩
theorem Sit.fix {X : Cx} (S : Sit M X) {F : Hp} {σ : St} {H : Hp} (A : M.at G L F σ H) : Sit (M.fix F) X := by
  obtain ⟨ok, W, tk, hk⟩ := S
  exact ⟨ok, W, tk, fun ex G' L' F' σ' H' v d ht B he => hk ex G' L' F' σ' H' v d ht (A.unfix B) he⟩
/-- J goes through items, as long as src is in the ledger -/
def Goes (M : Mode) (J : It) (src : Led) (items : List D) : Prop := ∀ G L F σ H, M.at G L F σ H → (∀ s ∈ src, s ∈ L) → ∀ i : Nat,
  (∀ d, items[i]? = some d → J.go i H ∧ ∀ x H', J.yld i H x H' → ∃ F', M.at G L F' σ H' ∧ Rep M.C.K F' d x) ∧ (items.length ≤ i → J.stop i H)
/-- .. from one state on -/
def EvI1 (M : Mode) (G : List (Option D)) (X : Cx) (F : Hp) (σ : St) (H : Hp) (tg iter : Expr) (K : Led → List D → Led → Prop) : Prop := ∀ R : It → Hp → Prop,
  (∀ J src items L' F' H', K src items L' → Goes (M.fix F') J src items → M.at G L' F' σ H' → Same F F' → R J H') → GI X tg iter σ H R
def EvI (M : Mode) (G : List (Option D)) (L : Led) (tg iter : Expr) (K : Led → List D → Led → Prop) : Prop := ∀ X, Sit M X → ∀ F σ H, M.at G L F σ H → EvI1 M G X F σ H tg iter K
abbrev TD.turn (T : TD) (I : List (Option D) → Led → Prop) (R : List (Option D) → Led → Prop) : TD := { nx := I, ct := I, bk := R, rt := T.rt }
/-- what a loop follows -/
def ForInv (M : Mode) (G : List (Option D)) (tg : Expr) (body : List Stmt) (E : TD) (src : Led) (items : List D) (L1 : Led) : Prop := ∃ I : Nat → List (Option D) → Led → Prop, I 0 G L1 ∧ (∀ i G' L', I i G' L' → ∀ s ∈ src, s ∈ L') ∧
      (∀ F1 i d G' L', items[i]? = some d → I i G' L' → Tgt (M.fix F1) G' L' tg d fun G2 L2 => Run (M.fix F1) G2 L2 body (E.turn (I (i + 1)) E.nx)) ∧
      ∀ G' L', I items.length G' L' → E.nx G' L'
theorem for_go {tg iter : Expr} {body : List Stmt} {X : Cx} {F : Hp} {σ : St} {H : Hp} {D : Ends} (S : Sit M X) (A : M.at G L F σ H) (h : EvI1 M G X F σ H tg iter fun src items L1 => ForInv M G tg body E src items L1) (o : EndsOk M E D) :
    tFor (GI X tg iter) (GG X tg) (GSs X body) D σ H := by
  refine h _ fun J src items L1 F1 H1 k1 g1 A1 s1 => ?_
  obtain ⟨I, i0, isrc, turn, done⟩ := k1
  have S1 := S.fix A1
  refine ⟨fun i m σ' H' => m = items.length - i ∧ i ≤ items.length ∧ ∃ G' L' F', (M.fix F1).at G' L' F' σ' H' ∧ I i G' L', ⟨items.length, by simp, Nat.zero_le _, G, L1, F1, A1.fixed, i0⟩, ?_⟩
  rintro i m σ' H' ⟨rfl, hi, G', L', F', A', iv⟩
  obtain ⟨q1, q2⟩ := g1 G' L' F' σ' H' A' (isrc i G' L' iv) i
  by_cases hlt : i < items.length
  · obtain ⟨go, yl⟩ := q1 items[i] (by simp [hlt])
    refine .inr ⟨go, fun σ2 H2 => ∃ G' L' F', (M.fix F1).at G' L' F' σ2 H2 ∧ I (i + 1) G' L', fun σ2 H2 ⟨G2, L2, F2, A2, iv2⟩ => ⟨items.length - (i + 1), by omega, rfl, hlt, G2, L2, F2, A2, iv2⟩, fun x H2 y => ?_⟩
    obtain ⟨F2, A2, r2⟩ := yl x H2 y
    refine turn F1 i _ G' L' (by simp [hlt]) iv X S1 F2 σ' H2 x A2 r2 _ fun G3 L3 F3 σ3 H3 k3 A3 _ => ?_
    refine k3 X S1 F3 σ3 H3 A3 _ ⟨fun G L F σ H h A => ⟨G, L, F, A, h⟩, fun d G L v F σ H h A r => o.rt d G L v F σ H h (A1.unfix A) r, fun G L F σ H h A => o.nx G L F σ H h (A1.unfix A), fun G L F σ H h A => ⟨G, L, F, A, h⟩⟩
  · have e : i = items.length := by omega
    subst e
    exact .inl ⟨q2 (Nat.le_refl _), o.nx G' L' F' σ' H' (done G' L' iv) (A1.unfix A')⟩
theorem run_for {tg iter : Expr} {body : List Stmt} (hlp : M.C.lp = true) (hc : M.C.cm = true) (h : EvI M G L tg iter fun src items L1 => ForInv M G tg body { E with nx := fun G' L' => Run M G' L' rest E } src items L1)
    (hs : ∀ (X : Cx) x, foldedSetIterable iter X.env x = pure x := by intro _ _; rfl) : Run M G L (.For tg iter body [] pos :: rest) E := by
  intro X S F σ H A D o
  exact gss_cons ⟨_, ps_for (S.ok.po hlp) (S.ok.calm hc) bi bg bss (hs X), for_go S A (h X S F σ H A) (o.seq S)⟩
theorem run_while {c : Expr} {body : List Stmt} (hlp : M.C.lp = true) (I : Nat → List (Option D) → Led → Prop) (m0 : Nat) (h0 : I m0 G L)
    (hs : ∀ m G' L', I m G' L' → Tst M G' L' c fun k L1 => (k = true → Run M G' L1 body (E.turn (fun G2 L2 => ∃ m', m' < m ∧ I m' G2 L2) fun G2 L2 => Run M G2 L2 rest E)) ∧ (k = false → Run M G' L1 rest E)) : Run M G L (.While c body [] pos :: rest) E := by
  intro X S F σ H A D o
  refine gss_cons ⟨_, ps_while (S.ok.po hlp) bt bss, ?_⟩
  refine ⟨fun m σ' H' => ∃ G' L' F', M.at G' L' F' σ' H' ∧ I m G' L', ⟨m0, G, L, F, A, h0⟩, ?_⟩
  rintro m σ' H' ⟨G', L', F', A', iv⟩
  refine hs m G' L' iv X S F' σ' H' A' _ fun k L1 F1 H1 k1 A1 s1 => ?_
  cases k with
  | true =>
    rw [if_pos rfl]
    refine ⟨fun σ2 H2 => ∃ m', m' < m ∧ ∃ G2 L2 F2, M.at G2 L2 F2 σ2 H2 ∧ I m' G2 L2, fun σ2 H2 h => h, ?_⟩
    exact k1.1 rfl X S F1 σ' H1 A1 _ ⟨fun G L F σ H ⟨m', hm, h⟩ A => ⟨m', hm, G, L, F, A, h⟩, o.rt, fun G L F σ H h A => h X S F σ H A D o, fun G L F σ H ⟨m', hm, h⟩ A => ⟨m', hm, G, L, F, A, h⟩⟩
  | false =>
    rw [if_neg Bool.false_ne_true]
    exact k1.2 rfl X S F1 σ' H1 A1 D o
theorem ei_tup {tg e : Expr} {K : Led → List D → Led → Prop} (h : Ev M G L e fun d L1 => ∃ ds, tupOf d = some ds ∧ K [] ds L1) : EvI M G L tg e K := by
  intro X S F σ H A R q
  refine ⟨_, pi_tup be, ?_⟩
  refine h X S F σ H A _ fun d L1 v F1 H1 k1 A1 r1 s1 => ?_
  obtain ⟨ds, hd0, hk⟩ := k1
  obtain ⟨p, vs, rfl, h1, h2⟩ := tup_of A1 hd0 r1
  refine ⟨p, rfl, ⟨vs, by rw [← S.ok.eK]; exact h1⟩, q _ [] ds L1 F1 H1 hk (fun G' L' F' σ' H' A' _ i => ⟨fun d hd => ?_, fun hi => ?_⟩) A1 s1⟩
  · obtain ⟨p', vs', e', h1', h2'⟩ := tup_of A' hd0 (r1.mono A'.ef)
    cases e'
    obtain ⟨w, hw, rw'⟩ := h2'.get hd
    have h1'' : SqT X.K H' p vs' := by rw [← S.ok.eK]; exact h1'
    refine ⟨⟨vs', w, h1'', hw⟩, fun x H2 ⟨e2, y⟩ => ?_⟩
    subst e2
    have e3 := y vs' h1''
    rw [hw] at e3
    cases e3
    exact ⟨F', A', rw'⟩
  · obtain ⟨p', vs', e', h1', h2'⟩ := tup_of A' hd0 (r1.mono A'.ef)
    cases e'
    exact ⟨vs', by rw [← S.ok.eK]; exact h1', by rw [← h2'.length]; exact hi⟩
/-- the entries that a list leans on -/
def srcL : D → List D → Led
  | .v (.ref l), ds => [(l, .lst ds)]
  | _, _ => []
theorem IsL.src {x : D} {ds : List D} (h : IsL L x ds) {L' : Led} (hs : ∀ s ∈ srcL x ds, s ∈ L') : IsL L' x ds := by
  cases h with
  | frz => exact .frz
  | own _ => exact .own (hs _ (List.mem_singleton.mpr rfl))
theorem ei_lst {tg e : Expr} {K : Led → List D → Led → Prop} (h : Ev M G L e fun d L1 => ∃ ds, IsL L1 d ds ∧ K (srcL d ds) ds L1) : EvI M G L tg e K := by
  intro X S F σ H A R q
  refine ⟨_, pi_list be, ?_⟩
  refine h X S F σ H A _ fun d L1 v F1 H1 k1 A1 r1 s1 => ?_
  obtain ⟨ds, hd, hk⟩ := k1
  obtain ⟨p, vs, rfl, h1, h2⟩ := hd.get A1 r1
  refine ⟨p, rfl, ⟨vs, SqL.of h1⟩, q _ _ ds L1 F1 H1 hk (fun G' L' F' σ' H' A' hs i => ⟨fun d hd' => ?_, fun hi => ?_⟩) A1 s1⟩
  · obtain ⟨p', vs', e', h1', h2'⟩ := (hd.src hs).get A' (r1.mono A'.ef)
    cases e'
    obtain ⟨w, hw, rw'⟩ := h2'.get hd'
    refine ⟨⟨vs', w, SqL.of h1', hw⟩, fun x H2 ⟨e2, y⟩ => ?_⟩
    subst e2
    have e3 := y vs' (SqL.of h1')
    rw [hw] at e3
    cases e3
    exact ⟨F', A', rw'⟩
  · obtain ⟨p', vs', e', h1', h2'⟩ := (hd.src hs).get A' (r1.mono A'.ef)
    cases e'
    exact ⟨vs', SqL.of h1', by rw [← h2'.length]; exact hi⟩
def rng (lo : Int) (n : Nat) : List D := (List.range n).map fun i => .int (lo + (i : Nat))
theorem rng_get {lo : Int} {n i : Nat} {d : D} (h : (rng lo n)[i]? = some d) : i < n ∧ d = .int (lo + (i : Nat)) := by
  unfold rng at h
  rw [List.getElem?_map] at h
  by_cases hi : i < n
  · rw [List.getElem?_range hi] at h
    exact ⟨hi, (Option.some.inj h).symm⟩
  · rw [List.getElem?_eq_none (by simpa using Nat.le_of_not_lt hi)] at h
    cases h
theorem rng_length (lo : Int) (n : Nat) : (rng lo n).length = n := by unfold rng; simp
theorem goes_rng {lo : Int} {n : Nat} : Goes M (Itr lo n) [] (rng lo n) := by
  intro G' L' F' σ' H' A' _ i
  refine ⟨fun d hd => ?_, fun hi => by rw [rng_length] at hi; exact hi⟩
  obtain ⟨hi, rfl⟩ := rng_get hd
  exact ⟨hi, fun x H2 ⟨e1, e2⟩ => by subst e1 e2; exact ⟨F', A', .v _⟩⟩
theorem gl_of {X : Cx} {x : Str} (S : Sit M X) (h : GlC M.C x) : Gl X x := by
  show X.env.scope.names.lookup x = _
  rw [← S.ok.es]
  exact h
theorem mg_of {X : Cx} {x : Str} {o : Option Value} (S : Sit M X) (h : M.C.mg x = o) : X.mg x = o := by
  rw [← S.ok.em]
  exact h
theorem ei_rng1 {tg a : Expr} {p : Pos} {K : Led → List D → Led → Prop} (hg : GlC M.C "range") (hm : M.C.mg "range" = none)
    (h : Ev M G L a fun d L1 => ∃ j : Int, d = .int j ∧ -(2 ^ 62) ≤ j ∧ j < 2 ^ 62 ∧ K [] (rng 0 j.toNat) L1) (hs : ∀ X : Cx, starEach [a] X.env = [(false, eval a X.env)] := by intro _; rfl) : EvI M G L tg (.Call (.Name "range" p) [a] [] pos) K := by
  intro X S F σ H A R q
  refine ⟨_, pi_range1 (gl_of S hg) (mg_of S hm) (pa_cons be pa_nil (hs X)) (hs X), ?_⟩
  refine h X S F σ H A _ fun d L1 v F1 H1 k1 A1 r1 s1 => ?_
  obtain ⟨j, rfl, h1, h2, hk⟩ := k1
  cases r1
  exact ⟨j, rfl, h1, h2, q _ [] _ L1 F1 H1 hk goes_rng A1 s1⟩
theorem ei_str {tg e : Expr} {K : Led → List D → Led → Prop} (h : Ev M G L e fun d L1 => ∃ z, d = .str z ∧ K [] (z.cps.toList.map fun c => .str ⟨#[c]⟩) L1) : EvI M G L tg e K := by
  intro X S F σ H A R q
  refine ⟨_, pi_str be, ?_⟩
  refine h X S F σ H A _ fun d L1 v F1 H1 k1 A1 r1 s1 => ?_
  obtain ⟨z, rfl, hk⟩ := k1
  cases r1
  refine ⟨z, rfl, q _ [] _ L1 F1 H1 hk (fun G' L' F' σ' H' A' _ i => ⟨fun d hd => ?_, fun hi => (by have hi' := hi; rw [List.length_map] at hi'; simpa using hi' : z.cps.size ≤ i)⟩) A1 s1⟩
  rw [List.getElem?_map] at hd
  by_cases hi : i < z.cps.size
  · refine ⟨hi, fun x H2 ⟨e1, c, hc, e2⟩ => ?_⟩
    subst e1 e2
    have e3 : z.cps.toList[i]? = some c := by simpa using hc
    rw [e3] at hd
    cases hd
    exact ⟨F', A', .v _⟩
  · rw [List.getElem?_eq_none (by simpa using Nat.le_of_not_lt hi)] at hd
    cases hd
def enumD (ds : List D) : List D := (List.range ds.length).map fun i => .tup [.int (i : Nat), ds.getD i .non]
theorem enum_get {ds : List D} {i : Nat} {d : D} (h : (enumD ds)[i]? = some d) : ∃ x, ds[i]? = some x ∧ d = .tup [.int (i : Nat), x] := by
  unfold enumD at h
  rw [List.getElem?_map] at h
  by_cases hi : i < ds.length
  · rw [List.getElem?_range hi] at h
    exact ⟨ds[i], by simp [hi], by rw [← Option.some.inj h]; simp [hi]⟩
  · rw [List.getElem?_eq_none (by simpa using Nat.le_of_not_lt hi)] at h
    cases h
theorem ei_enum {elts : List Expr} {kk : Nat} {tpos p : Pos} {e : Expr} {K : Led → List D → Led → Prop} (hg : GlC M.C "enumerate") (hm : M.C.mg "enumerate" = none)
    (h : Ev M G L e fun d L1 => ∃ ds, IsL L1 d ds ∧ K (srcL d ds) (enumD ds) L1) (hs : ∀ X : Cx, starEach [e] X.env = [(false, eval e X.env)] := by intro _; rfl) : EvI M G L (.Tuple elts kk tpos) (.Call (.Name "enumerate" p) [e] [] pos) K := by
  intro X S F σ H A R q
  refine ⟨_, pi_enum (gl_of S hg) (mg_of S hm) (pa_cons be pa_nil (hs X)) (hs X), ?_⟩
  refine h X S F σ H A _ fun d L1 v F1 H1 k1 A1 r1 s1 => ?_
  obtain ⟨ds, hd, hk⟩ := k1
  obtain ⟨p, vs, rfl, h1, h2⟩ := hd.get A1 r1
  refine ⟨p, vs, rfl, SqL.of h1, q _ _ _ L1 F1 H1 hk (fun G' L' F' σ' H' A' hs i => ⟨fun d hd' => ?_, fun hi => ?_⟩) A1 s1⟩
  · obtain ⟨x, hx, rfl⟩ := enum_get hd'
    obtain ⟨p', vs', e', h1', h2'⟩ := (hd.src hs).get A' (r1.mono A'.ef)
    cases e'
    obtain ⟨w, hw, rw'⟩ := h2'.get hx
    refine ⟨⟨vs', w, SqL.of h1', hw⟩, fun x H2 ⟨T, y, e1, hT, e2, y2⟩ => ?_⟩
    subst e1 e2
    have e3 := y2 vs' (SqL.of h1')
    rw [hw] at e3
    cases e3
    obtain ⟨A2, s2⟩ := A'.ice (o := .tup [.int (i : Nat), w]) hT
    exact ⟨_, A2, .tup upd_same (.cons (.v _) (.cons (rw'.mono s2) .nil))⟩
  · obtain ⟨p', vs', e', h1', h2'⟩ := (hd.src hs).get A' (r1.mono A'.ef)
    cases e'
    refine ⟨vs', SqL.of h1', ?_⟩
    rw [← h2'.length]
    unfold enumD at hi
    simpa using hi
def zipD (ds es : List D) : List D := List.zipWith (fun a b => .tup [a, b]) ds es
theorem zip_get : ∀ {ds es : List D} {i : Nat} {d : D}, (zipD ds es)[i]? = some d → ∃ x y, ds[i]? = some x ∧ es[i]? = some y ∧ d = .tup [x, y] := by
  intro ds es i d h
  unfold zipD at h
  rw [List.getElem?_zipWith] at h
  cases e1 : ds[i]? with
  | none => rw [e1] at h; cases h
  | some x =>
    cases e2 : es[i]? with
    | none => rw [e1, e2] at h; cases h
    | some y => rw [e1, e2] at h; exact ⟨x, y, rfl, rfl, (Option.some.inj h).symm⟩
theorem ei_zip {elts : List Expr} {kk : Nat} {tpos p : Pos} {e f : Expr} {K : Led → List D → Led → Prop} (hg : GlC M.C "zip") (hm : M.C.mg "zip" = none)
    (h : Ev M G L e fun d L1 => Ev M G L1 f fun d2 L2 => (∃ ds es, IsL L2 d ds ∧ IsL L2 d2 es ∧ K (srcL d ds ++ srcL d2 es) (zipD ds es) L2) ∨ ∃ ds es, d = .tup ds ∧ d2 = .tup es ∧ K [] (zipD ds es) L2)
    (hs : ∀ X : Cx, starEach [e, f] X.env = (false, eval e X.env) :: starEach [f] X.env := by intro _; rfl) (hs2 : ∀ X : Cx, starEach [f] X.env = [(false, eval f X.env)] := by intro _; rfl)
    (hpl : ∀ X : Cx, (backTo pos (starEach [f] X.env)).any (·.1) = false := by intro _; rfl) : EvI M G L (.Tuple elts kk tpos) (.Call (.Name "zip" p) [e, f] [] pos) K := by
  intro X S F σ H A R q
  refine ⟨_, RZ.pi_zipA (gl_of S hg) (mg_of S hm) (pa_cons be (pa_cons be pa_nil (hs2 X)) (hs X)) (hs X) (hpl X), ?_⟩
  refine h X S F σ H A _ fun d L1 v F1 H1 k1 A1 r1 s1 => ?_
  refine k1 X S F1 σ H1 A1 _ fun d2 L2 v2 F2 H2 k2 A2 r2 s2 => ?_
  have r1 := r1.mono s2
  rcases k2 with ⟨ds, es, hd, he, hk⟩ | ⟨ds, es, rfl, rfl, hk⟩
  · obtain ⟨p, vs, rfl, h1, h2⟩ := hd.get A2 r1
    obtain ⟨p2, vs2, rfl, h3, h4⟩ := he.get A2 r2
    refine ⟨p, p2, vs, vs2, rfl, .inl ⟨SqL.of h1, SqL.of h3, q _ _ _ L2 F2 H2 hk (fun G' L' F' σ' H' A' hs i => ?_) A2 (s1.trans s2)⟩⟩
    have hsd := hd.src (L' := L') fun s h => hs s (List.mem_append_left _ h)
    have hse := he.src (L' := L') fun s h => hs s (List.mem_append_right _ h)
    obtain ⟨p', vs', e', h1', h2'⟩ := hsd.get A' (r1.mono A'.ef)
    cases e'
    obtain ⟨p', ws', e', h3', h4'⟩ := hse.get A' (r2.mono A'.ef)
    cases e'
    refine ⟨fun d hd' => ?_, fun hi => ?_⟩
    · obtain ⟨x, y, hx, hy, rfl⟩ := zip_get hd'
      obtain ⟨w, hw, rw1⟩ := h2'.get hx
      obtain ⟨u, hu, ru1⟩ := h4'.get hy
      refine ⟨⟨vs', ws', w, u, SqL.of h1', SqL.of h3', hw, hu⟩, fun x H2 ⟨T, y, z, e1, hT, e2, y2, z2⟩ => ?_⟩
      subst e1 e2
      have e3 := y2 vs' (SqL.of h1')
      have e4 := z2 ws' (SqL.of h3')
      rw [hw] at e3
      rw [hu] at e4
      cases e3; cases e4
      obtain ⟨A2, s2⟩ := A'.ice (o := .tup [w, u]) hT
      exact ⟨_, A2, .tup upd_same (.cons (rw1.mono s2) (.cons (ru1.mono s2) .nil))⟩
    · refine ⟨vs', ws', SqL.of h1', SqL.of h3', ?_⟩
      unfold zipD at hi
      rw [List.length_zipWith, h2'.length, h4'.length] at hi
      omega
  · obtain ⟨p, vs, rfl, h1, h2⟩ := tup_get A2 r1
    obtain ⟨p2, vs2, rfl, h3, h4⟩ := tup_get A2 r2
    refine ⟨p, p2, vs, vs2, rfl, .inr ⟨by rw [← S.ok.eK]; exact h1, by rw [← S.ok.eK]; exact h3, q _ _ _ L2 F2 H2 hk (fun G' L' F' σ' H' A' hs i => ?_) A2 (s1.trans s2)⟩⟩
    obtain ⟨p', vs', e', h1', h2'⟩ := tup_get A' (r1.mono A'.ef)
    cases e'
    obtain ⟨p', ws', e', h3', h4'⟩ := tup_get A' (r2.mono A'.ef)
    cases e'
    have h1'' : SqT X.K H' p vs' := by rw [← S.ok.eK]; exact h1'
    have h3'' : SqT X.K H' p2 ws' := by rw [← S.ok.eK]; exact h3'
    refine ⟨fun d hd' => ?_, fun hi => ?_⟩
    · obtain ⟨x, y, hx, hy, rfl⟩ := zip_get hd'
      obtain ⟨w, hw, rw1⟩ := h2'.get hx
      obtain ⟨u, hu, ru1⟩ := h4'.get hy
      refine ⟨⟨vs', ws', w, u, h1'', h3'', hw, hu⟩, fun x H2 ⟨T, y, z, e1, hT, e2, y2, z2⟩ => ?_⟩
      subst e1 e2
      have e3 := y2 vs' h1''
      have e4 := z2 ws' h3''
      rw [hw] at e3
      rw [hu] at e4
      cases e3; cases e4
      obtain ⟨A2, s2⟩ := A'.ice (o := .tup [w, u]) hT
      exact ⟨_, A2, .tup upd_same (.cons (rw1.mono s2) (.cons (ru1.mono s2) .nil))⟩
    · refine ⟨vs', ws', h1'', h3'', ?_⟩
      unfold zipD at hi
      rw [List.length_zipWith, h2'.length, h4'.length] at hi
      omega
end
end TL
namespace TL
open PySem L2
/-- what a def does: arguments, own objects handed in; what is to be shown of result and own objects, of exceptions -/
abbrev Prm := List D → Led → (D → Led → Prop) → (EX → Led → Prop) → Prop
def TSp (K : PySem.W.Frag) (sp : Prm) : Sp := fun vs H Q E => ∃ (F H0 : Hp) (ds : List D) (L : Led) (KK : D → Led → Prop) (KE : EX → Led → Prop), RepA K F ds vs ∧ At K H0 F [] L F [] H ∧ sp ds L KK KE ∧
  (∀ d L' v F' H', KK d L' → At K H0 F [] L' F' [] H' → Rep K F' d v → Q v H') ∧ (∀ ex L' F' H' v dx, KE ex L' → At K H0 F [] L' F' [] H' → ExIs K F' H' ex v dx → E v dx H')
/-- the def at f keeps the promise -/
abbrev Def (P : Program) (w : World) (K : PySem.W.Frag) (mg : Str → Option Value) (base : Heap) (k : Nat) (f : Addr) (fd : FuncData) (ps : List Str) (sp : Prm) : Prop := FnOk P w K mg base (L2.CX P w) k f fd ps (TSp K sp)
/-- a def of the module, callable by its name -/
structure Glob (P : Program) (w : World) (K : PySem.W.Frag) (mg : Str → Option Value) (base : Heap) (x : Str) (ps : List Str) (sp : Prm) (j : Nat) : Prop where
  ex : ∃ (f : Addr) (fd : FuncData), Def P w K mg base j f fd ps sp ∧ mg x = some (.ref f) ∧ PySem.W.keepIn K (.ref f) = true ∧ Binds K fd ps []
/-- a method of the class at Cc -/
structure Mth (P : Program) (w : World) (K : PySem.W.Frag) (mg : Str → Option Value) (base : Heap) (Cc : Addr) (m : Str) (ps : List Str) (sp : Prm) (j : Nat) : Prop where
  ex : ∃ (f : Addr) (fd : FuncData), Def P w K mg base j f fd ps sp ∧ Meth K Cc m f ∧ Binds K fd ps []
section
variable {M : Mode} {G : List (Option D)} {L : Led} {K : D → Led → Prop} {pos : Pos}
/-- the wish of a call: what a callee's promise becomes here -/
def Calls (M : Mode) (G : List (Option D)) (sp : Prm) (ds : List D) (L1 : Led) (K : D → Led → Prop) : Prop :=
  ∃ Lc R, (Lc ++ R).Perm L1 ∧ ∃ mk : Led → Led, (∀ L', (L' ++ R).Perm (mk L')) ∧ sp ds Lc (fun d L' => K d (mk L')) (fun ex L' => M.T ex G (mk L'))
theorem Calls.tsp {sp : Prm} {ds : List D} {L1 : Led} (h : Calls M G sp ds L1 K) {F : Hp} {σ : St} {H : Hp} {W : WX} {vs : List V} (A : M.at G L1 F σ H) (r : RepA M.C.K F ds vs) (tk : M.Tk W) {Q : VK} (q : Post M G F σ K Q) : TSp M.C.K sp vs H Q (WE W σ) := by
  obtain ⟨Lc, R, pm, mk, hmk, hs⟩ := h
  refine ⟨F, _, ds, Lc, _, _, r, A.hand pm, hs, fun d L' v F' H' k B rd => ?_, fun ex L' F' H' v dx k B he => ?_⟩
  · exact q d _ v F' H' k ((A.back pm B).perm (hmk L')) rd B.ef
  · exact tk ex G _ F' σ H' v dx k ((A.back pm B).perm (hmk L')) he
theorem room_le {X : Cx} (S : Sit M X) (hc : M.C.cm = true) {j : Nat} (hj : j ≤ M.C.k) : Room j X.A := (S.ok.room hc).mono hj
theorem ev_call {x : Str} {p : Pos} {e : Expr} {es : List Expr} {ps : List Str} {sp : Prm} {j : Nat} (B : Glob M.C.P M.C.w M.C.K M.C.mg M.C.base x ps sp j) (hc : M.C.cm = true) (hj : j ≤ M.C.k) (hg : GlC M.C x)
    (h : EvA M G L (e :: es) fun ds L1 => Calls M G sp ds L1 K) (hdb : (x == ("__debug__" : Str)) = false := by decide +kernel)
    (he : ∀ X : Cx, starEach (e :: es) X.env = (false, eval e X.env) :: starEach es X.env := by intro _; rfl) (hpl : ∀ X : Cx, (backTo pos (starEach es X.env)).any (·.1) = false := by intro _; rfl) : Ev M G L (.Call (.Name x p) (e :: es) [] pos) K := by
  intro X S F σ H A Q q
  obtain ⟨W, tk, hk⟩ := S.tk
  obtain ⟨f, fd, ok, hm, kp, bd⟩ := B.ex
  rw [S.ok.eP, S.ok.ew, S.ok.eK, S.ok.em, S.ok.eb] at ok
  rw [S.ok.eK] at kp bd
  refine ⟨_, pe_callS (E := WE W) ok (room_le S hc hj) (gl_of S hg) (mg_of S hm) kp bd (fun σ => passAt tk σ) ba hdb (he X) (hpl X), ?_⟩
  refine h X S F σ H A _ fun ds L1 vs F1 H1 k1 A1 r1 s1 => ?_
  have z := k1.tsp A1 r1 hk (Q := Q) fun d L' v F' H' k' A' r' s' => q d L' v F' H' k' A' r' (s1.trans s')
  rw [S.ok.eK] at z
  exact z
/-- o.m(e, ..), o an instance of an own class, an error may leave -/
theorem ge_meth {X : Cx} {C f : Addr} {k : Nat} {fd : FuncData} {ps : List Str} {sp : Sp} {E : St → XK} {m : Str} {apos : Pos} {o e : Expr} {es : List Expr} {pl : Sem Bool} {σ : St} {H : Hp} {Q : VK}
    (c : Cls X.K C) (hm : Meth X.K C m f) (ok : FnOk X.prog X.w X.K X.mg X.base (L2.CX X.prog X.w) k f fd ps sp) (hr : Room k X.A) (bd : Binds X.K fd ps []) (hx : ∀ σ, PassesAt (L2.CX X.prog X.w) X σ (E σ))
    (h1 : starEach (e :: es) X.env = (false, eval e X.env) :: starEach es X.env) (h2 : (backTo pos (starEach es X.env)).any (·.1) = false)
    (ht : eval (.Call (.Attribute o m apos) (e :: es) [] pos) X.env = (eval o X.env >>= fun ov => standAt apos.atName >>= fun _ => holding [ov] (getMethod ov m pl) >>= fun (f, first) => callWith pos f first (backTo pos (starEach (e :: es) X.env)) (backToKw pos (keywordEach [] X.env))))
    (h : GE X o σ H fun x H1 => ∃ a dx fs, x = .ref a ∧ H1 a = some (.ins C dx fs) ∧ fs.lookup m = none ∧ GA X (e :: es) σ H1 fun vs H2 => sp (x :: vs) H2 Q (E σ)) : GE X (.Call (.Attribute o m apos) (e :: es) [] pos) σ H Q := by
  refine ⟨fun σ H Q => GE X o σ H fun x H1 => ∃ a dx fs, x = .ref a ∧ H1 a = some (.ins C dx fs) ∧ fs.lookup m = none ∧ GA X (e :: es) σ H1 fun vs H2 => sp (x :: vs) H2 Q (E σ), ⟨fun pins s σ H Q I h => ?_⟩, h⟩
  refine PySem.W.methodCall_KW (pl := pl) (thn (be.run pins s σ H _ I h) fun ov s1 hh => ?_) ht
  obtain ⟨x, H1, I1, rx, a, dx, fs, rfl, ha, hl, hq⟩ := hh
  obtain rfl : ov = Value.ref a := rx
  refine getmeth_ok I1 ha c hm hl ?_
  refine PySem.W.callWith_K (first := [.ref a]) (h₀ := X.base) I1.ok.mod.kin hm.kp (thn (ba.run pos pins s1 σ H1 _ I1 hq) fun us s2 hh => ?_) h1 h2
  obtain ⟨vs, H2, I2, rv, hs⟩ := hh
  exact ⟨I2.kIn, run_fnS (us := .ref a :: us) (vs := .ref a :: vs) ok hr bd (hx σ) I2 (.cons rfl rv) hs⟩
theorem ge_meth0 {X : Cx} {C f : Addr} {k : Nat} {fd : FuncData} {ps : List Str} {sp : Sp} {E : St → XK} {m : Str} {apos : Pos} {o : Expr} {pl : Sem Bool} {σ : St} {H : Hp} {Q : VK}
    (c : Cls X.K C) (hm : Meth X.K C m f) (ok : FnOk X.prog X.w X.K X.mg X.base (L2.CX X.prog X.w) k f fd ps sp) (hr : Room k X.A) (bd : Binds X.K fd ps []) (hx : ∀ σ, PassesAt (L2.CX X.prog X.w) X σ (E σ))
    (ht : eval (.Call (.Attribute o m apos) [] [] pos) X.env = (eval o X.env >>= fun ov => standAt apos.atName >>= fun _ => holding [ov] (getMethod ov m pl) >>= fun (f, first) => callWith pos f first (backTo pos (starEach [] X.env)) (backToKw pos (keywordEach [] X.env))))
    (h : GE X o σ H fun x H1 => ∃ a dx fs, x = .ref a ∧ H1 a = some (.ins C dx fs) ∧ fs.lookup m = none ∧ sp [x] H1 Q (E σ)) : GE X (.Call (.Attribute o m apos) [] [] pos) σ H Q := by
  refine ⟨fun σ H Q => GE X o σ H fun x H1 => ∃ a dx fs, x = .ref a ∧ H1 a = some (.ins C dx fs) ∧ fs.lookup m = none ∧ sp [x] H1 Q (E σ), ⟨fun pins s σ H Q I h => ?_⟩, h⟩
  refine PySem.W.methodCall_KW (pl := pl) (thn (be.run pins s σ H _ I h) fun ov s1 hh => ?_) ht
  obtain ⟨x, H1, I1, rx, a, dx, fs, rfl, ha, hl, hq⟩ := hh
  obtain rfl : ov = Value.ref a := rx
  refine getmeth_ok I1 ha c hm hl ?_
  exact PySem.W.callWith_K0 (first := [.ref a]) I1.kIn hm.kp (run_fnS (us := [.ref a]) (vs := [.ref a]) ok hr bd (hx σ) I1 (.cons rfl .nil) hq)
def plOf (o : Expr) (X : Cx) : Sem Bool := do return (← importBound o X.env).getD true
theorem ev_meth {Cc : Addr} {m : Str} {apos : Pos} {o e : Expr} {es : List Expr} {ps : List Str} {sp : Prm} {j : Nat} (B : Mth M.C.P M.C.w M.C.K M.C.mg M.C.base Cc m ps sp j) (c : Cls M.C.K Cc) (hc : M.C.cm = true) (hj : j ≤ M.C.k)
    (h : Ev M G L o fun x L1 => ∃ fs, IsO L1 x Cc fs ∧ fs.lookup m = none ∧ EvA M G L1 (e :: es) fun ds L2 => Calls M G sp (x :: ds) L2 K)
    (h1 : ∀ X : Cx, starEach (e :: es) X.env = (false, eval e X.env) :: starEach es X.env := by intro _; rfl) (h2 : ∀ X : Cx, (backTo pos (starEach es X.env)).any (·.1) = false := by intro _; rfl)
    (ht : ∀ X : Cx, eval (.Call (.Attribute o m apos) (e :: es) [] pos) X.env = (eval o X.env >>= fun ov => standAt apos.atName >>= fun _ => holding [ov] (getMethod ov m (plOf o X)) >>= fun (f, first) => callWith pos f first (backTo pos (starEach (e :: es) X.env)) (backToKw pos (keywordEach [] X.env))) := by intro _; rfl) :
    Ev M G L (.Call (.Attribute o m apos) (e :: es) [] pos) K := by
  intro X S F σ H A Q q
  obtain ⟨W, tk, hk⟩ := S.tk
  obtain ⟨f, fd, ok, hm, bd⟩ := B.ex
  rw [S.ok.eP, S.ok.ew, S.ok.eK, S.ok.em, S.ok.eb] at ok
  rw [S.ok.eK] at hm bd c
  refine ge_meth (pl := plOf o X) (E := WE W) c hm ok (room_le S hc hj) bd (fun σ => passAt tk σ) (h1 X) (h2 X) (ht X) ?_
  refine h X S F σ H A _ fun x L1 v F1 H1 k1 A1 r1 s1 => ?_
  obtain ⟨fs, ho, hl, ha⟩ := k1
  obtain ⟨p, dx, ws, rfl, e1, e2⟩ := ho.get A1 r1
  refine ⟨p, dx, ws, rfl, e1, e2.lookup_none hl, ?_⟩
  refine ha X S F1 σ H1 A1 _ fun ds L2 vs F2 H2 k2 A2 r2 s2 => ?_
  have z := k2.tsp A2 (.cons (r1.mono s2) r2) hk (Q := Q) fun d L' v F' H' k' A' r' s' => q d L' v F' H' k' A' r' ((s1.trans s2).trans s')
  rw [S.ok.eK] at z
  exact z
theorem ev_meth0 {Cc : Addr} {m : Str} {apos : Pos} {o : Expr} {ps : List Str} {sp : Prm} {j : Nat} (B : Mth M.C.P M.C.w M.C.K M.C.mg M.C.base Cc m ps sp j) (c : Cls M.C.K Cc) (hc : M.C.cm = true) (hj : j ≤ M.C.k)
    (h : Ev M G L o fun x L1 => ∃ fs, IsO L1 x Cc fs ∧ fs.lookup m = none ∧ Calls M G sp [x] L1 K)
    (ht : ∀ X : Cx, eval (.Call (.Attribute o m apos) [] [] pos) X.env = (eval o X.env >>= fun ov => standAt apos.atName >>= fun _ => holding [ov] (getMethod ov m (plOf o X)) >>= fun (f, first) => callWith pos f first (backTo pos (starEach [] X.env)) (backToKw pos (keywordEach [] X.env))) := by intro _; rfl) :
    Ev M G L (.Call (.Attribute o m apos) [] [] pos) K := by
  intro X S F σ H A Q q
  obtain ⟨W, tk, hk⟩ := S.tk
  obtain ⟨f, fd, ok, hm, bd⟩ := B.ex
  rw [S.ok.eP, S.ok.ew, S.ok.eK, S.ok.em, S.ok.eb] at ok
  rw [S.ok.eK] at hm bd c
  refine ge_meth0 (pl := plOf o X) (E := WE W) c hm ok (room_le S hc hj) bd (fun σ => passAt tk σ) (ht X) ?_
  refine h X S F σ H A _ fun x L1 v F1 H1 k1 A1 r1 s1 => ?_
  obtain ⟨fs, ho, hl, ha⟩ := k1
  obtain ⟨p, dx, ws, rfl, e1, e2⟩ := ho.get A1 r1
  refine ⟨p, dx, ws, rfl, e1, e2.lookup_none hl, ?_⟩
  have z := ha.tsp A1 (.cons r1 .nil) hk (Q := Q) fun d L' v F' H' k' A' r' s' => q d L' v F' H' k' A' r' (s1.trans s')
  rw [S.ok.eK] at z
  exact z
/-- e.f -/
theorem ev_fld {e : Expr} {f : Str} {Cc : Addr} (c : Cls M.C.K Cc) (n : NoAttr M.C.K Cc f) (h : Ev M G L e fun x L1 => ∃ fs d, IsO L1 x Cc fs ∧ fs.lookup f = some d ∧ K d L1)
    (hb : ∀ X : Cx, attributeBase e f X.env (eval e X.env) = eval e X.env := by intro _; rfl) : Ev M G L (.Attribute e f pos) K := by
  intro X S F σ H A Q q
  refine ⟨_, pe_fld be (hb X), ?_⟩
  refine h X S F σ H A _ fun x L1 v F1 H1 k1 A1 r1 s1 => ?_
  obtain ⟨fs, d, ho, hl, hk⟩ := k1
  obtain ⟨p, dx, ws, rfl, e1, e2⟩ := ho.get A1 r1
  obtain ⟨w, hw, rw'⟩ := e2.lookup hl
  rw [S.ok.eK] at c n
  exact ⟨p, Cc, dx, ws, w, rfl, e1, c, n, hw, q d L1 w F1 H1 hk A1 rw' s1⟩
/-- self.f = e, self an own instance -/
theorem run_fld {o e : Expr} {f : Str} {p : Pos} {rest : List Stmt} {E : TD} {Cc : Addr} (c : Cls M.C.K Cc) (n : NoAttr M.C.K Cc f)
    (h : Ev M G L e fun d L1 => Ev M G L1 o fun x L2 => ∃ l fs L3, x = .ref l ∧ Chg L2 l (.ins Cc fs) (.ins Cc (putD f d fs)) L3 ∧ fs.length < 1000 ∧ Run M G L3 rest E)
    (hs : ∀ X : Cx, swapsWith e (some (.Attribute o f p)) pos.line X.env = pure false := by intro _; rfl) : Run M G L (.Assign [.Attribute o f p] e pos :: rest) E := by
  intro X S F σ H A D o'
  refine gss_cons ⟨_, ps_fld be be (hs X), ?_⟩
  refine h X S F σ H A _ fun d L1 v F1 H1 k1 A1 r1 s1 => ?_
  refine k1 X S F1 σ H1 A1 _ fun x L2 u F2 H2 k2 A2 r2 s2 => ?_
  obtain ⟨l, fs, L3, rfl, ch, hlen, hr⟩ := k2
  cases r2
  obtain ⟨ow, f1, f2⟩ := A2.own _ ch.mem
  cases ow with
  | ins e1 e2 =>
    rename_i dx ws
    rw [S.ok.eK] at c n
    refine ⟨l, Cc, dx, ws, rfl, e1, c, n, by rw [← e2.length]; exact hlen, ?_⟩
    exact hr X S F2 σ _ (A2.chg ch (.ins upd_same (RepF.put (r1.mono s2) e2))) D o'
/-- C(..): a new own instance, __init__'s promise; what it leaves -/
structure Cla (P : Program) (w : World) (K : PySem.W.Frag) (mg : Str → Option Value) (base : Heap) (x : Str) (Cc : Addr) (ps : List Str) (sp : Prm) (j : Nat) : Prop where
  ex : ∃ (f : Addr) (fd : FuncData), Def P w K mg base j f fd ps sp ∧ mg x = some (.ref Cc) ∧ Mk K Cc f ∧ Binds K fd ps []
  kp : PySem.W.keepIn K (.ref Cc) = true
theorem run_makeS {X : Cx} {C f : Addr} {k : Nat} {fd : FuncData} {ps : List Str} {sp : Sp} {E : XK} {pins : List (Addr × Obj)} {σ : St} {H : Hp} {s : Shared} {Q : VK} {us : List Value} {vs : List V}
    (mk : Mk X.K C f) (ok : FnOk X.prog X.w X.K X.mg X.base (L2.CX X.prog X.w) k f fd ps sp) (hr : Room (k + 1) X.A) (bd : Binds X.K fd ps []) (hx : PassesAt (L2.CX X.prog X.w) X σ E) (I : Inv X pins σ H s) (r : Vals vs us)
    (h : ∀ x dx, H x = none → H dx = none → dx ≠ x → sp (.ref x :: vs) (upd (upd H dx (.own x)) x (.ins C dx [])) (fun v H2 => v = .non ∧ Q (.ref x) H2) E) :
    wpAny (model X.prog X.w) X.A (call (.ref C) us) (EP X pins σ Q) X.xe s := by
  generalize hn : s.heap.objs.size = n at *
  have fr : H (n + 1) = none := I.hok.fresh (by omega)
  have fr0 : H n = none := I.hok.fresh (by omega)
  have hq := h (n + 1) n fr fr0 (Nat.ne_of_lt (Nat.lt_succ_self n))
  have I2 := Inv.made (C := C) I
  rw [hn] at I2
  have rr : Vals (V.ref (n + 1) :: vs) (Value.ref (n + 1) :: us) := .cons rfl r
  have len : (Value.ref (n + 1) :: us).length = ps.length := rr.length.symm.trans (ok.len _ _ _ _ hq)
  have b := bd _ (Value.ref (n + 1) :: us) I2.kIn (by rw [List.append_nil]; exact len)
  rw [List.append_nil] at b
  refine wpAny_call (make_map (f := f) I.kIn mk.makes mk.init (beq_iff_eq.mp mk.fn) ?_)
  rw [hn]
  refine codeAny_mono (ok.run _ X.stack _ _ ⟨Value.ref (n + 1) :: us, []⟩ _ _ _ E (hr.make C us []) (I2.env0.make C us []) b rr hq) fun res s' hres => ?_
  match res, hres with
  | .error e, hres => exact hx pins _ _ e s' I2 hres
  | .ok (.ret u), hres =>
    obtain ⟨v, H', I3, rv, ev, q3⟩ := I2.after hres
    cases ev
    exact ⟨rv, ⟨V.ref (n + 1), H', I3, rfl, q3⟩⟩
  | .ok .next, hres => exact False.elim hres
  | .ok .brk, hres => exact False.elim hres
  | .ok .cont, hres => exact False.elim hres
theorem ev_make {x : Str} {p : Pos} {e : Expr} {es : List Expr} {ps : List Str} {sp : Prm} {j : Nat} {Cc : Addr} (B : Cla M.C.P M.C.w M.C.K M.C.mg M.C.base x Cc ps sp j) (hc : M.C.cm = true) (hj : j + 1 ≤ M.C.k) (hg : GlC M.C x)
    (h : EvA M G L (e :: es) fun ds L1 => ∀ l, Calls M G sp (.ref l :: ds) ((l, .ins Cc []) :: L1) fun d L' => d = .non ∧ K (.ref l) L') (hdb : (x == ("__debug__" : Str)) = false := by decide +kernel)
    (he : ∀ X : Cx, starEach (e :: es) X.env = (false, eval e X.env) :: starEach es X.env := by intro _; rfl) (hpl : ∀ X : Cx, (backTo pos (starEach es X.env)).any (·.1) = false := by intro _; rfl) : Ev M G L (.Call (.Name x p) (e :: es) [] pos) K := by
  intro X S F σ H A Q q
  obtain ⟨W, tk, hk⟩ := S.tk
  obtain ⟨f, fd, ok, hm, mk, bd⟩ := B.ex
  have kp := B.kp
  rw [S.ok.eP, S.ok.ew, S.ok.eK, S.ok.em, S.ok.eb] at ok
  rw [S.ok.eK] at mk bd kp
  have main : GA X (e :: es) σ H fun vs H1 => ∀ x dx, H1 x = none → H1 dx = none → dx ≠ x → TSp X.K sp (.ref x :: vs) (upd (upd H1 dx (.own x)) x (.ins Cc dx [])) (fun v H2 => v = .non ∧ Q (.ref x) H2) (WE W σ) := by
    refine h X S F σ H A _ fun ds L1 vs F1 H1 k1 A1 r1 s1 y dx hy hdx hne => ?_
    have A2 := A1.junk (o := .own y) hdx
    have A3 := A2.new (p := y) (o := .ins Cc dx []) (w := .ins Cc []) (by rw [upd_ne (Ne.symm hne)]; exact hy) (.ins upd_same .nil)
    have z := (k1 y).tsp A3 (.cons (.v _) r1) hk (Q := fun v H2 => v = .non ∧ Q (.ref y) H2) fun d L' v F' H' k' A' r' s' => by
      obtain ⟨rfl, k'⟩ := k'
      exact ⟨r'.flat, q _ L' _ F' H' k' A' (.v _) (s1.trans s')⟩
    rw [S.ok.eK] at z
    exact z
  refine ⟨fun σ' H' Q' => GA X (e :: es) σ' H' fun vs H1 => ∀ x dx, H1 x = none → H1 dx = none → dx ≠ x → TSp X.K sp (.ref x :: vs) (upd (upd H1 dx (.own x)) x (.ins Cc dx [])) (fun v H2 => v = .non ∧ Q' (.ref x) H2) (WE W σ'), ⟨fun pins s σ H Q I h => ?_⟩, main⟩
  refine wpAny_Call_Name_kw (ld_glob I (gl_of S hg) (mg_of S hm) ?_ hdb)
  refine PySem.W.callWith_K (h₀ := X.base) I.ok.mod.kin kp (thn (ba.run pos pins s σ H _ I h) fun us s1 hh => ?_) (he X) (hpl X)
  obtain ⟨vs, H1, I1, rv, hs⟩ := hh
  exact ⟨I1.kIn, run_makeS mk ok (room_le S hc hj) bd (passAt tk σ) I1 rv hs⟩
@[reducible] def ctxOf (P : Program) (w : World) (K : PySem.W.Frag) (mg : Str → Option Value) (base : Heap) (N : List Str) (st : Stmt) (k : Nat) : Ctx := ⟨P, w, K, mg, base, N, defScope st, k, fun _ => true, true, true⟩
end
def slotsOf (N : List Str) (ds : List D) : List (Option D) := ds.map some ++ List.replicate (N.length - ds.length) none
theorem slots_rep {K : PySem.W.Frag} {F : Hp} : ∀ {ds : List D} {vs : List V} (n : Nat), RepA K F ds vs → RepS K F (ds.map some ++ List.replicate n none) (vs.map some ++ List.replicate n none)
  | _, _, 0, .nil => .nil
  | _, _, n + 1, .nil => .any (slots_rep n (ds := []) .nil)
  | _, _, n, .cons r t => .val r (slots_rep n t)
/-- THE RULE for a def -/
theorem def_ok {P : Program} {w : World} {K : PySem.W.Frag} {mg : Str → Option Value} {base : Heap} {x qual : Str} {st : Stmt} {f : Addr} {fd : FuncData} {N ps : List Str} {k : Nat} {sp : Prm} (FF : Fun K x qual st f fd) (S : FnScope N ps (defScope st))
    (len : ∀ ds L KK KE, sp ds L KK KE → ds.length = ps.length)
    (body : ∀ ds L KK KE, sp ds L KK KE → ∀ H0 F0, Run ⟨ctxOf P w K mg base N st k, H0, F0, fun ex _ L' => KE ex L'⟩ (slotsOf N ds) L (defBody st) ⟨fun _ L' => KK .non L', KK, fun _ _ => False, fun _ _ => False⟩) :
    Def P w K mg base (k + 1) f fd ps sp := by
  refine FF.okX S (fun vs H Q E ⟨F, H0, ds, L, KK, KE, r, _, hs, _⟩ => by rw [← r.length]; exact len _ _ _ _ hs) (fun cdv A outer s H vs Q E hr h => ?_)
  obtain ⟨F, H0, ds, L, KK, KE, r, a, hs, hq, he⟩ := h
  have b := body ds L KK KE hs H0 F
  have ps_len : ds.length = ps.length := len _ _ _ _ hs
  refine b (cxOf (L2.CX P w) P w K mg base N qual (defScope st) f cdv A outer s H E) ⟨⟨rfl, rfl, rfl, rfl, rfl, rfl, rfl, fun _ => rfl, fun _ => hr, S.nd, fun _ _ => rfl, fun _ => passes_of rfl, fun _ => ⟨rfl, rfl⟩⟩, fun cls d _ H' => E cls d H', takes_of rfl rfl rfl rfl, fun ex G' L' F' σ' H' v d ht B hx => ?_⟩ F _ H (a.envOf ?_) _ ⟨fun G' L' F' σ' H' h' B => ?_, fun d G' L' v F' σ' H' h' B rr => ?_, fun _ _ _ _ _ h' _ => h'.elim, fun _ _ _ _ _ h' _ => h'.elim⟩
  · exact he ex L' F' H' v d ht (B.envOf .nil) hx
  · unfold slotsOf L2.start
    rw [← r.length]
    exact slots_rep _ r
  · exact hq _ L' _ F' H' h' (B.envOf .nil) (.v _)
  · exact hq d L' v F' H' h' (B.envOf .nil) rr
/-- an own class over ValueError, without an __init__ of its own -/
structure ExcC (K : PySem.W.Frag) (mg : Str → Option Value) (x : Str) (Cc : Addr) : Prop where
  q : PySem.W.excIn K Cc [.type "ValueError", .type "Exception", .type "BaseException", .type "object"] "ValueError.__new__" = true
  m : mg x = some (.ref Cc)
  kp : PySem.W.keepIn K (.ref Cc) = true
  sub : PySem.W.subIn K (.ref Cc) (.type "BaseException") = some true
  ty : PySem.W.typeIn K (.ref Cc) = some (.type "type")
section
variable {M : Mode} {G : List (Option D)} {L : Led} {pos : Pos} {rest : List Stmt} {E : TD}
theorem pmk_own0 {X : Cx} {C : Addr} {x : Str} {p : Pos} (q : PySem.W.excIn X.K C [.type "ValueError", .type "Exception", .type "BaseException", .type "object"] "ValueError.__new__" = true) (gC : X.mg x = some (.ref C)) (kC : PySem.W.keepIn X.K (.ref C) = true)
    (r : Raises X (.ref C)) (hg : Gl X x) (hdb : (x == ("__debug__" : Str)) = false := by decide +kernel) : PMk X (.Call (.Name x p) [] [] pos) (fun _ H Q => Q (.ref C) none H) := by
  intro pins s σ H Q I h
  refine wpAny_Call_Name_kw (ld_glob I hg gC (PySem.W.callWith_K0 I.kIn kC ?_) hdb)
  have hh := exc_obj I.kIn q
  obtain ⟨bm, N, nm, qn, bs, hdct, sn, sub, ab, col, dd, k0, k1, k2, k3, k5, mN, hC, hN, hni, T⟩ := hh
  refine wpAny_call_exc_subT PySem.F.excBase_ValueError T hC hN hni (fun h' e hm => mk_of I hm r h (I.hok.gone hm.new)) (Nat.zero_le _)
theorem run_raise0 {x : Str} {p p2 : Pos} {Cc : Addr} (B : ExcC M.C.K M.C.mg x Cc) (hc : M.C.cm = true) (hg : GlC M.C x) (h : M.T (.own Cc) G L) (hdb : (x == ("__debug__" : Str)) = false := by decide +kernel) : Run M G L (.Raise (some (.Call (.Name x p) [] [] p2)) none pos :: rest) E := by
  intro X S F σ H A D o
  obtain ⟨W, tk, hk⟩ := S.tk
  obtain ⟨q, m, kp, sub, ty⟩ := B
  rw [S.ok.eK] at q kp sub ty
  refine gss_cons ⟨_, ps_raise (S.ok.calm hc) tk (pmk_own0 q (mg_of S m) kp (raises_own sub ty) (gl_of S hg) hdb), ?_⟩
  exact hk _ G L F σ H _ _ h A .own
end
end TL
namespace TL
open PySem L2
section
variable {M : Mode} {G : List (Option D)} {L : Led} {K : D → Led → Prop} {pos : Pos} {ss : List Stmt} {E : TD}
theorem run_drop {L' : Led} (s : L'.Sublist L) (h : Run M G L' ss E) : Run M G L ss E := fun X S F σ H A D o => h X S F σ H (A.drop s) D o
theorem run_frz {x : Str} {p : Addr} {o : OW} {L' : Led} {G' : List (Option D)} (hl : Look M.C.N G x (some (.ref p))) (ho : Out L p o L') (hp : Put M.C.N G x (some o.frz) G') (h : Run M G' L' ss E) : Run M G L ss E := by
  intro X S F σ H A D e
  obtain ⟨F', A', s, r⟩ := A.freeze ho
  have nd : M.C.N.Nodup := S.ok.nd
  obtain ⟨i, hi, hg⟩ := hl.ix
  obtain ⟨j, hj, rfl⟩ := hp.ix
  have e1 : i = j := nodup_ix nd hi hj
  subst e1
  obtain ⟨v, hv, rv⟩ := A'.env.get hg
  cases rv
  have B := A'.set (i := i) r
  have e2 : σ.set i (some (.ref p)) = σ := by
    apply List.ext_getElem?
    intro n
    by_cases hn : i = n
    · subst hn
      rw [List.getElem?_set_self (List.getElem?_eq_some_iff.mp hv).1, hv]
    · rw [List.getElem?_set_ne hn]
  rw [e2] at B
  exact h X S F' σ H B D e
/-- a datum and the ledger, made weaker: entries dropped, the own object itself frozen -/
theorem ev_drop {e : Expr} (h : Ev M G L e fun d L1 => ∃ L2 : Led, L2.Sublist L1 ∧ K d L2) : Ev M G L e K := fun X S F σ H A Q q =>
  h X S F σ H A Q fun d L1 v F1 H1 ⟨L2, s, k⟩ A1 r1 s1 => q d L2 v F1 H1 k (A1.drop s) r1 s1
theorem ev_frz {e : Expr} (h : Ev M G L e fun d L1 => ∃ p o L2, d = .ref p ∧ Out L1 p o L2 ∧ K o.frz L2) : Ev M G L e K := fun X S F σ H A Q q =>
  h X S F σ H A Q fun d L1 v F1 H1 ⟨p, o, L2, ed, ho, k⟩ A1 r1 s1 => by
    subst ed
    cases r1
    obtain ⟨F2, A2, s2, r2⟩ := A1.freeze ho
    exact q _ L2 _ F2 H1 k A2 r2 (s1.trans s2)
def wipeG (G : List (Option D)) : List Nat → List (Option D)
  | [] => G
  | v :: vs => (wipeG G vs).set v none
theorem wipe_rep {Kk : PySem.W.Frag} {F : Hp} {σ : St} (h : RepS Kk F G σ) : ∀ vs : List Nat, RepS Kk F (wipeG G vs) (wipe σ vs)
  | [] => h
  | v :: vs => (wipe_rep h vs).clear v
theorem wipe_set {j : Nat} {a : Option V} : ∀ {vs : List Nat} {σ : St}, j ∈ vs → wipe (σ.set j a) vs = wipe σ vs
  | [], _, h => by cases h
  | v :: vs, σ, h => by
    show (wipe (σ.set j a) vs).set v none = (wipe σ vs).set v none
    by_cases hj : j ∈ vs
    · rw [wipe_set hj]
    · have e : j = v := (List.mem_cons.mp h).resolve_right hj
      subst e
      have out : ∀ (us : List Nat) (τ : St), j ∉ us → wipe (τ.set j a) us = (wipe τ us).set j a := by
        intro us
        induction us with
        | nil => intro τ _; rfl
        | cons u us ih =>
          intro τ hu
          show (wipe (τ.set j a) us).set u none = ((wipe τ us).set u none).set j a
          rw [ih τ (fun z => hu (List.mem_cons_of_mem _ z)), List.set_comm _ _ (fun z => hu (by rw [z]; exact List.mem_cons_self))]
      rw [out vs σ hj, List.set_set]
theorem wipe_wipe {vs : List Nat} (σ : St) : wipe (wipe σ vs) vs = wipe σ vs := by
  have go : ∀ us : List Nat, (∀ u ∈ us, u ∈ vs) → wipe (wipe σ us) vs = wipe σ vs := by
    intro us
    induction us with
    | nil => intro _; rfl
    | cons u us ih =>
      intro h
      show wipe ((wipe σ us).set u none) vs = _
      rw [wipe_set (h u List.mem_cons_self), ih fun z hz => h z (List.mem_cons_of_mem _ hz)]
  exact go vs fun _ h => h
/-- the mode of a comprehension's block -/
@[reducible] def Mode.blk (M : Mode) (scope : Scope) : Mode := { M with C := { M.C with sc := relS scope M.C.sc, df := fun x => scope.names.lookup x == some .cell, lp := false }, T := fun _ _ _ => False }
theorem Sit.blk {X : Cx} (S : Sit M X) {scope : Scope} {s : Shared} {H : Hp} {C : Addr} {cl : List (Str × Addr)} {fp : List Addr} : Sit (M.blk scope) (X.blk s H scope (compEnvC scope cl C X.env) fp) := by
  obtain ⟨⟨eP, ew, eK, em, eb, eN, es, calm, room, nd, fn, po, st⟩, _⟩ := S
  refine ⟨⟨eP, ew, eK, em, eb, eN, ?_, calm, room, nd, (fun x h => h), (fun h => nomatch h), (fun h => nomatch h)⟩, fun _ _ _ _ => False, takes0, fun _ _ _ _ _ _ _ _ h => h.elim⟩
  show relS scope M.C.sc = relS scope X.env.scope
  rw [es]
/-- a target of names, own ones of the block -/
def TgtN (M : Mode) (G : List (Option D)) (L : Led) (vs : List Nat) (tg : Expr) (d : D) (K : List (Option D) → Prop) : Prop :=
  ∀ X, Sit M X → ∀ F σ H v, M.at G L F σ H → Rep M.C.K F d v → ∀ Q : St → Hp → Prop, (∀ G' σ', K G' → M.at G' L F σ' H → wipe σ' vs = wipe σ vs → Q σ' H) → GG X tg v σ H Q
theorem tn_name {x : Str} {p : Pos} {d : D} {vs : List Nat} {i : Nat} {Kg : List (Option D) → Prop} (hx : Loc' M x) (hi : M.C.N[i]? = some x) (hv : i ∈ vs) (h : Kg (G.set i (some d))) : TgtN M G L vs (.Name x p) d Kg := by
  intro X S F σ H v A r Q q
  obtain ⟨hl, hf⟩ := hx.loc S
  rw [S.ok.eN] at hi
  refine ⟨_, pg_name (i := i) (by rw [← S.ok.eN]; exact S.ok.nd) hi hl hf, ?_⟩
  exact q _ _ h (A.set r) (wipe_set hv)
theorem tn_two {x y : Str} {p p2 p3 : Pos} {d e : D} {vs : List Nat} {i j kk : Nat} {Kg : List (Option D) → Prop} (hc : M.C.cm = true) (hx : Loc' M x) (hi : M.C.N[i]? = some x) (hv : i ∈ vs) (hy : Loc' M y) (hj : M.C.N[j]? = some y) (hw : j ∈ vs)
    (h : Kg ((G.set i (some d)).set j (some e))) : TgtN M G L vs (.Tuple [.Name x p, .Name y p2] kk p3) (.tup [d, e]) Kg := by
  intro X S F σ H v A r Q q
  obtain ⟨lx, fx⟩ := hx.loc S
  obtain ⟨ly, fy⟩ := hy.loc S
  rw [S.ok.eN] at hi hj
  have nd : X.N.Nodup := by rw [← S.ok.eN]; exact S.ok.nd
  obtain ⟨a, xs, rfl, h1, h2⟩ := tup_get A r
  cases h2 with
  | cons r1 t =>
    cases t with
    | cons r2 t =>
      cases t
      refine ⟨_, pg_tup (n := 2) (S.ok.calm hc) (pgs_cons (pg_name (i := i) nd hi lx fx) (pgs_cons (pg_name (i := j) nd hj ly fy) pgs_nil)), a, _, rfl, by rw [← S.ok.eK]; exact h1, rfl, _, _, rfl, _, _, rfl, rfl, ?_⟩
      exact q _ _ h ((A.set r1).set r2) ((wipe_set hw).trans (wipe_set hv))
/-- a clause's tests: none, or one -/
def TstI (M : Mode) (G : List (Option D)) (L : Led) (ifs : List Expr) (K : Bool → Led → Prop) : Prop := match ifs with
  | [] => K true L
  | [c] => Tst M G L c K
  | _ => False
theorem tstI_go {ifs : List Expr} {KB : Bool → Led → Prop} {M : Mode} {G : List (Option D)} {L : Led} (h : TstI M G L ifs KB) : ∀ X, Sit M X → ∀ F σ H, M.at G L F σ H → ∀ Q : Bool → Hp → Prop, (∀ b L' F' H', KB b L' → M.at G L' F' σ H' → Same F F' → Q b H') → ∃ t, PTs X ifs t ∧ t σ H Q := by
  intro X S F σ H A Q q
  match ifs, h with
  | [], h => exact ⟨_, pts_nil, q true L F H h A (Same.refl _)⟩
  | [c], h => exact ⟨_, pts_one bt, h X S F σ H A Q q⟩
/-- what follows the list: the invariant I by the turn, the list so far, the ledger -/
def LcInv (M : Mode) (G : List (Option D)) (vs : List Nat) (scope : Scope) (elt tg : Expr) (ifs : List Expr) (src : Led) (items : List D) (L1 : Led) (K : D → Led → Prop) : Prop :=
  ∃ I : Nat → List D → Led → Prop, I 0 [] L1 ∧ (∀ i acc L', I i acc L' → (∀ s ∈ src, s ∈ L') ∧ acc.length < sizeLine) ∧
    (∀ F1 Dl i d acc L', items[i]? = some d → I i acc L' → TgtN ((M.fix F1).blk scope) (wipeG G vs) ((Dl, .lst acc) :: L') vs tg d fun G2 => TstI ((M.fix F1).blk scope) G2 ((Dl, .lst acc) :: L') ifs fun b L2 =>
      (b = true → Ev ((M.fix F1).blk scope) G2 L2 elt fun y L3 => ∃ L4 : Led, ((Dl, OW.lst acc) :: L4).Sublist L3 ∧ I (i + 1) (acc ++ [y]) L4) ∧ (b = false → ∃ L4 : Led, ((Dl, OW.lst acc) :: L4).Sublist L2 ∧ I (i + 1) acc L4)) ∧
    ∀ acc L', I items.length acc L' → ∀ Dl, K (.ref Dl) ((Dl, .lst acc) :: L')
section
variable (X : Cx) (scope : Scope)
def gB (tg : Expr) : TG := fun v σ' H' Q' => ∀ s H C cl fp, GG (X.blk s H scope (compEnvC scope cl C X.env) fp) tg v σ' H' Q'
def tB (ifs : List Expr) : TT := fun σ' H' Q' => ∀ s H C cl fp, ∃ t, PTs (X.blk s H scope (compEnvC scope cl C X.env) fp) ifs t ∧ t σ' H' Q'
def eB (e : Expr) : TE := fun σ' H' Q' => ∀ s H C cl fp, GE (X.blk s H scope (compEnvC scope cl C X.env) fp) e σ' H' Q'
end
theorem gB_ok {X : Cx} {scope : Scope} {tg : Expr} (s : Shared) (H : Hp) (C : Addr) (cl : List (Str × Addr)) (fp : List Addr) : PG (X.blk s H scope (compEnvC scope cl C X.env) fp) tg (gB X scope tg) :=
  ⟨fun pins s' σ' H' v u Q' I r h' => bg.run pins s' σ' H' v u Q' I r (h' s H C cl fp)⟩
theorem tB_ok {X : Cx} {scope : Scope} {ifs : List Expr} (s : Shared) (H : Hp) (C : Addr) (cl : List (Str × Addr)) (fp : List Addr) : PTs (X.blk s H scope (compEnvC scope cl C X.env) fp) ifs (tB X scope ifs) :=
  ⟨fun pins s' σ' H' Q' I h' => by
    obtain ⟨t, p, ht⟩ := h' s H C cl fp
    exact p.run pins s' σ' H' Q' I ht⟩
theorem eB_ok {X : Cx} {scope : Scope} {e : Expr} (s : Shared) (H : Hp) (C : Addr) (cl : List (Str × Addr)) (fp : List Addr) : PE (X.blk s H scope (compEnvC scope cl C X.env) fp) e (eB X scope e) :=
  ⟨fun pins s' σ' H' Q' I h' => be.run pins s' σ' H' Q' I (h' s H C cl fp)⟩
theorem lc_go {X : Cx} {elt tg iter : Expr} {ifs : List Expr} {scope : Scope} {own : List (Str × Nat)} {σ : St} {H F : Hp} {Q : VK} (S : Sit M X) (hc : M.C.cm = true) (A : M.at G L F σ H)
    (h : EvI1 M G X F σ H tg iter fun src items L1 => LcInv M G (own.map (·.2)) scope elt tg ifs src items L1 K) (q : Post M G F σ K Q) :
    tLc (GI X tg iter) (gB X scope tg) (tB X scope ifs) (eB X scope elt) (own.map (·.2)) σ H Q := by
  refine h _ fun J src items L1 F1 H1 k1 g1 A1 s1 Dl hD => ?_
  obtain ⟨I, i0, isrc, turn, done⟩ := k1
  have S1 := S.fix A1
  have A1' : (M.fix F1).at G ((Dl, .lst []) :: L1) F1 σ (upd H1 Dl (.lst [])) := A1.fixed.new hD (.lst upd_same .nil)
  refine ⟨fun i m H' => m = items.length - i ∧ i ≤ items.length ∧ ∃ acc L' F', (M.fix F1).at G ((Dl, .lst acc) :: L') F' σ H' ∧ I i acc L', ⟨items.length, by simp, Nat.zero_le _, [], L1, F1, A1', i0⟩, ?_⟩
  rintro i m H' ⟨rfl, hi, acc, L', F', A', iv⟩
  obtain ⟨is1, is2⟩ := isrc i acc L' iv
  obtain ⟨q1, q2⟩ := g1 G _ F' σ H' A' (fun s hs => List.mem_cons_of_mem _ (is1 s hs)) i
  by_cases hlt : i < items.length
  · obtain ⟨go, yl⟩ := q1 items[i] (by simp [hlt])
    refine .inr ⟨go, fun H2 => ∃ acc L' F', (M.fix F1).at G ((Dl, .lst acc) :: L') F' σ H2 ∧ I (i + 1) acc L', fun H2 ⟨acc2, L2, F2, A2, iv2⟩ => ⟨items.length - (i + 1), by omega, rfl, hlt, acc2, L2, F2, A2, iv2⟩, fun x H2 y s0 Hz C cl fp => ?_⟩
    obtain ⟨F2, A2, r2⟩ := yl x H2 y
    have A2w : ((M.fix F1).blk scope).at (wipeG G (own.map (·.2))) ((Dl, .lst acc) :: L') F2 (wipe σ (own.map (·.2))) H2 := A2.envOf (wipe_rep A2.env _)
    refine turn F1 Dl i _ acc L' (by simp [hlt]) iv _ S1.blk F2 _ H2 x A2w r2 _ fun G3 σ3 k3 A3 hw => ?_
    have hww : wipe σ3 (own.map (·.2)) = wipe σ (own.map (·.2)) := hw.trans (wipe_wipe σ)
    refine ⟨hww, fun s0' Hz' C' cl' fp' => ?_⟩
    -- back to the slots of the comprehension's own frame
    have back : ∀ {L5 : Led} {F5 H5 : Hp}, ((M.fix F1).blk scope).at G3 L5 F5 σ3 H5 → Same F2 F5 → (M.fix F1).at G L5 F5 σ H5 := fun {L5 F5 H5} B s => ⟨B.ef, B.eh, B.fh, B.nf, B.own, B.nd, A2.env.mono s⟩
    refine tstI_go k3 _ S1.blk F2 σ3 H2 A3 _ fun b L4 F4 H4 k4 A4 s4 => ?_
    cases b with
    | true =>
      rw [if_pos rfl]
      intro s0'' Hz'' C'' cl'' fp''
      refine k4.1 rfl _ S1.blk F4 σ3 H4 A4 _ fun z L5 w F5 H5 k5 A5 r5 s5 => ?_
      obtain ⟨L6, sub, iv6⟩ := k5
      have A6 := (back A5 (s4.trans s5)).drop sub
      obtain ⟨ow, _, _⟩ := A6.own _ List.mem_cons_self
      cases ow with
      | lst e1 e2 =>
        rename_i ws
        refine ⟨ws, e1, by rw [← e2.length]; exact is2, ?_⟩
        exact ⟨acc ++ [z], L6, F5, A6.chg .here (.lst upd_same (e2.snoc r5)), iv6⟩
    | false =>
      rw [if_neg Bool.false_ne_true]
      obtain ⟨L6, sub, iv6⟩ := k4.2 rfl
      exact ⟨acc, L6, F4, (back A4 s4).drop sub, iv6⟩
  · have e : i = items.length := by omega
    subst e
    exact .inl ⟨q2 (Nat.le_refl _), q _ _ _ F' H' (done acc L' iv Dl) (A1.unfix A') (.v _) (s1.trans A'.ef)⟩
theorem ev_lc {elt tg iter : Expr} {ifs : List Expr} {scope : Scope} (own : List (Str × Nat)) (hc : M.C.cm = true) (ok : blkC M.C.N M.C.sc scope own = true)
    (h : EvI M G L tg iter fun src items L1 => LcInv M G (own.map (·.2)) scope elt tg ifs src items L1 K)
    (hs : ∀ (X : Cx) x, foldedSetIterable iter X.env x = pure x := by intro _ _; rfl) : Ev M G L (.ListComp elt [⟨tg, iter, ifs, 0⟩] scope pos) K := by
  intro X S F σ H A Q q
  refine ⟨_, pe_lc (S.ok.calm hc) (by rw [← S.ok.eN]; exact S.ok.nd) bi (by rw [← S.ok.eN, ← S.ok.es]; exact blkOk_by ok) gB_ok tB_ok eB_ok (hs X), ?_⟩
  exact lc_go S hc A (h X S F σ H A) q
/-- x = [..], the name a local -/
theorem run_setlc {x : Str} {p : Pos} {elt tg iter : Expr} {ifs : List Expr} {scope : Scope} {rest : List Stmt} {spos : Pos} (own : List (Str × Nat)) (hc : M.C.cm = true) (hx : M.C.sc.names.lookup x = some .local) (hn : x ∈ M.C.N) (ok : blkC M.C.N M.C.sc scope own = true)
    (h : EvI M G L tg iter fun src items L1 => LcInv M G (own.map (·.2)) scope elt tg ifs src items L1 fun d L2 => ∃ G', Put M.C.N G x (some d) G' ∧ Run M G' L2 rest E)
    (hkind : M.C.sc.kind = .function) (hl : (p.line == pos.line) = true) (ha : (scope.names.any fun (n, k) => n == x && (k == .local || k == .cell)) = false)
    (hs : ∀ (X : Cx) x, foldedSetIterable iter X.env x = pure x := by intro _ _; rfl) : Run M G L (.Assign [.Name x p] (.ListComp elt [⟨tg, iter, ifs, 0⟩] scope pos) spos :: rest) E := by
  intro X S F σ H A D o
  obtain ⟨i, hi⟩ := List.getElem?_of_mem hn
  have nd : X.N.Nodup := by rw [← S.ok.eN]; exact S.ok.nd
  have lx : X.env.scope.names.lookup x = some .local := by rw [← S.ok.es]; exact hx
  rw [S.ok.eN] at hi
  refine gss_cons ⟨_, ps_setLc (i := i) (S.ok.calm hc) nd hi lx (sw_true (by rw [← S.ok.es]; exact hkind) lx hl ha) bi (by rw [← S.ok.eN, ← S.ok.es]; exact blkOk_by ok) gB_ok tB_ok eB_ok (hs X), ?_⟩
  refine lc_go S hc A (h X S F σ H A) fun d L2 v F2 H2 k2 A2 r2 s2 => ?_
  obtain ⟨G', hp, hr⟩ := k2
  obtain ⟨j, hj, rfl⟩ := hp.ix
  rw [S.ok.eN] at hj
  have e : j = i := nodup_ix nd hj hi
  subst e
  exact hr X S F2 _ H2 (A2.set r2) D o
/-- items that are not asked of the ledger: which are kept, what each gives -/
theorem lc_pure {vs : List Nat} {scope : Scope} {elt tg : Expr} {ifs : List Expr} {src : Led} {items : List D} {L1 : Led} (p : D → Bool) (f : D → D) (hsz : items.length < sizeLine) (hsrc : ∀ s ∈ src, s ∈ L1)
    (turn : ∀ F1 Dl d acc, d ∈ items → TgtN ((M.fix F1).blk scope) (wipeG G vs) ((Dl, .lst acc) :: L1) vs tg d fun G2 => TstI ((M.fix F1).blk scope) G2 ((Dl, .lst acc) :: L1) ifs fun b L2 =>
      b = p d ∧ ((Dl, OW.lst acc) :: L1).Sublist L2 ∧ (p d = true → Ev ((M.fix F1).blk scope) G2 L2 elt fun y L3 => y = f d ∧ ((Dl, OW.lst acc) :: L1).Sublist L3))
    (hk : ∀ Dl, K (.ref Dl) ((Dl, .lst ((items.filter p).map f)) :: L1)) : LcInv M G vs scope elt tg ifs src items L1 K := by
  refine ⟨fun i acc L' => i ≤ items.length ∧ L' = L1 ∧ acc = ((items.take i).filter p).map f, ⟨Nat.zero_le _, rfl, rfl⟩, fun i acc L' ⟨h1, h2, h3⟩ => ⟨by rw [h2]; exact hsrc, ?_⟩, fun F1 Dl i d acc L' hd ⟨h1, h2, h3⟩ => ?_, fun acc L' ⟨h1, h2, h3⟩ Dl => ?_⟩
  · rw [h3, List.length_map]
    exact Nat.lt_of_le_of_lt (Nat.le_trans (List.length_filter_le _ _) (by rw [List.length_take]; omega)) hsz
  · subst h2
    have hlt := (List.getElem?_eq_some_iff.mp hd).1
    have tk : items.take (i + 1) = items.take i ++ [d] := by rw [List.take_succ, hd]; rfl
    intro X S F σ H v A r Q q
    refine turn F1 Dl d acc (List.mem_of_getElem? hd) X S F σ H v A r Q fun G' σ' k A' w => q G' σ' ?_ A' w
    have step : ∀ {b : Bool} {L2 : Led}, (b = p d ∧ ((Dl, OW.lst acc) :: L').Sublist L2 ∧ (p d = true → Ev ((M.fix F1).blk scope) G' L2 elt fun y L3 => y = f d ∧ ((Dl, OW.lst acc) :: L').Sublist L3)) →
        ((b = true → Ev ((M.fix F1).blk scope) G' L2 elt fun y L3 => ∃ L4 : Led, ((Dl, OW.lst acc) :: L4).Sublist L3 ∧ i + 1 ≤ items.length ∧ L4 = L' ∧ acc ++ [y] = ((items.take (i + 1)).filter p).map f) ∧
          (b = false → ∃ L4 : Led, ((Dl, OW.lst acc) :: L4).Sublist L2 ∧ i + 1 ≤ items.length ∧ L4 = L' ∧ acc = ((items.take (i + 1)).filter p).map f)) := by
      rintro b L2 ⟨rfl, s2, he⟩
      refine ⟨fun hb => (he hb).imp fun y L3 ⟨ey, s3⟩ => ⟨L', s3, hlt, rfl, ?_⟩, fun hb => ⟨L', s2, hlt, rfl, ?_⟩⟩
      · rw [tk, List.filter_append, List.map_append, h3, List.filter_cons, if_pos hb, ey]
        rfl
      · rw [tk, List.filter_append, List.map_append, h3, List.filter_cons, if_neg (by rw [hb]; decide)]
        simp
    match ifs, k with
    | [], k => exact step k
    | [c], k => exact fun X S F σ H A Q q => k X S F σ H A Q fun b L2 F2 H2 kb => q b L2 F2 H2 (step kb)
  · subst h2
    rw [List.take_length] at h3
    rw [h3]
    exact hk Dl
end
end TL
namespace TL
open PySem L2
section
variable {M : Mode} {G : List (Option D)} {L : Led} {K : D → Led → Prop} {pos : Pos}
theorem ev_blt {x : Str} {id : String} {p : Pos} {e : Expr} {es : List Expr} (hg : GlC M.C x) (hm : M.C.mg x = none) (hv : bootBuiltins x = some (.builtin id)) (h : EvA M G L (e :: es) fun ds L1 => CallV M G L1 (.builtin id) ds K) (hn : x ≠ "__name__" := by decide +kernel) (hdb : (x == ("__debug__" : Str)) = false := by decide +kernel)
    (he : ∀ X : Cx, starEach (e :: es) X.env = (false, eval e X.env) :: starEach es X.env := by intro _; rfl) (hpl : ∀ X : Cx, (backTo pos (starEach es X.env)).any (·.1) = false := by intro _; rfl) : Ev M G L (.Call (.Name x p) (e :: es) [] pos) K := by
  intro X S F σ H A Q q
  refine ⟨_, pe_callB bc (gl_of S hg) (mg_of S hm) hv ba hn hdb (he X) (hpl X), ?_⟩
  refine h X S F σ H A _ fun ds L1 vs F1 H1 k1 A1 r1 s1 => ?_
  exact k1 X S F1 σ H1 vs A1 r1 Q fun d L' v F' H' k' A' r' s' => q d L' v F' H' k' A' r' (s1.trans s')
theorem ev_blty {x : Str} {id : String} {p : Pos} {e : Expr} {es : List Expr} (hg : GlC M.C x) (hm : M.C.mg x = none) (hv : bootBuiltins x = some (.type id)) (h : EvA M G L (e :: es) fun ds L1 => CallV M G L1 (.type id) ds K) (hn : x ≠ "__name__" := by decide +kernel) (hdb : (x == ("__debug__" : Str)) = false := by decide +kernel)
    (he : ∀ X : Cx, starEach (e :: es) X.env = (false, eval e X.env) :: starEach es X.env := by intro _; rfl) (hpl : ∀ X : Cx, (backTo pos (starEach es X.env)).any (·.1) = false := by intro _; rfl) : Ev M G L (.Call (.Name x p) (e :: es) [] pos) K := by
  intro X S F σ H A Q q
  refine ⟨_, pe_callTy bc (gl_of S hg) (mg_of S hm) hv ba hn hdb (he X) (hpl X), ?_⟩
  refine h X S F σ H A _ fun ds L1 vs F1 H1 k1 A1 r1 s1 => ?_
  exact k1 X S F1 σ H1 vs A1 r1 Q fun d L' v F' H' k' A' r' s' => q d L' v F' H' k' A' r' (s1.trans s')
/-- a built-in class as a value -/
theorem ev_tyn {x : Str} {id : String} (hg : GlC M.C x) (hm : M.C.mg x = none) (hv : bootBuiltins x = some (.type id)) (h : K (.v (.ty id)) L) (hn : x ≠ "__name__" := by decide +kernel) (hdb : (x == ("__debug__" : Str)) = false := by decide +kernel) : Ev M G L (.Name x pos) K :=
  fun X S F σ H A Q q => ⟨_, pe_bltn (v := .ty id) (gl_of S hg) (mg_of S hm) hv rfl hn hdb, q _ L _ F H h A (.v _) (Same.refl _)⟩
theorem reps1 {Kk : PySem.W.Frag} {F : Hp} {d : D} {vs : List V} (r : RepA Kk F [d] vs) : ∃ v, vs = [v] ∧ Rep Kk F d v := by
  cases r with
  | cons r t => cases t; exact ⟨_, rfl, r⟩
theorem reps2 {Kk : PySem.W.Frag} {F : Hp} {d e : D} {vs : List V} (r : RepA Kk F [d, e] vs) : ∃ v u, vs = [v, u] ∧ Rep Kk F d v ∧ Rep Kk F e u := by
  cases r with
  | cons r t =>
    obtain ⟨u, rfl, r2⟩ := reps1 t
    exact ⟨_, u, rfl, r, r2⟩
theorem cv_lenQ {x : D} {ds : List D} (hx : IsSq L x ds) (h : K (.int ds.length) L) : CallV M G L (.builtin "len") [x] K := by
  intro X S F σ H vs A r Q q
  obtain ⟨v, rfl, rr⟩ := reps1 r
  obtain ⟨p, ws, rfl, h1, h2⟩ := hx.get A rr
  refine ⟨_, call_len_seq, p, ws, rfl, by rw [← S.ok.eK]; exact h1, ?_⟩
  rw [← h2.length]
  exact q _ L _ F H h A (.v _) (Same.refl _)
theorem cv_lenS {z : Str} (hz : z.length ≤ sizeLine) (h : K (.int z.length) L) : CallV M G L (.builtin "len") [.str z] K := by
  intro X S F σ H vs A r Q q
  obtain ⟨v, rfl, rr⟩ := reps1 r
  cases rr
  exact ⟨_, call_len_str, z, rfl, hz, q _ L _ F H h A (.v _) (Same.refl _)⟩
theorem lenK_R {X : Cx} : CallR X (.builtin "len") (fun xs H Q => ∃ a kvs, xs = [V.ref a] ∧ Rd H a (.dK kvs) ∧ Q (.int kvs.length) H) := by
  intro pins s σ H xs us Q I r h
  obtain ⟨a, kvs, rfl, e, q⟩ := h
  obtain ⟨u, rfl, ru⟩ := vals1 r
  cases ru
  exact d_len I e fun t s' I' => ⟨.int kvs.length, H, I', ⟨t, rfl⟩, q⟩
theorem cv_lenK {x : D} {kvs : List (Key × D)} (hx : IsK L x kvs) (h : K (.int kvs.length) L) : CallV M G L (.builtin "len") [x] K := by
  intro X S F σ H vs A r Q q
  obtain ⟨v, rfl, rr⟩ := reps1 r
  obtain ⟨p, ws, rfl, h1, h2⟩ := hx.get A rr
  refine ⟨_, lenK_R, p, ws, rfl, h1, ?_⟩
  rw [← h2.length]
  exact q _ L _ F H h A (.v _) (Same.refl _)
/-- lists of bools, of ints, of texts, as data -/
def boolD : D → Bool
  | .v (.bl b) => b
  | _ => false
def isBl : D → Bool
  | .v (.bl _) => true
  | _ => false
theorem reps_bl {Kk : PySem.W.Frag} {F : Hp} : ∀ {ds : List D} {vs : List V}, RepA Kk F ds vs → ds.all isBl = true → vs = (ds.map boolD).map V.bl
  | _, _, .nil, _ => rfl
  | d :: ds, _, .cons r t, h => by
    rw [List.all_cons, Bool.and_eq_true] at h
    match d, r, h with
    | .v (.bl b), r, h => rw [r.flat, reps_bl t h.2]; rfl
theorem cv_all {x : D} {ds : List D} (hc : M.C.cm = true) (hx : IsL L x ds) (hb : ds.all isBl = true) (h : K (.bl (ds.all boolD)) L) : CallV M G L (.builtin "all") [x] K := by
  intro X S F σ H vs A r Q q
  obtain ⟨v, rfl, rr⟩ := reps1 r
  obtain ⟨p, ws, rfl, h1, h2⟩ := hx.get A rr
  have e := reps_bl h2 hb
  subst e
  refine ⟨_, cr_all (S.ok.calm hc), p, _, rfl, SqL.of h1, ?_⟩
  have e : (ds.map boolD).all id = ds.all boolD := by rw [List.all_map]; rfl
  rw [e]
  exact q _ L _ F H h A (.v _) (Same.refl _)
theorem cv_any {x : D} {ds : List D} (hc : M.C.cm = true) (hx : IsL L x ds) (hb : ds.all isBl = true) (h : K (.bl (ds.any boolD)) L) : CallV M G L (.builtin "any") [x] K := by
  intro X S F σ H vs A r Q q
  obtain ⟨v, rfl, rr⟩ := reps1 r
  obtain ⟨p, ws, rfl, h1, h2⟩ := hx.get A rr
  have e := reps_bl h2 hb
  subst e
  refine ⟨_, cr_any (S.ok.calm hc), p, _, rfl, SqL.of h1, ?_⟩
  have e : (ds.map boolD).any id = ds.any boolD := by rw [List.any_map]; rfl
  rw [e]
  exact q _ L _ F H h A (.v _) (Same.refl _)
theorem cv_max2 {i j : Int} (hc : M.C.cm = true) (h : K (.int (max i j)) L) : CallV M G L (.builtin "max") [.int i, .int j] K := by
  intro X S F σ H vs A r Q q
  obtain ⟨v, u, rfl, r1, r2⟩ := reps2 r
  cases r1; cases r2
  refine ⟨_, call_max2 (S.ok.calm hc), i, j, rfl, ?_⟩
  have e : (if j > i then j else i) = max i j := by rw [Int.max_def]; split <;> split <;> omega
  rw [e]
  exact q _ L _ F H h A (.v _) (Same.refl _)
theorem cv_min2 {i j : Int} (hc : M.C.cm = true) (h : K (.int (min i j)) L) : CallV M G L (.builtin "min") [.int i, .int j] K := by
  intro X S F σ H vs A r Q q
  obtain ⟨v, u, rfl, r1, r2⟩ := reps2 r
  cases r1; cases r2
  refine ⟨_, call_min2 (S.ok.calm hc), i, j, rfl, ?_⟩
  have e : (if j < i then j else i) = min i j := by rw [Int.min_def]; split <;> split <;> omega
  rw [e]
  exact q _ L _ F H h A (.v _) (Same.refl _)
theorem cv_intI {i : Int} (h : K (.int i) L) : CallV M G L (.type "int") [.int i] K := by
  intro X S F σ H vs A r Q q
  obtain ⟨v, rfl, rr⟩ := reps1 r
  cases rr
  exact ⟨_, call_int1, .inl ⟨i, rfl, q _ L _ F H h A (.v _) (Same.refl _)⟩⟩
theorem cv_intB {b : Bool} (h : K (.int (if b then 1 else 0)) L) : CallV M G L (.type "int") [.bl b] K := by
  intro X S F σ H vs A r Q q
  obtain ⟨v, rfl, rr⟩ := reps1 r
  cases rr
  exact ⟨_, call_int1, .inr ⟨b, rfl, q _ L _ F H h A (.v _) (Same.refl _)⟩⟩
/-- tuple(list): new, frozen; tuple(tuple): itself -/
theorem cv_tupL {x : D} {ds : List D} (hx : IsL L x ds) (h : K (.tup ds) L) : CallV M G L (.type "tuple") [x] K := by
  intro X S F σ H vs A r Q q
  obtain ⟨v, rfl, rr⟩ := reps1 r
  obtain ⟨p, ws, rfl, h1, h2⟩ := hx.get A rr
  refine ⟨_, call_tuple_of, p, ws, rfl, .inl ⟨SqL.of h1, fun l hl => ?_⟩⟩
  obtain ⟨A2, s2⟩ := A.ice (o := .tup ws) hl
  exact q _ L _ _ _ h A2 (.tup upd_same (h2.mono s2)) s2
theorem cv_tupT {ds : List D} (h : K (.tup ds) L) : CallV M G L (.type "tuple") [.tup ds] K := by
  intro X S F σ H vs A r Q q
  obtain ⟨v, rfl, rr⟩ := reps1 r
  obtain ⟨p, ws, rfl, h1, h2⟩ := tup_get A rr
  exact ⟨_, call_tuple_of, p, ws, rfl, .inr ⟨by rw [← S.ok.eK]; exact h1, q _ L _ F H h A rr (Same.refl _)⟩⟩
theorem cv_list {x : D} {ds : List D} (hx : IsSq L x ds) (h : ∀ p, K (.ref p) ((p, .lst ds) :: L)) : CallV M G L (.type "list") [x] K := by
  intro X S F σ H vs A r Q q
  obtain ⟨v, rfl, rr⟩ := reps1 r
  obtain ⟨p, ws, rfl, h1, h2⟩ := hx.get A rr
  refine ⟨_, call_list_of, p, ws, rfl, by rw [← S.ok.eK]; exact h1, fun l hl => ?_⟩
  exact q _ _ _ F _ (h l) (A.new hl (.lst upd_same h2)) (.v _) (Same.refl _)
theorem cv_listQ {ds : List D} (h : ∀ p, K (.ref p) ((p, .lst ds) :: L)) : CallV M G L (.type "list") [.sq ds] K := by
  intro X S F σ H vs A r Q q
  obtain ⟨v, rfl, rr⟩ := reps1 r
  cases rr with
  | sq h1 h2 =>
    refine ⟨_, call_list_of, _, _, rfl, .inl (by rw [← S.ok.eK]; exact A.fh.seq h1), fun l hl => ?_⟩
    exact q _ _ _ F _ (h l) (A.new hl (.lst upd_same h2)) (.v _) (Same.refl _)
theorem dcopy_R {X : Cx} : CallR X (.type "dict") (fun xs H Q => ∃ a kvs, xs = [V.ref a] ∧ Rd H a (.dK kvs) ∧ ∀ p, H p = none → Q (.ref p) (upd H p (.dK kvs))) := by
  intro pins s σ H xs us Q I r h
  obtain ⟨a, kvs, rfl, e, q⟩ := h
  obtain ⟨u, rfl, ru⟩ := vals1 r
  cases ru
  exact d_copyOf I e fun p s' hp I' => ⟨.ref p, _, I', rfl, q p hp⟩
theorem cv_dcopy {x : D} {kvs : List (Key × D)} (hx : IsK L x kvs) (h : ∀ p, K (.ref p) ((p, .dK kvs) :: L)) : CallV M G L (.type "dict") [x] K := by
  intro X S F σ H vs A r Q q
  obtain ⟨v, rfl, rr⟩ := reps1 r
  obtain ⟨p, ws, rfl, h1, h2⟩ := hx.get A rr
  exact ⟨_, dcopy_R, p, ws, rfl, h1, fun l hl => q _ _ _ F _ (h l) (A.new hl (.dK upd_same h2)) (.v _) (Same.refl _)⟩
/-- what isinstance asks of an own class whose instances are told apart -/
structure ClsI (K : PySem.W.Frag) (C : Addr) : Prop where
  cl : Cls K C
  ha : PySem.W.findIn K (.ref C) "__class__" = some (some (.builtin "object.__class__"))
  hn : PySem.W.specialIn K (.builtin "object.__class__") "__get__" = some (some (.builtin "getset_descriptor.__get__"))
  htk : PySem.W.takesIn K (.builtin "object.__class__") = some true
  hm : PySem.W.mroIn K C (.type "object") = some true
inductive TyD (K : PySem.W.Frag) (L : Led) : D → Value → Prop
  | non : TyD K L .non (.type "NoneType")
  | bl {b : Bool} : TyD K L (.bl b) (.type "bool")
  | int {b : Int} : TyD K L (.int b) (.type "int")
  | str {b : Str} : TyD K L (.str b) (.type "str")
  | tup {ds : List D} : TyD K L (.tup ds) (.type "tuple")
  | lst {x : D} {ds : List D} : IsL L x ds → TyD K L x (.type "list")
  | dK {x : D} {ds : List (Key × D)} : IsK L x ds → TyD K L x (.type "dict")
  | dT {ds : List (List Key × D)} {l : Addr} : (l, OW.dT ds) ∈ L → TyD K L (.ref l) (.type "dict")
  | ob {x : D} {C : Addr} {fs : List (Str × D)} : IsO L x C fs → ClsI K C → TyD K L x (.ref C)
theorem TyD.get {Kk : PySem.W.Frag} {H0 F0 F H : Hp} {σ : St} {x : D} {v : V} {t : Value} (h : TyD Kk L x t) (A : At Kk H0 F0 G L F σ H) (r : Rep Kk F x v) : TyX Kk H v t := by
  cases h with
  | non => cases r; exact .base .non
  | bl => cases r; exact .base (.bl _)
  | int => cases r; exact .base (.int _)
  | str => cases r; exact .base (.str _)
  | tup =>
    obtain ⟨p, vs, rfl, h1, _⟩ := tup_get A r
    rcases h1 with (h1 | ⟨o, h1⟩) | ⟨o, its, n, h1, h2, _⟩
    · exact .base (.tup h1)
    · exact .fTuple h1
    · exact .kTuple h1 h2
  | lst h =>
    obtain ⟨p, vs, rfl, h1, _⟩ := h.get A r
    exact .base (.lst h1)
  | dK h =>
    obtain ⟨p, vs, rfl, h1, _⟩ := h.get A r
    rcases h1 with h1 | ⟨o, h1⟩
    · exact .base (.dK h1)
    · exact .fDict h1
  | dT h =>
    cases r
    obtain ⟨o, _⟩ := A.own _ h
    cases o with
    | dT h1 _ => exact .base (.dT h1)
  | ob h c =>
    obtain ⟨p, dx, ws, rfl, h1, _⟩ := h.get A r
    exact .base (.ins h1 c.cl c.ha c.hn c.htk c.hm)
theorem cv_isTy {x : D} {t : Value} {n : String} {b : Bool} (hx : TyD M.C.K L x t) (hk : PySem.W.kitOne M.C.K t (.type n) = some b) (h : K (.bl b) L) : CallV M G L (.builtin "isinstance") [x, .v (.ty n)] K := by
  intro X S F σ H vs A r Q q
  obtain ⟨v, u, rfl, r1, r2⟩ := reps2 r
  cases r2
  have ty := hx.get A r1
  rw [S.ok.eK] at ty hk
  exact ⟨_, call_isi, v, .ty n, t, .type n, b, rfl, .ty n, ty, hk, q _ L _ F H h A (.v _) (Same.refl _)⟩
theorem cv_isCl {x : D} {t : Value} {C : Addr} {b : Bool} (hx : TyD M.C.K L x t) (hk : PySem.W.kitOne M.C.K t (.ref C) = some b) (h : K (.bl b) L) : CallV M G L (.builtin "isinstance") [x, .ref C] K := by
  intro X S F σ H vs A r Q q
  obtain ⟨v, u, rfl, r1, r2⟩ := reps2 r
  cases r2
  have ty := hx.get A r1
  rw [S.ok.eK] at ty hk
  exact ⟨_, call_isi, v, .ref C, t, .ref C, b, rfl, .own C, ty, hk, q _ L _ F H h A (.v _) (Same.refl _)⟩
theorem tr_non : TruD M G L .non false := fun F σ H v A r => by cases r; rfl
theorem tr_bl {b : Bool} : TruD M G L (.bl b) b := fun F σ H v A r => by cases r; rfl
theorem tr_int {i : Int} : TruD M G L (.int i) (i != 0) := fun F σ H v A r => by cases r; rfl
theorem tr_Q {x : D} {ds : List D} (hx : IsSq L x ds) : TruD M G L x (!ds.isEmpty) := fun F σ H v A r => by
  obtain ⟨p, vs, rfl, h1, h2⟩ := hx.get A r
  have e : ds.isEmpty = vs.isEmpty := by
    cases h2 <;> rfl
  rcases h1 with h1 | h1
  · exact .inl ⟨vs, h1, by rw [e]⟩
  · exact .inr (.inl ⟨vs, h1, by rw [e]⟩)
theorem ev_bm {T id : String} {name : Str} {apos : Pos} {o e : Expr} {es : List Expr} (pa : PlainAttrs T) (slot : Slot T name id) (hty : typeOf (.builtin id) = pure (.type "method_descriptor"))
    (h : Ev M G L o fun x L1 => (∀ F σ H v, M.at G L1 F σ H → Rep M.C.K F x v → tyV M.C.K T v H) ∧ EvA M G L1 (e :: es) fun ds L2 => MtV M G L2 id x ds K) (hbase : ∀ X : Cx, attributeBase o name X.env (eval o X.env) = eval o X.env := by intro _; rfl)
    (hfew : ∀ X : Cx, ((backTo pos (starEach (e :: es) X.env)).all (fun x => !x.1) && (backToKw pos (keywordEach [] X.env)).all (fun x => x.1.isSome) && decide ((e :: es).length + ([] : List Keyword).length + (if ([] : List Keyword).isEmpty then 0 else 1) < 30)) = true := by intro _; rfl)
    (hline : (apos.endLine == pos.line) = true := by rfl) (hs : ∀ X : Cx, starEach (e :: es) X.env = (false, eval e X.env) :: starEach es X.env := by intro _; rfl) (hpl : ∀ X : Cx, (backTo pos (starEach es X.env)).any (·.1) = false := by intro _; rfl) :
    Ev M G L (.Call (.Attribute o name apos) (e :: es) [] pos) K := by
  intro X S F σ H A Q q
  refine ⟨_, pe_bm pa slot hty bm be ba (hbase X) (hfew X) hline (hs X) (hpl X), ?_⟩
  refine h X S F σ H A _ fun x L1 v F1 H1 k1 A1 r1 s1 => ⟨by rw [← S.ok.eK]; exact k1.1 F1 σ H1 v A1 r1, ?_⟩
  refine k1.2 X S F1 σ H1 A1 _ fun ds L2 vs F2 H2 k2 A2 r2 s2 => ?_
  exact k2 X S F2 σ H2 v vs A2 (r1.mono s2) r2 Q fun d L' v F' H' k' A' r' s' => q d L' v F' H' k' A' r' ((s1.trans s2).trans s')
theorem ty_lst {x : D} {ds : List D} (hx : IsL L x ds) : ∀ F σ H v, M.at G L F σ H → Rep M.C.K F x v → tyV M.C.K "list" v H := fun F σ H v A r => by
  obtain ⟨p, vs, rfl, h1, _⟩ := hx.get A r
  exact .inl ⟨rfl, vs, SqL.of h1⟩
/-- l.append(e) -/
theorem ev_append {apos : Pos} {o e : Expr} (h : Ev M G L o fun x L1 => ∃ l ds0, x = .ref l ∧ (l, OW.lst ds0) ∈ L1 ∧ Ev M G L1 e fun d L2 => ∃ ds L3, Chg L2 l (.lst ds) (.lst (ds ++ [d])) L3 ∧ ds.length < sizeLine ∧ K .non L3) (hbase : ∀ X : Cx, attributeBase o "append" X.env (eval o X.env) = eval o X.env := by intro _; rfl)
    (hfew : ∀ X : Cx, ((backTo pos (starEach [e] X.env)).all (fun x => !x.1) && (backToKw pos (keywordEach [] X.env)).all (fun x => x.1.isSome) && decide (([e] : List Expr).length + ([] : List Keyword).length + (if ([] : List Keyword).isEmpty then 0 else 1) < 30)) = true := by intro _; rfl)
    (hline : (apos.endLine == pos.line) = true := by rfl) (hs : ∀ X : Cx, starEach [e] X.env = (false, eval e X.env) :: starEach [] X.env := by intro _; rfl) : Ev M G L (.Call (.Attribute o "append" apos) [e] [] pos) K := by
  refine ev_bm PySem.F.plainAttrs_list PySem.F.slot_list_append PySem.F.type_list_append (h.imp fun x L1 ⟨l, ds0, ex, hm, h2⟩ => ?_) hbase hfew hline hs
  subst ex
  refine ⟨ty_lst (.own hm), ea_cons (h2.imp fun d L2 ⟨ds, L3, ch, hl, hk⟩ => ea_nil ?_) hs⟩
  intro X S F σ H v vs A r rs Q q
  cases r
  obtain ⟨y, rfl, ry⟩ := reps1 rs
  obtain ⟨ow, _, _⟩ := A.own _ ch.mem
  cases ow with
  | lst e1 e2 =>
    rename_i ws
    exact ⟨_, mt_append, l, ws, y, rfl, rfl, e1, by rw [← e2.length]; exact hl, q _ L3 _ F _ hk (A.chg ch (.lst upd_same (e2.snoc ry))) (.v _) (Same.refl _)⟩
theorem ev_sl {e : Expr} {lo hi : Option Expr} {p2 : Pos} (h : Ev M G L e fun x L1 => EvP M G L1 lo fun i L2 => EvP M G L2 hi fun j L3 => SlV M G L3 x i j K) : Ev M G L (.Subscript e (.Slice lo hi none p2) pos) K := by
  intro X S F σ H A Q q
  have key : ∀ (F : Hp) (H : Hp) (x : D) (L1 : Led), M.at G L1 F σ H → EvP M G L1 lo (fun i L2 => EvP M G L2 hi fun j L3 => SlV M G L3 x i j K) → ∀ v, Rep M.C.K F x v → (∀ d L' v F' H', K d L' → M.at G L' F' σ H' → Rep M.C.K F' d v → Same F F' → Q v H') →
      (∃ tl, PO X lo tl ∧ tl σ H fun l H2 => ∃ th, PO X hi th ∧ th σ H2 fun u H3 => GSl X v l u H3 Q) := by
    intro F H x L1 A1 k1 v r1 q
    obtain ⟨tl, pl, hl⟩ := k1.go X S
    refine ⟨tl, pl, hl F σ H A1 _ fun i L2 F2 H2 k2 A2 s2 => ?_⟩
    obtain ⟨th, ph, hh⟩ := k2.go X S
    refine ⟨th, ph, hh F2 σ H2 A2 _ fun j L3 F3 H3 k3 A3 s3 => ?_⟩
    exact k3 X S F3 σ H3 v A3 (r1.mono (s2.trans s3)) Q fun d L' v F' H' k' A' r' s' => q d L' v F' H' k' A' r' ((s2.trans s3).trans s')
  refine ⟨tSl (GSl X) (GE X e) (fun σ H Q => ∃ t, PO X lo t ∧ t σ H Q) (fun σ H Q => ∃ t, PO X hi t ∧ t σ H Q), pe_slice bsl be ⟨fun pins s σ H Q I ⟨t, h, q⟩ => h.run pins s σ H Q I q⟩ ⟨fun pins s σ H Q I ⟨t, h, q⟩ => h.run pins s σ H Q I q⟩, ?_⟩
  refine h X S F σ H A _ fun x L1 v F1 H1 k1 A1 r1 s1 => ?_
  exact key F1 H1 x L1 A1 k1 v r1 fun d L' v F' H' k' A' r' s' => q d L' v F' H' k' A' r' (s1.trans s')
/-- the items of xs[lo:hi] -/
def cutD (xs : List D) (lo hi : Option Int) : List D := (xs.drop (HT.sIx xs.length 0 lo)).take (HT.sIx xs.length xs.length hi - HT.sIx xs.length 0 lo)
theorem sl_T {ds : List D} {lo hi : Option Int} (h : K (.tup (cutD ds lo hi)) L) : SlV M G L (.tup ds) lo hi K := by
  intro X S F σ H v A r Q q
  obtain ⟨p, vs, rfl, h1, h2⟩ := tup_get A r
  have e : RepA M.C.K F (cutD ds lo hi) (cutV vs lo hi) := by
    unfold cutD cutV
    rw [h2.length]
    exact (h2.drop _).take _
  refine ⟨_, sl_tupA, p, vs, rfl, by rw [← S.ok.eK]; exact h1, fun hw => ?_, fun hw l hl => ?_⟩
  · refine q _ L _ F H h A ?_ (Same.refl _)
    have ec : cutD ds lo hi = ds := by
      unfold cutD
      rw [h2.length, hw.1, hw.2, List.drop_zero, Nat.sub_zero, ← h2.length, List.take_length]
    rw [ec]
    exact r
  · obtain ⟨A2, s2⟩ := A.ice (o := .tup (cutV vs lo hi)) hl
    exact q _ L _ _ _ h A2 (.tup upd_same (e.mono s2)) s2
end
end TL
namespace TL
open PySem L2
theorem kt_int_int {K : PySem.W.Frag} : PySem.W.kitOne K (.type "int") (.type "int") = some true := kit_ty (by decide +kernel)
theorem kt_int_bool {K : PySem.W.Frag} : PySem.W.kitOne K (.type "int") (.type "bool") = some false := kit_ty (by decide +kernel)
theorem kt_bool_int {K : PySem.W.Frag} : PySem.W.kitOne K (.type "bool") (.type "int") = some true := kit_ty (by decide +kernel)
theorem kt_bool_bool {K : PySem.W.Frag} : PySem.W.kitOne K (.type "bool") (.type "bool") = some true := kit_ty (by decide +kernel)
theorem kt_str_str {K : PySem.W.Frag} : PySem.W.kitOne K (.type "str") (.type "str") = some true := kit_ty (by decide +kernel)
theorem kt_int_str {K : PySem.W.Frag} : PySem.W.kitOne K (.type "int") (.type "str") = some false := kit_ty (by decide +kernel)
theorem kt_str_int {K : PySem.W.Frag} : PySem.W.kitOne K (.type "str") (.type "int") = some false := kit_ty (by decide +kernel)
theorem kt_tuple_tuple {K : PySem.W.Frag} : PySem.W.kitOne K (.type "tuple") (.type "tuple") = some true := kit_ty (by decide +kernel)
theorem kt_nonetype_tuple {K : PySem.W.Frag} : PySem.W.kitOne K (.type "NoneType") (.type "tuple") = some false := kit_ty (by decide +kernel)
theorem kt_list_tuple {K : PySem.W.Frag} : PySem.W.kitOne K (.type "list") (.type "tuple") = some false := kit_ty (by decide +kernel)
theorem kt_dict_dict {K : PySem.W.Frag} : PySem.W.kitOne K (.type "dict") (.type "dict") = some true := kit_ty (by decide +kernel)
theorem kt_list_list {K : PySem.W.Frag} : PySem.W.kitOne K (.type "list") (.type "list") = some true := kit_ty (by decide +kernel)
theorem kt_tuple_list {K : PySem.W.Frag} : PySem.W.kitOne K (.type "tuple") (.type "list") = some false := kit_ty (by decide +kernel)
theorem kt_dict_list {K : PySem.W.Frag} : PySem.W.kitOne K (.type "dict") (.type "list") = some false := kit_ty (by decide +kernel)
theorem kt_list_dict {K : PySem.W.Frag} : PySem.W.kitOne K (.type "list") (.type "dict") = some false := kit_ty (by decide +kernel)
theorem kt_nonetype_list {K : PySem.W.Frag} : PySem.W.kitOne K (.type "NoneType") (.type "list") = some false := kit_ty (by decide +kernel)
theorem kt_nonetype_dict {K : PySem.W.Frag} : PySem.W.kitOne K (.type "NoneType") (.type "dict") = some false := kit_ty (by decide +kernel)
theorem kt_tuple_dict {K : PySem.W.Frag} : PySem.W.kitOne K (.type "tuple") (.type "dict") = some false := kit_ty (by decide +kernel)
theorem kt_str_tuple {K : PySem.W.Frag} : PySem.W.kitOne K (.type "str") (.type "tuple") = some false := kit_ty (by decide +kernel)
theorem kt_str_list {K : PySem.W.Frag} : PySem.W.kitOne K (.type "str") (.type "list") = some false := kit_ty (by decide +kernel)
theorem kt_str_dict {K : PySem.W.Frag} : PySem.W.kitOne K (.type "str") (.type "dict") = some false := kit_ty (by decide +kernel)
theorem kt_int_tuple {K : PySem.W.Frag} : PySem.W.kitOne K (.type "int") (.type "tuple") = some false := kit_ty (by decide +kernel)
theorem kt_int_list {K : PySem.W.Frag} : PySem.W.kitOne K (.type "int") (.type "list") = some false := kit_ty (by decide +kernel)
theorem kt_int_dict {K : PySem.W.Frag} : PySem.W.kitOne K (.type "int") (.type "dict") = some false := kit_ty (by decide +kernel)
theorem kt_dict_tuple {K : PySem.W.Frag} : PySem.W.kitOne K (.type "dict") (.type "tuple") = some false := kit_ty (by decide +kernel)
theorem kt_str_bool {K : PySem.W.Frag} : PySem.W.kitOne K (.type "str") (.type "bool") = some false := kit_ty (by decide +kernel)
theorem kt_nonetype_int {K : PySem.W.Frag} : PySem.W.kitOne K (.type "NoneType") (.type "int") = some false := kit_ty (by decide +kernel)
theorem kt_nonetype_str {K : PySem.W.Frag} : PySem.W.kitOne K (.type "NoneType") (.type "str") = some false := kit_ty (by decide +kernel)
theorem kt_nonetype_bool {K : PySem.W.Frag} : PySem.W.kitOne K (.type "NoneType") (.type "bool") = some false := kit_ty (by decide +kernel)
theorem kt_tuple_int {K : PySem.W.Frag} : PySem.W.kitOne K (.type "tuple") (.type "int") = some false := kit_ty (by decide +kernel)
theorem kt_tuple_str {K : PySem.W.Frag} : PySem.W.kitOne K (.type "tuple") (.type "str") = some false := kit_ty (by decide +kernel)
theorem kt_tuple_bool {K : PySem.W.Frag} : PySem.W.kitOne K (.type "tuple") (.type "bool") = some false := kit_ty (by decide +kernel)
theorem kt_list_int {K : PySem.W.Frag} : PySem.W.kitOne K (.type "list") (.type "int") = some false := kit_ty (by decide +kernel)
theorem kt_list_str {K : PySem.W.Frag} : PySem.W.kitOne K (.type "list") (.type "str") = some false := kit_ty (by decide +kernel)
theorem kt_list_bool {K : PySem.W.Frag} : PySem.W.kitOne K (.type "list") (.type "bool") = some false := kit_ty (by decide +kernel)
theorem kt_dict_int {K : PySem.W.Frag} : PySem.W.kitOne K (.type "dict") (.type "int") = some false := kit_ty (by decide +kernel)
theorem kt_dict_str {K : PySem.W.Frag} : PySem.W.kitOne K (.type "dict") (.type "str") = some false := kit_ty (by decide +kernel)
theorem kt_dict_bool {K : PySem.W.Frag} : PySem.W.kitOne K (.type "dict") (.type "bool") = some false := kit_ty (by decide +kernel)
theorem kt_bool_str {K : PySem.W.Frag} : PySem.W.kitOne K (.type "bool") (.type "str") = some false := kit_ty (by decide +kernel)
theorem kt_bool_tuple {K : PySem.W.Frag} : PySem.W.kitOne K (.type "bool") (.type "tuple") = some false := kit_ty (by decide +kernel)
theorem kt_bool_list {K : PySem.W.Frag} : PySem.W.kitOne K (.type "bool") (.type "list") = some false := kit_ty (by decide +kernel)
theorem kt_bool_dict {K : PySem.W.Frag} : PySem.W.kitOne K (.type "bool") (.type "dict") = some false := kit_ty (by decide +kernel)
def biNames : List Str := ["len", "isinstance", "range", "int", "str", "all", "any", "min", "max", "tuple", "list", "dict", "zip", "enumerate", "sum", "sorted", "bool"]
structure Bi (mg : Str → Option Value) : Prop where
  h : ∀ {x : Str}, biNames.contains x = true → mg x = none
def visB (sc : Scope) (x : Str) : Bool := match sc.names.lookup x with
  | some .local => true
  | some .cell => true
  | some .free => true
  | _ => false
theorem vis_of {sc : Scope} {x : Str} (h : visB sc x = true) : Vis sc x := by
  unfold visB at h
  unfold Vis
  split at h
  · rename_i e; exact .inl e
  · rename_i e; exact .inr (.inl e)
  · rename_i e; exact .inr (.inr e)
  · cases h
theorem gl_by {C : Ctx} {x : Str} (h : C.sc.names.lookup x = some .globalImplicit) : GlC C x := h
def locB (sc : Scope) (df : Str → Bool) (x : Str) : Bool := match sc.names.lookup x with
  | some .local => true
  | some .cell => df x
  | _ => false
theorem loc_of {M : Mode} {x : Str} (h : locB M.C.sc M.C.df x = true) : Loc' M x := by
  unfold locB at h
  split at h
  · rename_i e; exact .inl e
  · rename_i e; exact .inr ⟨e, h⟩
  · cases h
theorem mem_of {N : List Str} {x : Str} (h : N.contains x = true) : x ∈ N := by simpa using h
end TL
namespace TL
open PySem L2
section
variable {M : Mode} {G : List (Option D)} {L : Led} {K : D → Led → Prop} {pos : Pos} {rest : List Stmt} {E : TD}
/-- d[k] = e -/
theorem run_dput {o i e : Expr} {p : Pos} (hc : M.C.cm = true) (h : Ev M G L e fun d L1 => Ev M G L1 o fun x L2 => Ev M G L2 i fun y L3 => ∃ l kvs k L4, x = .ref l ∧ y = .v (kV k) ∧ Chg L3 l (.dK kvs) (.dK (putE kvs k d)) L4 ∧ kvs.length < sizeLine ∧ Run M G L4 rest E)
    (hs : ∀ X : Cx, swapsWith e (some (.Subscript o i p)) pos.line X.env = pure false := by intro _; rfl) : Run M G L (.Assign [.Subscript o i p] e pos :: rest) E := by
  intro X S F σ H A D o'
  refine gss_cons ⟨_, ps_dput (sit_hu S hc) be be be (hs X), ?_⟩
  refine h X S F σ H A _ fun d L1 v F1 H1 k1 A1 r1 s1 => ?_
  refine k1 X S F1 σ H1 A1 _ fun x L2 u F2 H2 k2 A2 r2 s2 => ?_
  refine k2 X S F2 σ H2 A2 _ fun y L3 w F3 H3 k3 A3 r3 s3 => ?_
  obtain ⟨l, kvs, k, L4, rfl, rfl, ch, hl, hr⟩ := k3
  cases r2; cases r3
  obtain ⟨ow, _, _⟩ := A3.own _ ch.mem
  cases ow with
  | dK e1 e2 =>
    rename_i ws
    refine ⟨l, _, rfl, DPut.k e1 (by rw [← e2.length]; exact hl), ?_⟩
    exact hr X S F3 σ _ (A3.chg ch (.dK upd_same (e2.put k (r1.mono (s2.trans s3))))) D o'
/-- {} -/
theorem ev_dnew (h : ∀ p, K (.ref p) ((p, .dK []) :: L)) : Ev M G L (.Dict [] [] pos) K := fun X S F σ H A Q q =>
  ⟨_, pe_dnewK, fun p hp => q _ _ _ F _ (h p) (A.new hp (.dK upd_same .nil)) (.v _) (Same.refl _)⟩
/-- d.get(k) -/
theorem ev_get1 {apos : Pos} {o e : Expr} (hc : M.C.cm = true) (h : Ev M G L o fun x L1 => ∃ kvs, IsK L1 x kvs ∧ Ev M G L1 e fun y L2 => ∃ k, IsK L2 x kvs ∧ y = .v (kV k) ∧ K ((valD kvs k).getD .non) L2)
    (m : ∀ X : Cx, M1 X o "get" apos e pos) : Ev M G L (.Call (.Attribute o "get" apos) [e] [] pos) K := by
  intro X S F σ H A Q q
  refine ⟨_, pe_dget1 (sit_hu S hc) be be (m X), ?_⟩
  refine h X S F σ H A _ fun x L1 v F1 H1 k1 A1 r1 s1 => ?_
  obtain ⟨kvs, hx, k1⟩ := k1
  obtain ⟨p, ws, rfl, h1, h2⟩ := hx.get A1 r1
  refine ⟨p, rfl, .inl ⟨ws, h1⟩, ?_⟩
  refine k1 X S F1 σ H1 A1 _ fun y L2 u F2 H2 k2 A2 r2 s2 => ?_
  obtain ⟨k, hx2, rfl, hk⟩ := k2
  cases r2
  obtain ⟨p', ws', e', h3, h4⟩ := hx2.get A2 (r1.mono s2)
  cases e'
  refine ⟨valV ws' k, .inl ⟨ws', k, h3, rfl, rfl⟩, ?_⟩
  refine q _ L2 _ F2 H2 hk A2 ?_ (s1.trans s2)
  obtain ⟨z1, z2⟩ := h4.val k
  cases e : valD kvs k with
  | none => rw [z2 e]; exact .v _
  | some d => obtain ⟨w, hw, rw'⟩ := z1 d e; rw [hw]; exact rw'
/-- {k: v, ..}, written -/
def EvPs (M : Mode) (G : List (Option D)) : List (Option Expr) → List Expr → Led → (List (D × D) → Led → Prop) → Prop
  | some k :: ks, v :: vs, L, KP => Ev M G L k fun x L1 => Ev M G L1 v fun y L2 => EvPs M G ks vs L2 fun ps L3 => KP ((x, y) :: ps) L3
  | [], [], L, KP => KP [] L
  | _, _, _, _ => False
inductive RepP (K : PySem.W.Frag) (F : Hp) : List (D × D) → List (V × V) → Prop
  | nil : RepP K F [] []
  | cons {a b : D} {x y : V} {l : List (D × D)} {m : List (V × V)} : Rep K F a x → Rep K F b y → RepP K F l m → RepP K F ((a, b) :: l) ((x, y) :: m)
theorem RepP.mono {Kk : PySem.W.Frag} {F F' : Hp} (s : Same F F') : ∀ {l : List (D × D)} {m : List (V × V)}, RepP Kk F l m → RepP Kk F' l m
  | _, _, .nil => .nil
  | _, _, .cons a b t => .cons (a.mono s) (b.mono s) (t.mono s)
def trsOf (X : Cx) : List (Option Expr) → List Expr → List (TE × TE)
  | some k :: ks, v :: vs => (GE X k, GE X v) :: trsOf X ks vs
  | _, _ => []
theorem pps_of {X : Cx} : ∀ {ks : List (Option Expr)} {vs : List Expr}, ks.length = vs.length → (∀ k ∈ ks, k.isSome = true) → PPs X pos ks vs (trsOf X ks vs)
  | [], [], _, _ => pps_nil
  | [], _ :: _, h, _ => nomatch h
  | _ :: _, [], h, _ => nomatch h
  | none :: _, _ :: _, _, h => absurd (h none List.mem_cons_self) (by decide)
  | some k :: ks, v :: vs, h, g => pps_cons be be (pps_of (Nat.succ.inj h) fun z hz => g z (List.mem_cons_of_mem _ hz))
theorem tPairs_go {X : Cx} (S : Sit M X) : ∀ {ks : List (Option Expr)} {vs : List Expr} {L : Led} {KP : List (D × D) → Led → Prop} {F : Hp} {σ : St} {H : Hp} {Q : List (V × V) → Hp → Prop}, EvPs M G ks vs L KP → M.at G L F σ H →
    (∀ ps L' vs F' H', KP ps L' → M.at G L' F' σ H' → RepP M.C.K F' ps vs → Same F F' → Q vs H') → tPairs (trsOf X ks vs) σ H Q
  | some k :: ks, v :: vs, L, KP, F, σ, H, Q, h, A, q => by
    show GE X k σ H fun x H1 => GE X v σ H1 fun y H2 => tPairs (trsOf X ks vs) σ H2 fun ps H3 => Q ((x, y) :: ps) H3
    refine h X S F σ H A _ fun d L1 x F1 H1 k1 A1 r1 s1 => ?_
    refine k1 X S F1 σ H1 A1 _ fun e L2 y F2 H2 k2 A2 r2 s2 => ?_
    refine tPairs_go S k2 A2 fun ps L' vs F' H' kk A' r' s' => ?_
    exact q _ L' _ F' H' kk A' (.cons (r1.mono (s2.trans s')) (r2.mono s') r') ((s1.trans s2).trans s')
  | [], [], L, KP, F, σ, H, Q, h, A, q => q [] L [] F H h A .nil (Same.refl _)
  | none :: _, _, _, _, _, _, _, _, h, _, _ => h.elim
  | some _ :: _, [], _, _, _, _, _, _, h, _, _ => h.elim
  | [], _ :: _, _, _, _, _, _, _, h, _, _ => h.elim
/-- what a display makes -/
def dispE (kvs : List (Key × D)) : List (Key × D) := kvs.foldl (fun acc kv => putE acc kv.1 kv.2) []
theorem RepK.fold {Kk : PySem.W.Frag} {F : Hp} : ∀ {more : List (Key × D)} {ws : List (Key × V)} {kvs : List (Key × D)} {us : List (Key × V)}, RepK Kk F more ws → RepK Kk F kvs us →
    RepK Kk F (more.foldl (fun acc kv => putE acc kv.1 kv.2) kvs) (ws.foldl (fun acc kv => putK acc kv.1 kv.2) us) := by
  intro more
  induction more with
  | nil => intro ws kvs us h g; cases h; exact g
  | cons a l ih =>
    intro ws kvs us h g
    cases h with
    | cons r t =>
      rw [List.foldl_cons, List.foldl_cons]
      exact ih t (g.put _ r)
theorem RepP.keys {Kk : PySem.W.Frag} {F : Hp} : ∀ {kvs : List (Key × D)} {vs : List (V × V)}, RepP Kk F (kvs.map fun kv => (.v (kV kv.1), kv.2)) vs → ∃ ws : List (Key × V), vs = ws.map (fun kv => (kV kv.1, kv.2)) ∧ RepK Kk F kvs ws
  | [], _, .nil => ⟨[], rfl, .nil⟩
  | (k, d) :: kvs, _, .cons a b t => by
    obtain ⟨ws, e, r⟩ := RepP.keys t
    exact ⟨(k, _) :: ws, by rw [a.flat, e]; rfl, .cons b r⟩
theorem ev_disp {ks : List (Option Expr)} {vs : List Expr} (h : ∀ p, EvPs M G ks vs ((p, .dK []) :: L) fun ps L' => ∃ kvs L2, ps = kvs.map (fun kv => (.v (kV kv.1), kv.2)) ∧ Chg L' p (.dK []) (.dK (dispE kvs)) L2 ∧ kvs.length ≤ 15 ∧ K (.ref p) L2)
    (hl : ks.length = vs.length := by rfl) (hall : ks.all (·.isSome) = true := by rfl) (h0 : ks ≠ [] := by exact List.cons_ne_nil _ _) (h15 : ks.length ≤ 15 := by decide) : Ev M G L (.Dict ks vs pos) K := by
  intro X S F σ H A Q q
  refine ⟨_, pe_disp (pps_of hl (fun k hk => List.all_eq_true.mp hall k hk)) hall hl h0 h15, fun p hp => ?_⟩
  refine tPairs_go S (h p) (A.new hp (.dK upd_same .nil)) fun ps L' us F' H' kk A' r' s' => ?_
  obtain ⟨kvs, L2, rfl, ch, hlen, hk⟩ := kk
  obtain ⟨ow, _, _⟩ := A'.own _ ch.mem
  obtain ⟨ws, rfl, rk⟩ := r'.keys
  cases ow with
  | dK e1 e2 =>
    cases e2
    refine ⟨e1, ws, rfl, by rw [← rk.length]; exact hlen, ?_⟩
    exact q _ L2 _ F' _ hk (A'.chg ch (.dK upd_same (rk.fold .nil))) (.v _) s'
def DcInv (M : Mode) (G : List (Option D)) (vs : List Nat) (scope : Scope) (kx vx tg : Expr) (ifs : List Expr) (src : Led) (items : List D) (L1 : Led) (K : D → Led → Prop) : Prop :=
  ∃ I : Nat → List (Key × D) → Led → Prop, I 0 [] L1 ∧ (∀ i acc L', I i acc L' → (∀ s ∈ src, s ∈ L') ∧ acc.length < sizeLine) ∧
    (∀ F1 Dl i d acc L', items[i]? = some d → I i acc L' → TgtN ((M.fix F1).blk scope) (wipeG G vs) ((Dl, .dK acc) :: L') vs tg d fun G2 => TstI ((M.fix F1).blk scope) G2 ((Dl, .dK acc) :: L') ifs fun b L2 =>
      (b = true → Ev ((M.fix F1).blk scope) G2 L2 kx fun x L3 => Ev ((M.fix F1).blk scope) G2 L3 vx fun y L4 => ∃ (k : Key) (L5 : Led), x = .v (kV k) ∧ ((Dl, OW.dK acc) :: L5).Sublist L4 ∧ I (i + 1) (putE acc k y) L5) ∧
      (b = false → ∃ L5 : Led, ((Dl, OW.dK acc) :: L5).Sublist L2 ∧ I (i + 1) acc L5)) ∧
    ∀ acc L', I items.length acc L' → ∀ Dl, K (.ref Dl) ((Dl, .dK acc) :: L')
theorem dc_go {X : Cx} {kx vx tg iter : Expr} {ifs : List Expr} {scope : Scope} {own : List (Str × Nat)} {σ : St} {H F : Hp} {Q : VK} (S : Sit M X) (hc : M.C.cm = true) (A : M.at G L F σ H)
    (h : EvI1 M G X F σ H tg iter fun src items L1 => DcInv M G (own.map (·.2)) scope kx vx tg ifs src items L1 K) (q : Post M G F σ K Q) :
    tDc (GI X tg iter) (gB X scope tg) (tB X scope ifs) (eB X scope kx) (eB X scope vx) (own.map (·.2)) σ H Q := by
  refine h _ fun J src items L1 F1 H1 k1 g1 A1 s1 Dl hD => ?_
  obtain ⟨I, i0, isrc, turn, done⟩ := k1
  have S1 := S.fix A1
  have A1' : (M.fix F1).at G ((Dl, .dK []) :: L1) F1 σ (upd H1 Dl (.dK [])) := A1.fixed.new hD (.dK upd_same .nil)
  refine ⟨fun i m H' => m = items.length - i ∧ i ≤ items.length ∧ ∃ acc L' F', (M.fix F1).at G ((Dl, .dK acc) :: L') F' σ H' ∧ I i acc L', ⟨items.length, by simp, Nat.zero_le _, [], L1, F1, A1', i0⟩, ?_⟩
  rintro i m H' ⟨rfl, hi, acc, L', F', A', iv⟩
  obtain ⟨is1, is2⟩ := isrc i acc L' iv
  obtain ⟨q1, q2⟩ := g1 G _ F' σ H' A' (fun s hs => List.mem_cons_of_mem _ (is1 s hs)) i
  by_cases hlt : i < items.length
  · obtain ⟨go, yl⟩ := q1 items[i] (by simp [hlt])
    refine .inr ⟨go, fun H2 => ∃ acc L' F', (M.fix F1).at G ((Dl, .dK acc) :: L') F' σ H2 ∧ I (i + 1) acc L', fun H2 ⟨acc2, L2, F2, A2, iv2⟩ => ⟨items.length - (i + 1), by omega, rfl, hlt, acc2, L2, F2, A2, iv2⟩, fun x H2 y s0 Hz C cl fp => ?_⟩
    obtain ⟨F2, A2, r2⟩ := yl x H2 y
    have A2w : ((M.fix F1).blk scope).at (wipeG G (own.map (·.2))) ((Dl, .dK acc) :: L') F2 (wipe σ (own.map (·.2))) H2 := A2.envOf (wipe_rep A2.env _)
    refine turn F1 Dl i _ acc L' (by simp [hlt]) iv _ S1.blk F2 _ H2 x A2w r2 _ fun G3 σ3 k3 A3 hw => ?_
    have hww : wipe σ3 (own.map (·.2)) = wipe σ (own.map (·.2)) := hw.trans (wipe_wipe σ)
    refine ⟨hww, fun s0' Hz' C' cl' fp' => ?_⟩
    have back : ∀ {L5 : Led} {F5 H5 : Hp}, ((M.fix F1).blk scope).at G3 L5 F5 σ3 H5 → Same F2 F5 → (M.fix F1).at G L5 F5 σ H5 := fun {L5 F5 H5} B s => ⟨B.ef, B.eh, B.fh, B.nf, B.own, B.nd, A2.env.mono s⟩
    refine tstI_go k3 _ S1.blk F2 σ3 H2 A3 _ fun b L4 F4 H4 k4 A4 s4 => ?_
    cases b with
    | true =>
      rw [if_pos rfl]
      intro s0'' Hz'' C'' cl'' fp''
      refine k4.1 rfl _ S1.blk F4 σ3 H4 A4 _ fun z L5 w F5 H5 k5 A5 r5 s5 => ?_
      intro s09 Hz9 C9 cl9 fp9
      refine k5 _ S1.blk F5 σ3 H5 A5 _ fun z2 L6 w2 F6 H6 k6 A6 r6 s6 => ?_
      obtain ⟨k, L7, rfl, sub, iv6⟩ := k6
      cases r5
      have A7 := (back A6 ((s4.trans s5).trans s6)).drop sub
      obtain ⟨ow, _, _⟩ := A7.own _ List.mem_cons_self
      cases ow with
      | dK e1 e2 =>
        rename_i ws
        refine ⟨ws, k, rfl, e1, by rw [← e2.length]; exact is2, ?_⟩
        exact ⟨_, L7, F6, A7.chg .here (.dK upd_same (e2.put k r6)), iv6⟩
    | false =>
      rw [if_neg Bool.false_ne_true]
      obtain ⟨L6, sub, iv6⟩ := k4.2 rfl
      exact ⟨acc, L6, F4, (back A4 s4).drop sub, iv6⟩
  · have e : i = items.length := by omega
    subst e
    exact .inl ⟨q2 (Nat.le_refl _), q _ _ _ F' H' (done acc L' iv Dl) (A1.unfix A') (.v _) (s1.trans A'.ef)⟩
theorem ev_dc {kx vx tg iter : Expr} {ifs : List Expr} {scope : Scope} (own : List (Str × Nat)) (hc : M.C.cm = true) (ok : blkC M.C.N M.C.sc scope own = true)
    (h : EvI M G L tg iter fun src items L1 => DcInv M G (own.map (·.2)) scope kx vx tg ifs src items L1 K)
    (hs : ∀ (X : Cx) x, foldedSetIterable iter X.env x = pure x := by intro _ _; rfl) : Ev M G L (.DictComp kx vx [⟨tg, iter, ifs, 0⟩] scope pos) K := by
  intro X S F σ H A Q q
  refine ⟨_, pe_dc (S.ok.calm hc) (by rw [← S.ok.eN]; exact S.ok.nd) bi (by rw [← S.ok.eN, ← S.ok.es]; exact blkOk_by ok) gB_ok tB_ok eB_ok eB_ok (hs X), ?_⟩
  exact dc_go S hc A (h X S F σ H A) q
@[reducible] def Mode.lok (M : Mode) (H0 F0 : Hp) : Mode := { M with H0 := H0, F0 := F0, T := fun _ _ _ => False }
theorem Sit.lok {X : Cx} (S : Sit M X) (H0 F0 : Hp) : Sit (M.lok H0 F0) X := by
  obtain ⟨ok, W, tk, _⟩ := S
  exact ⟨ok, W, tk, fun _ _ _ _ _ _ _ _ h => h.elim⟩
section
variable {Kk : PySem.W.Frag} {H0 F0 F F' H H' : Hp} {G' : List (Option D)} {L' : Led} {σ σ' : St} {p : Addr} {u : HO} {od : Obj}
theorem At.locked (a : At Kk H0 F0 G L F σ H) (hF : F p = some u) (hd : (∃ ws, u = .dK ws) ∨ ∃ ws, u = .dT ws) : At Kk (less H0 [p]) (upd F p (.frz od u)) G L (upd F p (.frz od u)) σ (upd H p (.frz od u)) := by
  have kp : Kp F (upd F p (.frz od u)) := by
    refine ⟨fun b v hv h => ?_, fun b xs h => ?_, fun b xs h => ?_, fun b C dx fs h => ?_⟩
    · by_cases e : b = p
      · subst e
        rcases h with h | ⟨o, h⟩
        · rw [hF] at h; cases h; exact .inr ⟨od, upd_same⟩
        · rw [hF] at h; rcases hd with ⟨ws, rfl⟩ | ⟨ws, rfl⟩ <;> cases h
      · exact h.elim (fun h => .inl (by rw [upd_ne e]; exact h)) fun ⟨o, h⟩ => .inr ⟨o, by rw [upd_ne e]; exact h⟩
    · by_cases e : b = p
      · subst e; rw [hF] at h; rcases hd with ⟨ws, rfl⟩ | ⟨ws, rfl⟩ <;> cases h
      · rw [upd_ne e]; exact h
    · by_cases e : b = p
      · subst e; rw [hF] at h; rcases hd with ⟨ws, rfl⟩ | ⟨ws, rfl⟩ <;> cases h
      · rw [upd_ne e]; exact h
    · by_cases e : b = p
      · subst e; rw [hF] at h; rcases hd with ⟨ws, rfl⟩ | ⟨ws, rfl⟩ <;> cases h
      · rw [upd_ne e]; exact h
  refine ⟨Same.refl _, fun b o h => ?_, fun b o h => ?_, fun _ _ _ _ h => h, fun q hq => ?_, a.nd, a.env.keep kp⟩
  · obtain ⟨h1, h2⟩ := less_some h
    rw [upd_ne (fun e => h1 (by rw [e]; exact List.mem_cons_self))]
    exact a.eh b o h2
  · by_cases e : b = p
    · subst e; rw [upd_same] at h ⊢; exact h
    · rw [upd_ne e] at h ⊢; exact a.fh b o h
  · obtain ⟨x, y, z⟩ := a.own q hq
    have ne : q.1 ≠ p := fun e => by rw [e, hF] at y; cases y
    refine ⟨?_, by rw [upd_ne ne]; exact y, ?_⟩
    · have go : ∀ {l : Addr} {o : OW}, OwnAt Kk F H l o → l ≠ p → OwnAt Kk (upd F p (.frz od u)) (upd H p (.frz od u)) l o := by
        intro l o x ne
        cases x with
        | lst e r => exact .lst (by rw [upd_ne ne]; exact e) (r.keep kp)
        | dK e r => exact .dK (by rw [upd_ne ne]; exact e) (r.keep kp)
        | dT e r => exact .dT (by rw [upd_ne ne]; exact e) (r.keep kp)
        | ins e r => exact .ins (by rw [upd_ne ne]; exact e) (r.keep kp)
        | ext e r => exact .ext (by rw [upd_ne ne]; exact e) fun z hz => (r z hz).keep kp
      exact go x ne
    · cases w : less H0 [p] q.1 with
      | none => rfl
      | some o => rw [(less_some w).2] at z; cases z
theorem At.unlocked (a : At Kk H0 F0 G L F σ H) (hF : F p = some u) (hd : (∃ ws, u = .dK ws) ∨ ∃ ws, u = .dT ws) (b : At Kk (less H0 [p]) (upd F p (.frz od u)) G' L' F' σ' H') :
    F' p = some (.frz od u) ∧ Same F (upd F' p u) ∧ Kp F' (upd F' p u) ∧ At Kk H0 F0 G' L' (upd F' p u) σ' (upd H' p u) := by
  have hp : F' p = some (.frz od u) := b.ef _ _ upd_same
  have nu : ∀ o v, u ≠ .frz o v := fun o v e => by rcases hd with ⟨ws, rfl⟩ | ⟨ws, rfl⟩ <;> cases e
  have kp : Kp F' (upd F' p u) := by
    refine ⟨fun c v hv h => ?_, fun c xs h => ?_, fun c xs h => ?_, fun c C dx fs h => ?_⟩
    · by_cases e : c = p
      · subst e
        rcases h with h | ⟨o, h⟩
        · rw [hp] at h; cases h; exact absurd rfl (hv _ _)
        · rw [hp] at h; cases h; exact .inl upd_same
      · exact h.elim (fun h => .inl (by rw [upd_ne e]; exact h)) fun ⟨o, h⟩ => .inr ⟨o, by rw [upd_ne e]; exact h⟩
    · by_cases e : c = p
      · subst e; rw [hp] at h; cases h
      · rw [upd_ne e]; exact h
    · by_cases e : c = p
      · subst e; rw [hp] at h; cases h
      · rw [upd_ne e]; exact h
    · by_cases e : c = p
      · subst e; rw [hp] at h; cases h
      · rw [upd_ne e]; exact h
  have s : Same F (upd F' p u) := fun c o h => by
    by_cases e : c = p
    · subst e; rw [upd_same, ← hF]; exact h
    · rw [upd_ne e]; exact b.ef c o (by rw [upd_ne e]; exact h)
  refine ⟨hp, s, kp, a.ef.trans s, fun c o h => ?_, fun c o h => ?_, fun c o h1 ht h2 => ?_, fun q hq => ?_, b.nd, b.env.keep kp⟩
  · by_cases e : c = p
    · subst e; rw [upd_same, ← a.fh _ _ hF]; exact a.eh _ _ h
    · rw [upd_ne e]; exact b.eh c o (by rw [less_out (by simpa using e)]; exact h)
  · by_cases e : c = p
    · subst e; rw [upd_same] at h ⊢; exact h
    · rw [upd_ne e] at h ⊢; exact b.fh c o h
  · by_cases e : c = p
    · subst e
      have := a.nf _ o h1 ht h2
      rw [hF] at this; cases this
    · rw [upd_ne e]
      exact b.nf c o (by rw [less_out (by simpa using e)]; exact h1) ht (by rw [upd_ne e]; exact a.nf c o h1 ht h2)
  · obtain ⟨x, y, z⟩ := b.own q hq
    have ne : q.1 ≠ p := fun e => by rw [e, hp] at y; cases y
    refine ⟨?_, by rw [upd_ne ne]; exact y, ?_⟩
    · have go : ∀ {l : Addr} {o : OW}, OwnAt Kk F' H' l o → l ≠ p → OwnAt Kk (upd F' p u) (upd H' p u) l o := by
        intro l o x ne
        cases x with
        | lst e r => exact .lst (by rw [upd_ne ne]; exact e) (r.keep kp)
        | dK e r => exact .dK (by rw [upd_ne ne]; exact e) (r.keep kp)
        | dT e r => exact .dT (by rw [upd_ne ne]; exact e) (r.keep kp)
        | ins e r => exact .ins (by rw [upd_ne ne]; exact e) (r.keep kp)
        | ext e r => exact .ext (by rw [upd_ne ne]; exact e) fun z hz => (r z hz).keep kp
      exact go x ne
    · cases w : H0 q.1 with
      | none => rfl
      | some o => rw [less_out (by simpa using ne)] at z; rw [z] at w; cases w
end
/-- e leads to the dict at p, and still does while that is locked -/
def Path (M : Mode) (G : List (Option D)) (L : Led) (e : Expr) (kvs : List (Key × D)) : Prop := ∀ X, Sit M X → ∀ F σ H, M.at G L F σ H → ∃ p ws, Rd F p (.dK ws) ∧ RepK M.C.K F kvs ws ∧ (∀ Q : VK, Q (.ref p) H → GE X e σ H Q) ∧
  ∀ od, F p = some (.dK ws) → ∀ Q : VK, Q (.ref p) (upd H p (.frz od (.dK ws))) → GE X e σ (upd H p (.frz od (.dK ws))) Q
theorem path_name {x : Str} {kvs : List (Key × D)} (hl : Look M.C.N G x (some (.dK kvs))) (hv : Vis M.C.sc x) (hd : (x == ("__debug__" : Str)) = false := by decide +kernel) (hcd : (x == ("__classdict__" : Str)) = false := by decide +kernel) : Path M G L (.Name x pos) kvs := by
  intro X S F σ H a
  obtain ⟨i, h1, h2⟩ := hl.ix
  obtain ⟨v, h3, r⟩ := a.env.get h2
  cases r with
  | dK r1 r2 =>
    refine ⟨_, _, r1, r2, fun Q q => ⟨tVar i, pe_var (by rw [← S.ok.eN]; exact h1) (by rw [← S.ok.es]; exact hv) hd hcd, _, h3, q⟩, fun od _ Q q => ⟨tVar i, pe_var (by rw [← S.ok.eN]; exact h1) (by rw [← S.ok.es]; exact hv) hd hcd, _, h3, q⟩⟩
def keysD (kvs : List (Key × D)) : List D := kvs.map fun kv => .v (kV kv.1)
/-- in the locked mode the walk is one through the keys -/
theorem keys_go {X : Cx} {F H : Hp} {σ : St} {tg e : Expr} {p : Addr} {od : Obj} {ws : List (Key × V)} {kvs : List (Key × D)} {K : Led → List D → Led → Prop} (hk : K [] (keysD kvs) L) (r : RepK M.C.K F kvs ws) (A : M.at G L F σ H) (hF : F p = some (.frz od (.dK ws)))
    (h : ∀ Q : VK, Q (.ref p) H → GE X e σ H Q) : EvI1 M G X F σ H tg e K := by
  intro R q
  have rk : ∀ {kvs : List (Key × D)} {ws : List (Key × V)}, RepK M.C.K F kvs ws → keysD kvs = ws.map fun kv => .v (kV kv.1) := by
    intro kvs ws r
    induction kvs generalizing ws with
    | nil => cases r; rfl
    | cons a l ih => cases r with
      | cons r1 r2 =>
        show (.v (kV _) : D) :: keysD _ = _
        rw [ih r2]
        rfl
  refine ⟨_, pi_keys be, h _ ⟨p, od, rfl, .inl ⟨ws, A.fh _ _ hF, q _ [] _ L F H hk (fun G' L' F' σ' H' A' _ i => ?_) A (Same.refl _)⟩⟩⟩
  have hH : H' p = some (.frz od (.dK ws)) := A'.fh _ _ (A'.ef _ _ hF)
  rw [rk r]
  refine ⟨fun d hd => ?_, fun hi => ⟨hH, by simpa using hi⟩⟩
  rw [List.getElem?_map] at hd
  cases e1 : ws[i]? with
  | none => rw [e1] at hd; cases hd
  | some kv =>
    rw [e1] at hd
    cases hd
    refine ⟨⟨hH, (List.getElem?_eq_some_iff.mp e1).1⟩, fun x H2 ⟨e2, k, v, e3, e4⟩ => ?_⟩
    rw [e1] at e3
    cases e3
    subst e2 e4
    exact ⟨F', A', .v _⟩
theorem kp_lock {Kk : PySem.W.Frag} {F : Hp} {p : Addr} {u : HO} {od : Obj} (hF : F p = some u) (hd : (∃ ws, u = .dK ws) ∨ ∃ ws, u = .dT ws) : Kp F (upd F p (.frz od u)) := by
  refine ⟨fun b v hv h => ?_, fun b xs h => ?_, fun b xs h => ?_, fun b C dx fs h => ?_⟩
  · by_cases e : b = p
    · subst e
      rcases h with h | ⟨o, h⟩
      · rw [hF] at h; cases h; exact .inr ⟨od, upd_same⟩
      · rw [hF] at h; rcases hd with ⟨ws, rfl⟩ | ⟨ws, rfl⟩ <;> cases h
    · exact h.elim (fun h => .inl (by rw [upd_ne e]; exact h)) fun ⟨o, h⟩ => .inr ⟨o, by rw [upd_ne e]; exact h⟩
  · by_cases e : b = p
    · subst e; rw [hF] at h; rcases hd with ⟨ws, rfl⟩ | ⟨ws, rfl⟩ <;> cases h
    · rw [upd_ne e]; exact h
  · by_cases e : b = p
    · subst e; rw [hF] at h; rcases hd with ⟨ws, rfl⟩ | ⟨ws, rfl⟩ <;> cases h
    · rw [upd_ne e]; exact h
  · by_cases e : b = p
    · subst e; rw [hF] at h; rcases hd with ⟨ws, rfl⟩ | ⟨ws, rfl⟩ <;> cases h
    · rw [upd_ne e]; exact h
theorem run_forK {tg iter : Expr} {body : List Stmt} {kvs : List (Key × D)} (hlp : M.C.lp = true) (hc : M.C.cm = true) (hp : Path M G L iter kvs)
    (h : ∀ H0 F0, ForInv (M.lok H0 F0) G tg body { E with nx := fun G' L' => Run M G' L' rest E } [] (keysD kvs) L)
    (hs : ∀ (X : Cx) x, foldedSetIterable iter X.env x = pure x := by intro _ _; rfl) : Run M G L (.For tg iter body [] pos :: rest) E := by
  intro X S F σ H A D o
  obtain ⟨p, ws, rd, r, g1, g2⟩ := hp X S F σ H A
  rcases rd with hF | ⟨od, hF⟩
  · refine gss_cons ⟨_, ps_lock (ps_for (S.ok.po hlp) (S.ok.calm hc) bi bg bss (hs X)), p, .dK ws, A.fh _ _ hF, True.intro, fun od => ?_⟩
    have A2 := A.locked (od := od) hF (.inl ⟨ws, rfl⟩)
    have kp := kp_lock (Kk := M.C.K) (od := od) hF (.inl ⟨ws, rfl⟩)
    have ev := keys_go (M := M.lok (less M.H0 [p]) (upd F p (.frz od (.dK ws)))) (tg := tg) (K := fun src items L1 => ForInv (M.lok (less M.H0 [p]) (upd F p (.frz od (.dK ws)))) G tg body { E with nx := fun G' L' => Run M G' L' rest E } src items L1) (h _ _) (r.keep kp) A2 upd_same (g2 od hF)
    have un : ∀ {G' : List (Option TL.D)} {L' : Led} {F' : Hp} {σ' : St} {H' : Hp}, (M.lok (less M.H0 [p]) (upd F p (.frz od (.dK ws)))).at G' L' F' σ' H' → H' p = some (.frz od (.dK ws)) ∧ Kp F' (upd F' p (.dK ws)) ∧ M.at G' L' (upd F' p (.dK ws)) σ' (upd H' p (.dK ws)) := fun B => by
      obtain ⟨u1, u2, u3, u4⟩ := A.unlocked hF (.inl ⟨ws, rfl⟩) B
      exact ⟨B.fh _ _ u1, u3, u4⟩
    exact for_go (S.lok _ _) A2 ev ⟨fun G' L' F' σ' H' k B => let ⟨a, b, c⟩ := un B; ⟨a, k X S _ σ' _ c D o⟩, fun d G' L' v F' σ' H' k B r => let ⟨a, b, c⟩ := un B; ⟨a, o.rt d G' L' v _ σ' _ k c (r.keep b)⟩,
        fun G' L' F' σ' H' k B => let ⟨a, b, c⟩ := un B; ⟨a, o.bk G' L' _ σ' _ k c⟩, fun G' L' F' σ' H' k B => let ⟨a, b, c⟩ := un B; ⟨a, o.ct G' L' _ σ' _ k c⟩⟩
  · have A2 : (M.lok M.H0 M.F0).at G L F σ H := A
    have ev := keys_go (M := M.lok M.H0 M.F0) (tg := tg) (K := fun src items L1 => ForInv (M.lok M.H0 M.F0) G tg body { E with nx := fun G' L' => Run M G' L' rest E } src items L1) (h _ _) r A2 hF g1
    have o2 := o.seq S (rest := rest)
    exact gss_cons ⟨_, ps_for (S.ok.po hlp) (S.ok.calm hc) bi bg bss (hs X), for_go (S.lok _ _) A2 ev ⟨o2.nx, o2.rt, o2.bk, o2.ct⟩⟩
/-- [.. for x in a dict ..] -/
theorem ev_lcK {elt tg iter : Expr} {ifs : List Expr} {scope : Scope} {kvs : List (Key × TL.D)} (own : List (Str × Nat)) (hc : M.C.cm = true) (ok : blkC M.C.N M.C.sc scope own = true) (hp : Path M G L iter kvs)
    (h : ∀ H0 F0, LcInv (M.lok H0 F0) G (own.map (·.2)) scope elt tg ifs [] (keysD kvs) L K)
    (hs : ∀ (X : Cx) x, foldedSetIterable iter X.env x = pure x := by intro _ _; rfl) : Ev M G L (.ListComp elt [⟨tg, iter, ifs, 0⟩] scope pos) K := by
  intro X S F σ H A Q q
  obtain ⟨p, ws, rd, r, g1, g2⟩ := hp X S F σ H A
  have pe := pe_lc (X := X) (elt := elt) (tg := tg) (iter := iter) (ifs := ifs) (scope := scope) (own := own) (pos := pos) (S.ok.calm hc) (by rw [← S.ok.eN]; exact S.ok.nd) bi (by rw [← S.ok.eN, ← S.ok.es]; exact blkOk_by ok) gB_ok tB_ok eB_ok (hs X)
  rcases rd with hF | ⟨od, hF⟩
  · refine ⟨_, pe_lock pe, p, .dK ws, A.fh _ _ hF, True.intro, fun od => ?_⟩
    have A2 := A.locked (od := od) hF (.inl ⟨ws, rfl⟩)
    have kp := kp_lock (Kk := M.C.K) (od := od) hF (.inl ⟨ws, rfl⟩)
    have ev := keys_go (M := M.lok (less M.H0 [p]) (upd F p (.frz od (.dK ws)))) (tg := tg) (K := fun src items L1 => LcInv (M.lok (less M.H0 [p]) (upd F p (.frz od (.dK ws)))) G (own.map (·.2)) scope elt tg ifs src items L1 K) (h _ _) (r.keep kp) A2 upd_same (g2 od hF)
    refine lc_go (S.lok _ _) hc A2 ev fun d L' v F' H' k B rv _ => ?_
    obtain ⟨u1, u2, u3, u4⟩ := A.unlocked hF (.inl ⟨ws, rfl⟩) B
    exact ⟨B.fh _ _ u1, q d L' v _ _ k u4 (rv.keep u3) u2⟩
  · have A2 : (M.lok M.H0 M.F0).at G L F σ H := A
    have ev := keys_go (M := M.lok M.H0 M.F0) (tg := tg) (K := fun src items L1 => LcInv (M.lok M.H0 M.F0) G (own.map (·.2)) scope elt tg ifs src items L1 K) (h _ _) r A2 hF g1
    exact ⟨_, pe, lc_go (S.lok _ _) hc A2 ev q⟩
theorem run_setlcK {x : Str} {p2 : Pos} {elt tg iter : Expr} {ifs : List Expr} {scope : Scope} {spos : Pos} {kvs : List (Key × TL.D)} (own : List (Str × Nat)) (hc : M.C.cm = true) (hx : M.C.sc.names.lookup x = some .local) (hn : x ∈ M.C.N) (ok : blkC M.C.N M.C.sc scope own = true) (hp : Path M G L iter kvs)
    (h : ∀ H0 F0, LcInv (M.lok H0 F0) G (own.map (·.2)) scope elt tg ifs [] (keysD kvs) L fun d L2 => ∃ G', Put M.C.N G x (some d) G' ∧ Run M G' L2 rest E)
    (hkind : M.C.sc.kind = .function) (hl : (p2.line == pos.line) = true) (ha : (scope.names.any fun (n, k) => n == x && (k == .local || k == .cell)) = false)
    (hs : ∀ (X : Cx) x, foldedSetIterable iter X.env x = pure x := by intro _ _; rfl) : Run M G L (.Assign [.Name x p2] (.ListComp elt [⟨tg, iter, ifs, 0⟩] scope pos) spos :: rest) E := by
  intro X S F σ H A D o
  obtain ⟨i, hi⟩ := List.getElem?_of_mem hn
  have nd : X.N.Nodup := by rw [← S.ok.eN]; exact S.ok.nd
  have lx : X.env.scope.names.lookup x = some .local := by rw [← S.ok.es]; exact hx
  rw [S.ok.eN] at hi
  obtain ⟨p, ws, rd, r, g1, g2⟩ := hp X S F σ H A
  have ps := ps_setLc (X := X) (y := x) (py := p2) (elt := elt) (tg := tg) (iter := iter) (ifs := ifs) (scope := scope) (own := own) (i := i) (spos := spos) (pos := pos) (S.ok.calm hc) nd hi lx (sw_true (by rw [← S.ok.es]; exact hkind) lx hl ha) bi (by rw [← S.ok.eN, ← S.ok.es]; exact blkOk_by ok) gB_ok tB_ok eB_ok (hs X)
  have fin : ∀ {d : TL.D} {L2 : Led} {v : V} {F2 H2 : Hp}, (∃ G', Put M.C.N G x (some d) G' ∧ Run M G' L2 rest E) → M.at G L2 F2 σ H2 → Rep M.C.K F2 d v → GSs X rest D (σ.set i (some v)) H2 := by
    intro d L2 v F2 H2 k2 A2 r2
    obtain ⟨G', hp, hr⟩ := k2
    obtain ⟨j, hj, rfl⟩ := hp.ix
    rw [S.ok.eN] at hj
    have e : j = i := nodup_ix nd hj hi
    subst e
    exact hr X S F2 _ H2 (A2.set r2) D o
  rcases rd with hF | ⟨od, hF⟩
  · refine gss_cons ⟨_, ps_lock ps, p, .dK ws, A.fh _ _ hF, True.intro, fun od => ?_⟩
    have A2 := A.locked (od := od) hF (.inl ⟨ws, rfl⟩)
    have kp := kp_lock (Kk := M.C.K) (od := od) hF (.inl ⟨ws, rfl⟩)
    have ev := keys_go (M := M.lok (less M.H0 [p]) (upd F p (.frz od (.dK ws)))) (tg := tg) (K := fun src items L1 => LcInv (M.lok (less M.H0 [p]) (upd F p (.frz od (.dK ws)))) G (own.map (·.2)) scope elt tg ifs src items L1 fun d L2 => ∃ G', Put M.C.N G x (some d) G' ∧ Run M G' L2 rest E) (h _ _) (r.keep kp) A2 upd_same (g2 od hF)
    refine lc_go (S.lok _ _) hc A2 ev fun d L' v F' H' k B rv _ => ?_
    obtain ⟨u1, u2, u3, u4⟩ := A.unlocked hF (.inl ⟨ws, rfl⟩) B
    exact ⟨B.fh _ _ u1, fin k u4 (rv.keep u3)⟩
  · have A2 : (M.lok M.H0 M.F0).at G L F σ H := A
    have ev := keys_go (M := M.lok M.H0 M.F0) (tg := tg) (K := fun src items L1 => LcInv (M.lok M.H0 M.F0) G (own.map (·.2)) scope elt tg ifs src items L1 fun d L2 => ∃ G', Put M.C.N G x (some d) G' ∧ Run M G' L2 rest E) (h _ _) r A2 hF g1
    exact gss_cons ⟨_, ps, lc_go (S.lok _ _) hc A2 ev fun d L' v F' H' k B rv _ => fin k B rv⟩
theorem ev_dcK {kx vx tg iter : Expr} {ifs : List Expr} {scope : Scope} {kvs : List (Key × TL.D)} (own : List (Str × Nat)) (hc : M.C.cm = true) (ok : blkC M.C.N M.C.sc scope own = true) (hp : Path M G L iter kvs)
    (h : ∀ H0 F0, DcInv (M.lok H0 F0) G (own.map (·.2)) scope kx vx tg ifs [] (keysD kvs) L K)
    (hs : ∀ (X : Cx) x, foldedSetIterable iter X.env x = pure x := by intro _ _; rfl) : Ev M G L (.DictComp kx vx [⟨tg, iter, ifs, 0⟩] scope pos) K := by
  intro X S F σ H A Q q
  obtain ⟨p, ws, rd, r, g1, g2⟩ := hp X S F σ H A
  have pe := pe_dc (X := X) (kx := kx) (vx := vx) (tg := tg) (iter := iter) (ifs := ifs) (scope := scope) (own := own) (pos := pos) (S.ok.calm hc) (by rw [← S.ok.eN]; exact S.ok.nd) bi (by rw [← S.ok.eN, ← S.ok.es]; exact blkOk_by ok) gB_ok tB_ok eB_ok eB_ok (hs X)
  rcases rd with hF | ⟨od, hF⟩
  · refine ⟨_, pe_lock pe, p, .dK ws, A.fh _ _ hF, True.intro, fun od => ?_⟩
    have A2 := A.locked (od := od) hF (.inl ⟨ws, rfl⟩)
    have kp := kp_lock (Kk := M.C.K) (od := od) hF (.inl ⟨ws, rfl⟩)
    have ev := keys_go (M := M.lok (less M.H0 [p]) (upd F p (.frz od (.dK ws)))) (tg := tg) (K := fun src items L1 => DcInv (M.lok (less M.H0 [p]) (upd F p (.frz od (.dK ws)))) G (own.map (·.2)) scope kx vx tg ifs src items L1 K) (h _ _) (r.keep kp) A2 upd_same (g2 od hF)
    refine dc_go (S.lok _ _) hc A2 ev fun d L' v F' H' k B rv _ => ?_
    obtain ⟨u1, u2, u3, u4⟩ := A.unlocked hF (.inl ⟨ws, rfl⟩) B
    exact ⟨B.fh _ _ u1, q d L' v _ _ k u4 (rv.keep u3) u2⟩
  · have A2 : (M.lok M.H0 M.F0).at G L F σ H := A
    have ev := keys_go (M := M.lok M.H0 M.F0) (tg := tg) (K := fun src items L1 => DcInv (M.lok M.H0 M.F0) G (own.map (·.2)) scope kx vx tg ifs src items L1 K) (h _ _) r A2 hF g1
    exact ⟨_, pe, dc_go (S.lok _ _) hc A2 ev q⟩
end
end TL
namespace TL
open PySem L2
section
variable {M : Mode} {G : List (Option D)} {L : Led} {K : D → Led → Prop} {pos : Pos} {rest : List Stmt} {E : TD}
def EX.cls : EX → Value
  | .own C => .ref C
  | .low C _ _ => .ref C
theorem ExIs.cls {Kk : PySem.W.Frag} {F H : Hp} {ex : EX} {v : Value} {d : Option Addr} (h : ExIs Kk F H ex v d) : v = ex.cls := by cases h <;> rfl
@[reducible] def Mode.sui (M : Mode) : Mode := { M with C := { M.C with cm := false, lp := false }, T := fun _ _ _ => False }
theorem Sit.sui {X : Cx} (S : Sit M X) (a : Addr) (pn : List (Addr × Obj)) : Sit M.sui (X.suite a pn) := by
  obtain ⟨⟨eP, ew, eK, em, eb, eN, es, calm, room, nd, fn, po, st⟩, _⟩ := S
  exact ⟨⟨eP, ew, eK, em, eb, eN, es, (fun h => nomatch h), (fun h => nomatch h), nd, fn, (fun h => nomatch h), (fun h => nomatch h)⟩, fun _ _ _ _ => False, takes0, fun _ _ _ _ _ _ _ _ h => h.elim⟩
theorem Sit.tr {X : Cx} (S : Sit M X) {T : EX → List (Option D) → Led → Prop} {W : WX} {pn : List (Addr × Obj)} {xe : Value → Shared → Prop} (tk : Takes (X.tr pn xe) W) (hp : PassesOwn (model X.prog X.w) X.A X.env xe)
    (hk : Mode.Tk { M with T := T } W) : Sit { M with T := T } (X.tr pn xe) := by
  obtain ⟨⟨eP, ew, eK, em, eb, eN, es, calm, room, nd, fn, po, st⟩, _⟩ := S
  exact ⟨⟨eP, ew, eK, em, eb, eN, es, calm, room, nd, fn, fun _ => hp, st⟩, W, tk, hk⟩
def HdsC (M : Mode) : List ExceptHandler → List Value → Prop
  | [], [] => True
  | .ExceptHandler (some (.Name x _)) none (_ :: _) _ :: hds, c :: cs => (GlC M.C x ∧ (x == ("__debug__" : Str)) = false ∧ M.C.mg x = some c) ∧ HdsC M hds cs
  | _, _ => False
/-- what the clauses wish of an exception of the body -/
def HT (M : Mode) (E : TD) : List ExceptHandler → List Value → EX → List (Option D) → Led → Prop
  | .ExceptHandler _ _ ss _ :: hds, c :: cs, ex, G, L => ∃ b, PySem.W.exmOne M.C.K ex.cls c = some b ∧ (b = true → Run M.sui G L ss E) ∧ (b = false → HT M E hds cs ex G L)
  | _, _, ex, G, L => M.T ex G L
def tSu (X : Cx) (ss : List Stmt) : Addr → Value → Option Addr → TS := fun a cls d D σ H => ∀ oe pn, Zc cls d oe → (∃ vs, oe.data = .fields vs) → GSs (X.suite a ((a, oe) :: pn)) ss D σ H
def trsH (X : Cx) : List ExceptHandler → List Value → List (Value × (Addr → Value → Option Addr → TS))
  | .ExceptHandler _ _ ss _ :: hds, c :: cs => (c, tSu X ss) :: trsH X hds cs
  | _, _ => []
theorem HdsC.ok {X : Cx} (S : Sit M X) : ∀ {hds : List ExceptHandler} {cs : List Value}, HdsC M hds cs → HdsOk X hds (trsH X hds cs)
  | [], [], _ => .nil
  | [], _ :: _, h => h.elim
  | .ExceptHandler (some (.Name x p)) none (b :: ss) p2 :: hds, c :: cs, h => by
    obtain ⟨⟨h1, h2, h3⟩, h4⟩ := h
    refine .cons ⟨gl_of S h1, h2, .inl (mg_of S h3)⟩ (fun a oe cls d pn hz hv => ⟨fun pins s σ H Q I q => bss.run pins s σ H Q I (q oe pn hz hv)⟩) (HdsC.ok S h4)
theorem HT.many {X : Cx} {W : WX} {DD : Ends} (S : Sit M X) (hk : M.Tk W) (o : EndsOk M E DD) : ∀ {hds : List ExceptHandler} {cs : List Value}, HdsC M hds cs → ∀ {ex : EX} {G : List (Option D)} {L : Led} {F : Hp} {σ : St} {H : Hp} {v : Value} {d : Option Addr},
    HT M E hds cs ex G L → M.at G L F σ H → ExIs M.C.K F H ex v d → wMany X.K W DD (trsH X hds cs) v d σ H
  | [], [], _, ex, G, L, F, σ, H, v, d, h, A, x => hk ex G L F σ H v d h A x
  | [], _ :: _, hc, _, _, _, _, _, _, _, _, _, _, _ => hc.elim
  | .ExceptHandler (some (.Name y p)) none (b0 :: ss) p2 :: hds, c :: cs, hc, ex, G, L, F, σ, H, v, d, h, A, x => by
    obtain ⟨b, hb, h1, h2⟩ := h
    refine ⟨b, by rw [← S.ok.eK, x.cls]; exact hb, fun e a _ oe pn _ _ => ?_, fun e => HT.many S hk o hc.2 (h2 e) A x⟩
    exact h1 e _ (S.sui a _) F σ H A _ ⟨o.nx, o.rt, o.bk, o.ct⟩
theorem run_try {body : List Stmt} {h0 : ExceptHandler} {hds : List ExceptHandler} (cs : List Value) (hlp : M.C.lp = true) (hc : HdsC M (h0 :: hds) cs)
    (h : Run { M with T := HT M { E with nx := fun G' L' => Run M G' L' rest E } (h0 :: hds) cs } G L body { E with nx := fun G' L' => Run M G' L' rest E }) : Run M G L (.Try body (h0 :: hds) [] [] pos :: rest) E := by
  intro X S F σ H A DD o
  obtain ⟨W, tk, hk⟩ := S.tk
  obtain ⟨st1, st2⟩ := S.ok.st hlp
  have o2 := o.seq S (rest := rest)
  refine gss_cons ⟨_, ps_try_many (tb := fun W' => fun D' σ' H' => ∀ pn xe, Takes (X.tr pn xe) W' → PassesOwn (model X.prog X.w) X.A X.env xe → GSs (X.tr pn xe) body D' σ' H') st1 st2 tk (fun W' pn xe t1 t2 => ⟨fun pins s σ H Q I q => bss.run pins s σ H Q I (q pn xe t1 t2)⟩) (hc.ok S), fun pn xe t1 t2 => ?_⟩
  exact h _ (S.tr t1 t2 fun ex G' L' F' σ' H' v d ht B x => HT.many S hk o2 hc ht B x) F σ H A _ ⟨o2.nx, o2.rt, o2.bk, o2.ct⟩
def spLow (Cc : Addr) (f : Str) : Sp := fun vs H Q E => ∃ a y, vs = [.ref a, y] ∧ H a = some (exo a Cc none) ∧ ∀ dx, H dx = none → dx ≠ a → Q .non (upd (upd H dx (exd dx [(f, y)])) a (exo a Cc (some dx)))
structure ExcL (P : Program) (w : World) (K : PySem.W.Frag) (mg : Str → Option Value) (base : Heap) (x : Str) (Cc : Addr) (f : Str) (j : Nat) : Prop where
  oex : OexC K Cc
  init : ∃ (fI : Addr) (fd : FuncData) (ps : List Str), PySem.W.findIn K (.ref Cc) "__init__" = some (some (.ref fI)) ∧ PySem.W.typeIn K (.ref fI) = some (.type "function") ∧ FnOk P w K mg base (L2.CX P w) j fI fd ps (spLow Cc f) ∧ Binds K fd ps []
  m : mg x = some (.ref Cc)
theorem passes_none {X : Cx} : Passes (L2.CX X.prog X.w) X (fun _ _ _ => False) := fun _ _ _ _ _ _ _ h => by
  obtain ⟨_, _, _, _, _, _, _, _, _, _, _, _, z⟩ := h
  exact z.elim
theorem run_raiseL {x f : Str} {p p2 : Pos} {e : Expr} {Cc : Addr} {j : Nat} (B : ExcL M.C.P M.C.w M.C.K M.C.mg M.C.base x Cc f j) (hc : M.C.cm = true) (hj : j + 1 ≤ M.C.k) (hg : GlC M.C x) (h : Ev M G L e fun d L1 => M.T (.low Cc f d) G L1)
    (hdb : (x == ("__debug__" : Str)) = false := by decide +kernel) (he : ∀ X : Cx, starEach [e] X.env = (false, eval e X.env) :: starEach [] X.env := by intro _; rfl) (hpl : ∀ X : Cx, (backTo p2 (starEach [] X.env)).any (·.1) = false := by intro _; rfl) :
    Run M G L (.Raise (some (.Call (.Name x p) [e] [] p2)) none pos :: rest) E := by
  intro X S F σ H A DD o
  obtain ⟨W, tk, hk⟩ := S.tk
  obtain ⟨oex, ⟨fI, fd, ps, iC, tI, ok, bd⟩, m⟩ := B
  rw [S.ok.eP, S.ok.ew, S.ok.eK, S.ok.em, S.ok.eb] at ok
  rw [S.ok.eK] at oex iC tI bd
  refine gss_cons ⟨_, ps_raise (S.ok.calm hc) tk (pmk_oex (pos := p2) oex iC tI ok (room_le S hc hj) bd (dvs := []) .nil passes_none (gl_of S hg) (mg_of S m) (pa_cons be pa_nil (he X)) hdb (he X) (hpl X)), ?_⟩
  refine h X S F σ H A _ fun d L1 v F1 H1 k1 A1 r1 s1 => ?_
  refine ⟨(show 1 ≤ 1000 by decide), fun a ha => ⟨a, v, rfl, upd_same, fun dx hdx hne => ⟨rfl, dx, [(f, v)], upd_same, by rw [upd_ne hne, upd_same], by rw [upd_ne hne] at hdx; exact hdx, ?_⟩⟩⟩
  have h1 : H1 dx = none := by rw [upd_ne hne] at hdx; exact hdx
  have e1 : upd (del (upd (upd (upd H1 a (exo a Cc none)) dx (exd dx [(f, v)])) a (exo a Cc (some dx))) a) dx (.xd [(f, v)]) = upd H1 dx (.xd [(f, v)]) := by
    funext b
    by_cases eb : b = dx
    · subst eb; rw [upd_same, upd_same]
    · rw [upd_ne eb, upd_ne eb]
      by_cases ea : b = a
      · subst ea; rw [del_same, ha]
      · rw [del_ne ea, upd_ne ea, upd_ne eb, upd_ne ea]
  rw [e1]
  exact hk _ G L1 F1 σ _ _ _ k1 (A1.junk h1) (.low upd_same r1)
end
end TL
namespace TL
open PySem L2 PySem.Spec PyProof.Rows
section
variable {M : Mode} {G : List (Option D)} {L : Led} {K : D → Led → Prop} {pos : Pos} {rest : List Stmt} {E : TD}
theorem RepK.zip {Kk : PySem.W.Frag} {F : Hp} : ∀ {ks : List Key} {es : List D} {ys : List V}, RepA Kk F es ys → RepK Kk F (ks.zip es) (ks.zip ys)
  | [], _, _, _ => .nil
  | _ :: _, _, _, .nil => .nil
  | k :: ks, _, _, .cons r t => .cons r (RepK.zip t)
theorem sw_par {env : Env} {x y : Str} {px py pt pt2 : Pos} {kt k2 : Nat} {a b : Expr} (hk : env.blockKind = .function) (hx : env.kindOf x = some .local) (hy : env.kindOf y = some .local) (hl : (py.line == px.line) = true) (hn : x ≠ y)
    (h1 : ([a, b].any fun | .Starred .. => true | _ => false) = false) (h2 : [a, b].all (foldedForSure 8) = false) (h3 : [a, b].all (constantsAlone 8) = false) :
    swappedStores [.Tuple [.Name x px, .Name y py] kt pt] (.Tuple [a, b] k2 pt2) env = pure (some [x, y]) := by
  have hl' : py.line = px.line := beq_iff_eq.mp hl
  have hn' : (y == x) = false := beq_eq_false_iff_ne.mpr (Ne.symm hn)
  have q1 : (Expr.Name x px).pos = px := rfl
  unfold swappedStores
  simp only [hk, List.filterMap_cons, List.filterMap_nil, hx, hy, List.head?_cons, Option.map_some, Option.getD_some, q1, hl', beq_self_eq_true, Bool.and_self, if_true, List.eraseDups_cons, List.filter_cons, List.filter_nil, hn', Bool.not_false, List.eraseDups_nil, h2, h3, List.length_cons, List.length_nil]
  rw [if_neg (by decide)]
  refine (if_neg (fun z => Bool.false_ne_true (h1.symm.trans z))).trans ?_
  rfl
/-- a, b = e, f -/
theorem run_par {x y : Str} {px py pt pt2 : Pos} {kt k2 : Nat} {a b : Expr} (hc : M.C.cm = true) (hx : M.C.sc.names.lookup x = some .local) (hy : M.C.sc.names.lookup y = some .local) (hk : M.C.sc.kind = .function) (hn : x ∈ M.C.N) (hm : y ∈ M.C.N) (hxy : x ≠ y) (hl : (py.line == px.line) = true)
    (h : Ev M G L a fun d L1 => Ev M G L1 b fun e L2 => ∃ G1 G2, Put M.C.N G x (some d) G1 ∧ Put M.C.N G1 y (some e) G2 ∧ Run M G2 L2 rest E)
    (h1 : ([a, b].any fun | .Starred .. => true | _ => false) = false := by rfl) (h2 : [a, b].all (foldedForSure 8) = false := by rfl) (h3 : [a, b].all (constantsAlone 8) = false := by rfl)
    (hs1 : ∀ X : Cx, starEach [a, b] X.env = (false, eval a X.env) :: starEach [b] X.env := by intro _; rfl) (hs2 : ∀ X : Cx, starEach [b] X.env = (false, eval b X.env) :: starEach [] X.env := by intro _; rfl)
    (hs : ∀ X : Cx, swapsWithSole [.Tuple [.Name x px, .Name y py] kt pt] (.Tuple [a, b] k2 pt2) pos.line X.env = pure false := by intro _; rfl) : Run M G L (.Assign [.Tuple [.Name x px, .Name y py] kt pt] (.Tuple [a, b] k2 pt2) pos :: rest) E := by
  intro X S F σ H A D o
  have nd : X.N.Nodup := by rw [← S.ok.eN]; exact S.ok.nd
  obtain ⟨i, hi⟩ := List.getElem?_of_mem hn
  obtain ⟨j, hj⟩ := List.getElem?_of_mem hm
  rw [S.ok.eN] at hi hj
  have lx : X.env.scope.names.lookup x = some .local := by rw [← S.ok.es]; exact hx
  have ly : X.env.scope.names.lookup y = some .local := by rw [← S.ok.es]; exact hy
  have kk : X.env.blockKind = .function := by
    unfold Env.blockKind
    rw [← S.ok.es, hk]
    rfl
  have hij : i ≠ j := fun e => hxy (by rw [e, hj] at hi; exact (Option.some.inj hi).symm)
  refine gss_cons ⟨_, ps_par (S.ok.calm hc) nd hi hj hij lx ly (pa_cons be (pa_cons be pa_nil (hs2 X)) (hs1 X)) (sw_par kk lx ly hl hxy h1 h2 h3) (hs X), ?_⟩
  refine h X S F σ H A _ fun d L1 v F1 H1 k1 A1 r1 s1 => ?_
  refine k1 X S F1 σ H1 A1 _ fun e L2 w F2 H2 k2 A2 r2 s2 => ?_
  obtain ⟨G1, G2, p1, p2, hr⟩ := k2
  obtain ⟨i', hi', rfl⟩ := p1.ix
  obtain ⟨j', hj', rfl⟩ := p2.ix
  rw [S.ok.eN] at hi' hj'
  have e1 : i' = i := nodup_ix nd hi' hi
  have e2 : j' = j := nodup_ix nd hj' hj
  subst e1 e2
  exact ⟨v, w, rfl, hr X S F2 _ H2 ((A2.set (r1.mono s2)).set r2) D o⟩
end
end TL
namespace TL
open PySem L2 PySem.Spec PyProof.Rows
/-- names of the module that stand for values -/
structure GVal (mg : Str → Option Value) (x : Str) (v : V) : Prop where
  ex : ∃ u, mg x = some u ∧ RelV v u
structure GTup (K : PySem.W.Frag) (mg : Str → Option Value) (x : Str) (vs : List V) : Prop where
  ex : ∃ p, mg x = some (.ref p) ∧ ∀ F, SqT K F p vs
section
variable {M : Mode} {G : List (Option D)} {L : Led} {K : D → Led → Prop} {pos : Pos}
theorem ev_gval {x : Str} {v : V} (B : GVal M.C.mg x v) (hg : GlC M.C x) (h : K (.v v) L) (hd : (x == ("__debug__" : Str)) = false := by decide +kernel) : Ev M G L (.Name x pos) K := by
  obtain ⟨u, hm, r⟩ := B.ex
  exact ev_glob hg hm r (fun F => .v v) h hd
theorem ev_gtup {x : Str} {vs : List V} (B : GTup M.C.K M.C.mg x vs) (hg : GlC M.C x) (h : K (.ctup (vs.map D.v)) L) (hd : (x == ("__debug__" : Str)) = false := by decide +kernel) : Ev M G L (.Name x pos) K := by
  obtain ⟨p, hm, r⟩ := B.ex
  exact ev_glob (v := .ref p) (u := .ref p) hg hm rfl (fun F => .ctup (r F) (RepA.of_flats vs)) h hd
theorem tst_bool {op : BoolOp} {es : List Expr} {KB : Bool → Led → Prop} (h : TstW M G L (.BoolOp op es pos) KB) : Tst M G L (.BoolOp op es pos) KB := tst_w h
end
theorem ix_dictR {X : Cx} (hu : X.A.units + 1 < cLine) : IxR X (fun x y H Q => ∃ a v, x = .ref a ∧ DGet H a y (some v) ∧ Q v H) := by
  intro value slice pins s σ H x y v u Q I rx ry h hs
  obtain ⟨a, w, rfl, g, q⟩ := h
  obtain rfl : v = Value.ref a := rx
  refine tail_any (ops := [Value.ref a, u]) (dict_typeIs I g) PySem.F.slot_dict_getitem.lookup (d_getItem hu I g ry fun w' s3 I3 rw' => ⟨w, H, I3, rw', q⟩) hs
theorem ix_K {M : Mode} {G : List (Option D)} {L : Led} {K : D → Led → Prop} {x : D} {kvs : List (Key × D)} {k : Key} {d : D} (hc : M.C.cm = true) (hx : IsK L x kvs) (hv : valD kvs k = some d) (h : K d L) : IxV M G L x (.v (kV k)) K := by
  intro X S F σ H v u A r1 r2 Q q
  cases r2
  obtain ⟨p, ws, rfl, h1, h2⟩ := hx.get A r1
  obtain ⟨w, e, rw'⟩ := (h2.val k).1 d hv
  exact ⟨_, ix_dictR (sit_hu S hc), p, w, rfl, .inl ⟨ws, k, h1, rfl, e.symm⟩, q d L w F H h A rw' (Same.refl _)⟩
theorem run_ret0 {M : Mode} {G : List (Option D)} {L : Led} {pos : Pos} {rest : List Stmt} {E : TD} {e : Expr} (h : Ev M G L e fun d _ => E.rt d []) : Run M G L (.Return (some e) pos :: rest) E :=
  run_ret (ev_drop (h.imp fun d L' k => ⟨[], List.nil_sublist _, k⟩))
theorem run_retN0 {M : Mode} {G : List (Option D)} {L : Led} {pos : Pos} {rest : List Stmt} {E : TD} (h : E.rt .non []) : Run M G L (.Return none pos :: rest) E := run_drop (List.nil_sublist _) (run_retN h)
theorem run_raiseD {M : Mode} {G : List (Option D)} {L : Led} {pos p p2 : Pos} {rest : List Stmt} {E : TD} {x : Str} {Cc : Addr} (B : ExcC M.C.K M.C.mg x Cc) (hc : M.C.cm = true) (hg : GlC M.C x) (h : M.T (.own Cc) G []) (hdb : (x == ("__debug__" : Str)) = false := by decide +kernel) :
    Run M G L (.Raise (some (.Call (.Name x p) [] [] p2)) none pos :: rest) E := run_drop (List.nil_sublist _) (run_raise0 B hc hg h hdb)
theorem run_raiseLD {M : Mode} {G : List (Option D)} {L : Led} {pos p p2 : Pos} {rest : List Stmt} {E : TD} {x f : Str} {e : Expr} {Cc : Addr} {j : Nat} (B : ExcL M.C.P M.C.w M.C.K M.C.mg M.C.base x Cc f j) (hc : M.C.cm = true) (hj : j + 1 ≤ M.C.k) (hg : GlC M.C x)
    (h : Ev M G L e fun d _ => M.T (.low Cc f d) G []) (hdb : (x == ("__debug__" : Str)) = false := by decide +kernel) (he : ∀ X : Cx, starEach [e] X.env = (false, eval e X.env) :: starEach [] X.env := by intro _; rfl) (hpl : ∀ X : Cx, (backTo p2 (starEach [] X.env)).any (·.1) = false := by intro _; rfl) :
    Run M G L (.Raise (some (.Call (.Name x p) [e] [] p2)) none pos :: rest) E := run_raiseL B hc hj hg (ev_drop (h.imp fun d L' k => ⟨[], List.nil_sublist _, k⟩)) hdb he hpl
theorem calls0 {M : Mode} {G : List (Option D)} {L1 : Led} {K : D → Led → Prop} {sp : Prm} {ds : List D} (h : sp ds [] (fun d L' => K d (L' ++ L1)) (fun ex L' => M.T ex G (L' ++ L1))) : Calls M G sp ds L1 K := ⟨[], L1, List.Perm.refl _, fun L' => L' ++ L1, fun _ => List.Perm.refl _, h⟩
/-- the key that a flat value is -/
def keyOf : V → Key
  | .int i => Sum.inl i
  | .str s => Sum.inr s
  | _ => Sum.inl 0
theorem keyOf_kV (k : Key) : keyOf (kV k) = k := by cases k <;> rfl
theorem valD_map (kvs : List (Key × V)) (k : Key) : valD (kvs.map fun kv => (kv.1, D.v kv.2)) k = (valV kvs k).map D.v := by
  unfold valD valV
  rw [List.find?_map, Option.map_map, Option.map_map]
  rfl
theorem andn_t {A B : Prop} (h : A) : ∃ k : Bool, D.bl (!false) = D.bl k ∧ (k = true → A) ∧ (k = false → B) := ⟨true, rfl, fun _ => h, fun e => nomatch e⟩
theorem andn_f {A B : Prop} (h : B) : ∃ k : Bool, D.bl (!true) = D.bl k ∧ (k = true → A) ∧ (k = false → B) := ⟨false, rfl, fun e => (nomatch e), fun _ => h⟩
theorem orn_t {A B : Prop} (h : B) : ∃ k : Bool, D.bl (!false) = D.bl k ∧ (k = false → A) ∧ (k = true → B) := ⟨true, rfl, fun e => (nomatch e), fun _ => h⟩
theorem orn_f {A B : Prop} (h : A) : ∃ k : Bool, D.bl (!true) = D.bl k ∧ (k = false → A) ∧ (k = true → B) := ⟨false, rfl, fun _ => h, fun e => nomatch e⟩
theorem tandn_t {A B : Prop} (h : A) : ((!false) = true → A) ∧ ((!false) = false → B) := ⟨fun _ => h, fun e => nomatch e⟩
theorem tandn_f {A B : Prop} (h : B) : ((!true) = true → A) ∧ ((!true) = false → B) := ⟨fun e => (nomatch e), fun _ => h⟩
theorem torn_t {A B : Prop} (h : B) : ((!false) = false → A) ∧ ((!false) = true → B) := ⟨fun e => (nomatch e), fun _ => h⟩
theorem torn_f {A B : Prop} (h : A) : ((!true) = false → A) ∧ ((!true) = true → B) := ⟨fun _ => h, fun e => nomatch e⟩
theorem and_t {A B : Prop} (h : A) : ∃ k : Bool, D.bl true = D.bl k ∧ (k = true → A) ∧ (k = false → B) := ⟨true, rfl, fun _ => h, fun e => nomatch e⟩
theorem and_f {A B : Prop} (h : B) : ∃ k : Bool, D.bl false = D.bl k ∧ (k = true → A) ∧ (k = false → B) := ⟨false, rfl, fun e => (nomatch e), fun _ => h⟩
theorem or_t {A B : Prop} (h : B) : ∃ k : Bool, D.bl true = D.bl k ∧ (k = false → A) ∧ (k = true → B) := ⟨true, rfl, fun e => (nomatch e), fun _ => h⟩
theorem or_f {A B : Prop} (h : A) : ∃ k : Bool, D.bl false = D.bl k ∧ (k = false → A) ∧ (k = true → B) := ⟨false, rfl, fun _ => h, fun e => nomatch e⟩
theorem tand_t {A B : Prop} (h : A) : (true = true → A) ∧ (true = false → B) := ⟨fun _ => h, fun e => nomatch e⟩
theorem tand_f {A B : Prop} (h : B) : (false = true → A) ∧ (false = false → B) := ⟨fun e => (nomatch e), fun _ => h⟩
theorem tor_t {A B : Prop} (h : B) : (true = false → A) ∧ (true = true → B) := ⟨fun e => (nomatch e), fun _ => h⟩
theorem tor_f {A B : Prop} (h : A) : (false = false → A) ∧ (false = true → B) := ⟨fun _ => h, fun e => nomatch e⟩
/-- ints, bools, texts, None -/
def scalV : V → Bool
  | .int _ => true
  | .bl _ => true
  | .str _ => true
  | .non => true
  | _ => false
theorem scal_cases {x : V} (h : scalV x = true) : (∃ i, x = .int i) ∨ (∃ b, x = .bl b) ∨ (∃ z, x = .str z) ∨ x = .non := by
  cases x with
  | int i => exact .inl ⟨i, rfl⟩
  | bl b => exact .inr (.inl ⟨b, rfl⟩)
  | str z => exact .inr (.inr (.inl ⟨z, rfl⟩))
  | non => exact .inr (.inr (.inr rfl))
  | _ => cases h
section
variable {M : Mode} {G : List (Option D)} {K : D → Led → Prop} {α : Type}
theorem take_map {β : Type} {xs : List α} {g : α → β} {i : Nat} {d : β} (h : (xs.map g)[i]? = some d) : ∃ x, xs[i]? = some x ∧ d = g x ∧ x ∈ xs ∧ i < xs.length ∧ xs.take (i + 1) = xs.take i ++ [x] := by
  rw [List.getElem?_map] at h
  cases e : xs[i]? with
  | none => rw [e] at h; cases h
  | some x =>
    rw [e] at h
    refine ⟨x, rfl, (Option.some.inj h).symm, List.mem_of_getElem? e, (List.getElem?_eq_some_iff.mp e).1, ?_⟩
    rw [List.take_succ, e]; rfl
theorem lc_map (xs : List α) (g f : α → D) (p : α → Bool) {vs : List Nat} {scope : Scope} {elt tg : Expr} {ifs : List Expr} {src : Led} {items : List D} {L1 : Led} (he : items = xs.map g) (hsz : xs.length < sizeLine) (hsrc : ∀ s ∈ src, s ∈ L1)
    (turn : ∀ F1 Dl x acc, x ∈ xs → TgtN ((M.fix F1).blk scope) (wipeG G vs) ((Dl, .lst acc) :: L1) vs tg (g x) fun G2 => TstI ((M.fix F1).blk scope) G2 ((Dl, .lst acc) :: L1) ifs fun b L2 =>
      b = p x ∧ ((Dl, OW.lst acc) :: L1).Sublist L2 ∧ (p x = true → Ev ((M.fix F1).blk scope) G2 L2 elt fun y L3 => y = f x ∧ ((Dl, OW.lst acc) :: L1).Sublist L3))
    (hk : ∀ Dl, K (.ref Dl) ((Dl, .lst ((xs.filter p).map f)) :: L1)) : LcInv M G vs scope elt tg ifs src items L1 K := by
  subst he
  refine ⟨fun i acc L' => i ≤ xs.length ∧ L' = L1 ∧ acc = ((xs.take i).filter p).map f, ⟨Nat.zero_le _, rfl, rfl⟩, fun i acc L' ⟨h1, h2, h3⟩ => ⟨by rw [h2]; exact hsrc, ?_⟩, fun F1 Dl i d acc L' hd ⟨h1, h2, h3⟩ => ?_, fun acc L' ⟨h1, h2, h3⟩ Dl => ?_⟩
  · rw [h3, List.length_map]
    exact Nat.lt_of_le_of_lt (Nat.le_trans (List.length_filter_le _ _) (by rw [List.length_take]; omega)) hsz
  · subst h2
    obtain ⟨x, hx, rfl, hm, hlt, tk⟩ := take_map hd
    intro X S F σ H v A r Q q
    refine turn F1 Dl x acc hm X S F σ H v A r Q fun G' σ' k A' w => q G' σ' ?_ A' w
    have step : ∀ {b : Bool} {L2 : Led}, (b = p x ∧ ((Dl, OW.lst acc) :: L').Sublist L2 ∧ (p x = true → Ev ((M.fix F1).blk scope) G' L2 elt fun y L3 => y = f x ∧ ((Dl, OW.lst acc) :: L').Sublist L3)) →
        ((b = true → Ev ((M.fix F1).blk scope) G' L2 elt fun y L3 => ∃ L4 : Led, ((Dl, OW.lst acc) :: L4).Sublist L3 ∧ i + 1 ≤ xs.length ∧ L4 = L' ∧ acc ++ [y] = ((xs.take (i + 1)).filter p).map f) ∧
          (b = false → ∃ L4 : Led, ((Dl, OW.lst acc) :: L4).Sublist L2 ∧ i + 1 ≤ xs.length ∧ L4 = L' ∧ acc = ((xs.take (i + 1)).filter p).map f)) := by
      rintro b L2 ⟨rfl, s2, he⟩
      refine ⟨fun hb => (he hb).imp fun y L3 ⟨ey, s3⟩ => ⟨L', s3, hlt, rfl, ?_⟩, fun hb => ⟨L', s2, hlt, rfl, ?_⟩⟩
      · rw [tk, List.filter_append, List.map_append, h3, List.filter_cons, if_pos hb, ey]
        rfl
      · rw [tk, List.filter_append, List.map_append, h3, List.filter_cons, if_neg (by rw [hb]; decide)]
        simp
    match ifs, k with
    | [], k => exact step k
    | [c], k => exact fun X S F σ H A Q q => k X S F σ H A Q fun b L2 F2 H2 kb => q b L2 F2 H2 (step kb)
  · subst h2
    rw [List.length_map, List.take_length] at h3
    rw [h3]
    exact hk Dl
/-- no ifs -/
theorem lc_all (xs : List α) (g f : α → D) {vs : List Nat} {scope : Scope} {elt tg : Expr} {src : Led} {items : List D} {L1 : Led} (he : items = xs.map g) (hsz : xs.length < sizeLine) (hsrc : ∀ s ∈ src, s ∈ L1)
    (turn : ∀ F1 Dl x acc, x ∈ xs → TgtN ((M.fix F1).blk scope) (wipeG G vs) ((Dl, .lst acc) :: L1) vs tg (g x) fun G2 => Ev ((M.fix F1).blk scope) G2 ((Dl, .lst acc) :: L1) elt fun y L3 => y = f x ∧ ((Dl, OW.lst acc) :: L1).Sublist L3)
    (hk : ∀ Dl, K (.ref Dl) ((Dl, .lst (xs.map f)) :: L1)) : LcInv M G vs scope elt tg [] src items L1 K := by
  refine lc_map xs g f (fun _ => true) he hsz hsrc (fun F1 Dl x acc hx X S F σ H v A r Q q => turn F1 Dl x acc hx X S F σ H v A r Q fun G' σ' k A' w => q G' σ' ⟨rfl, List.Sublist.refl _, fun _ => k⟩ A' w) fun Dl => ?_
  have e : xs.filter (fun _ => true) = xs := List.filter_eq_self.mpr fun _ _ => rfl
  rw [e]
  exact hk Dl
theorem all_bl (p : α → Bool) (xs : List α) : (xs.map fun x => D.bl (p x)).all isBl = true := by simp [isBl]
theorem all_boolD (p : α → Bool) (xs : List α) : (xs.map fun x => D.bl (p x)).all boolD = xs.all p := by
  rw [List.all_map]
  rfl
theorem any_boolD (p : α → Bool) (xs : List α) : (xs.map fun x => D.bl (p x)).any boolD = xs.any p := by
  rw [List.any_map]
  rfl
theorem dispE_snoc (l : List (Key × D)) (a : Key × D) : dispE (l ++ [a]) = putE (dispE l) a.1 a.2 := by
  unfold dispE
  rw [List.foldl_append]
  rfl
theorem putE_length (l : List (Key × D)) (k : Key) (d : D) : (putE l k d).length ≤ l.length + 1 := by
  unfold putE
  split
  · rw [List.length_map]; exact Nat.le_succ _
  · simp
theorem dispE_length (l : List (Key × D)) : (dispE l).length ≤ l.length := by
  have go : ∀ (l acc : List (Key × D)), (l.foldl (fun acc kv => putE acc kv.1 kv.2) acc).length ≤ acc.length + l.length := by
    intro l
    induction l with
    | nil => intro acc; exact Nat.le_refl _
    | cons a l ih =>
      intro acc
      have h1 := ih (putE acc a.1 a.2)
      have h2 := putE_length acc a.1 a.2
      simp only [List.foldl_cons, List.length_cons]
      omega
  have := go l []
  simpa [dispE] using this
theorem putE_new {l : List (Key × D)} {k : Key} {d : D} (h : k ∉ l.map (·.1)) : putE l k d = l ++ [(k, d)] := by
  unfold putE
  rw [if_neg]
  intro hh
  obtain ⟨x, hx, e⟩ := List.any_eq_true.mp hh
  exact h (List.mem_map.mpr ⟨x, hx, of_decide_eq_true e⟩)
theorem dispE_nodup : ∀ {l : List (Key × D)}, (l.map (·.1)).Nodup → dispE l = l := by
  have go : ∀ (l acc : List (Key × D)), ((acc ++ l).map (·.1)).Nodup → l.foldl (fun acc kv => putE acc kv.1 kv.2) acc = acc ++ l := by
    intro l
    induction l with
    | nil => intro acc _; simp
    | cons a l ih =>
      intro acc h
      have hk : a.1 ∉ acc.map (·.1) := fun hm => by
        rw [List.map_append] at h
        exact (List.nodup_append.mp h).2.2 _ hm _ (by simp) rfl
      rw [List.foldl_cons, putE_new hk, ih]
      · simp
      · simpa using h
  intro l h
  exact go l [] h
theorem dc_map (xs : List α) (g : α → D) (kv : α → Key × D) (p : α → Bool) {vs : List Nat} {scope : Scope} {kx vx tg : Expr} {ifs : List Expr} {src : Led} {items : List D} {L1 : Led} (he : items = xs.map g) (hsz : xs.length < sizeLine) (hsrc : ∀ s ∈ src, s ∈ L1)
    (turn : ∀ F1 Dl x acc, x ∈ xs → TgtN ((M.fix F1).blk scope) (wipeG G vs) ((Dl, .dK acc) :: L1) vs tg (g x) fun G2 => TstI ((M.fix F1).blk scope) G2 ((Dl, .dK acc) :: L1) ifs fun b L2 =>
      b = p x ∧ ((Dl, OW.dK acc) :: L1).Sublist L2 ∧ (p x = true → Ev ((M.fix F1).blk scope) G2 L2 kx fun y L3 => Ev ((M.fix F1).blk scope) G2 L3 vx fun z L4 => y = .v (kV (kv x).1) ∧ z = (kv x).2 ∧ ((Dl, OW.dK acc) :: L1).Sublist L4))
    (hk : ∀ Dl, K (.ref Dl) ((Dl, .dK (dispE ((xs.filter p).map kv))) :: L1)) : DcInv M G vs scope kx vx tg ifs src items L1 K := by
  subst he
  refine ⟨fun i acc L' => i ≤ xs.length ∧ L' = L1 ∧ acc = dispE (((xs.take i).filter p).map kv), ⟨Nat.zero_le _, rfl, rfl⟩, fun i acc L' ⟨h1, h2, h3⟩ => ⟨by rw [h2]; exact hsrc, ?_⟩, fun F1 Dl i d acc L' hd ⟨h1, h2, h3⟩ => ?_, fun acc L' ⟨h1, h2, h3⟩ Dl => ?_⟩
  · rw [h3]
    refine Nat.lt_of_le_of_lt (dispE_length _) ?_
    rw [List.length_map]
    exact Nat.lt_of_le_of_lt (Nat.le_trans (List.length_filter_le _ _) (by rw [List.length_take]; omega)) hsz
  · subst h2
    obtain ⟨x, hx, rfl, hm, hlt, tk⟩ := take_map hd
    intro X S F σ H v A r Q q
    refine turn F1 Dl x acc hm X S F σ H v A r Q fun G' σ' k A' w => q G' σ' ?_ A' w
    have step : ∀ {b : Bool} {L2 : Led}, (b = p x ∧ ((Dl, OW.dK acc) :: L').Sublist L2 ∧ (p x = true → Ev ((M.fix F1).blk scope) G' L2 kx fun y L3 => Ev ((M.fix F1).blk scope) G' L3 vx fun z L4 => y = .v (kV (kv x).1) ∧ z = (kv x).2 ∧ ((Dl, OW.dK acc) :: L').Sublist L4)) →
        ((b = true → Ev ((M.fix F1).blk scope) G' L2 kx fun y L3 => Ev ((M.fix F1).blk scope) G' L3 vx fun z L4 => ∃ (k : Key) (L5 : Led), y = .v (kV k) ∧ ((Dl, OW.dK acc) :: L5).Sublist L4 ∧ i + 1 ≤ xs.length ∧ L5 = L' ∧ putE acc k z = dispE (((xs.take (i + 1)).filter p).map kv)) ∧
          (b = false → ∃ L5 : Led, ((Dl, OW.dK acc) :: L5).Sublist L2 ∧ i + 1 ≤ xs.length ∧ L5 = L' ∧ acc = dispE (((xs.take (i + 1)).filter p).map kv))) := by
      rintro b L2 ⟨rfl, s2, he⟩
      refine ⟨fun hb => (he hb).imp fun y L3 h3' => h3'.imp fun z L4 ⟨ey, ez, s3⟩ => ⟨(kv x).1, L', ey, s3, hlt, rfl, ?_⟩, fun hb => ⟨L', s2, hlt, rfl, ?_⟩⟩
      · rw [tk, List.filter_append, List.map_append, List.filter_cons, if_pos hb, ez, h3]
        exact (dispE_snoc _ _).symm
      · rw [tk, List.filter_append, List.map_append, h3, List.filter_cons, if_neg (by rw [hb]; decide)]
        simp
    match ifs, k with
    | [], k => exact step k
    | [c], k => exact fun X S F σ H A Q q => k X S F σ H A Q fun b L2 F2 H2 kb => q b L2 F2 H2 (step kb)
  · subst h2
    rw [List.length_map, List.take_length] at h3
    rw [h3]
    exact hk Dl
end
theorem cut_from (xs : List D) (k : Nat) : cutD xs (some (k : Int)) none = xs.drop k := by
  unfold cutD
  have h1 : HT.sIx xs.length 0 (some (k : Int)) = min k xs.length := by
    unfold HT.sIx
    simp
    omega
  have h2 : HT.sIx xs.length xs.length none = xs.length := by
    unfold HT.sIx
    simp
  rw [h1, h2]
  by_cases h : k ≤ xs.length
  · rw [Nat.min_eq_left h, List.take_of_length_le (by rw [List.length_drop]; omega)]
  · rw [Nat.min_eq_right (by omega), List.drop_of_length_le (by omega), List.drop_of_length_le (by omega), List.take_nil]
theorem zipD_map {α β : Type} (xs : List α) (ys : List β) (f : α → D) (g : β → D) : zipD (xs.map f) (ys.map g) = (xs.zip ys).map fun p => .tup [f p.1, g p.2] := by
  unfold zipD
  rw [List.zip, List.zipWith_map, List.map_zipWith]
/-- a op b op' c, as a test -/
theorem tst_chain2 {M : Mode} {G : List (Option D)} {L : Led} {pos : Pos} {KB : Bool → Led → Prop} {a b c : Expr} {op op' : CmpOp} (h : Ev M G L a fun x L1 => Ev M G L1 b fun y L2 => Op2 M G L2 (compareOp op) x y fun d L3 => ∃ k : Bool, d = .bl k ∧
      (k = true → Ev M G L3 c fun z L4 => Op2 M G L4 (compareOp op') y z fun d L5 => ∃ k : Bool, d = .bl k ∧ KB k L5) ∧ (k = false → KB false L3)) (hm : lastMarks [op, op'] [b, c] = false := by with_unfolding_all rfl) : Tst M G L (.Compare a [op, op'] [b, c] pos) KB := by
  intro X S F σ H A Q q
  refine ⟨_, pt_chain bop bop be be be hm, ?_⟩
  refine h X S F σ H A _ fun x L1 v F1 H1 k1 A1 r1 s1 => ?_
  refine k1 X S F1 σ H1 A1 _ fun y L2 u F2 H2 k2 A2 r2 s2 => ?_
  refine k2 X S F2 σ H2 v u A2 (r1.mono s2) r2 _ fun d L3 w F3 H3 k3 A3 r3 s3 => ?_
  obtain ⟨k, rfl, ht, hf⟩ := k3
  cases r3
  refine ⟨k, rfl, ?_⟩
  cases k with
  | true =>
    rw [if_pos rfl]
    refine ht rfl X S F3 σ H3 A3 _ fun z L4 w4 F4 H4 k4 A4 r4 s4 => ?_
    refine k4 X S F4 σ H4 u w4 A4 (r2.mono (s3.trans s4)) r4 _ fun d L5 w5 F5 H5 k5 A5 r5 s5 => ?_
    obtain ⟨k', rfl, hk'⟩ := k5
    cases r5
    exact ⟨k', rfl, q _ L5 F5 H5 hk' A5 ((((s1.trans s2).trans s3).trans s4).trans s5)⟩
  | false =>
    rw [if_neg Bool.false_ne_true]
    exact ⟨false, rfl, q _ L3 F3 H3 (hf rfl) A3 ((s1.trans s2).trans s3)⟩
end TL
namespace TL
open PySem L2 PySem.Spec PyProof.Rows
theorem at_nat {α : Type} {xs : List α} {z : Int} {j : Nat} {v : α} (e : z = (j : Int)) (h : xs[j]? = some v) : atI xs z = some v := by
  rw [e]
  exact atI_nat h
section
variable {M : Mode} {G : List (Option D)} {L : Led}
theorem evp_n {K : Option Int → Led → Prop} (h : K none L) : EvP M G L none K := h
theorem evp_i {i : Int} {j : Nat} {pos : Pos} {K : Option Int → Led → Prop} (h : K (some i) L) : EvP M G L (some (.Constant (.int i) j pos)) K := ev_int ⟨_, rfl, h⟩
theorem evp_s {e : Expr} {K : Option Int → Led → Prop} (h : Ev M G L e fun d L1 => ∃ i, d = .int i ∧ K (some i) L1) : EvP M G L (some e) K := h
end
end TL
namespace TL
open PySem L2 PySem.Spec PyProof.Rows
section
variable {M : Mode} {G : List (Option D)} {L : Led} {pos : Pos}
/-- xs[i] = .. -/
theorem tgt_sub {o i : Expr} {d : D} {K : List (Option D) → Led → Prop} (h : Ev M G L o fun x L1 => Ev M G L1 i fun y L2 => ∃ (l : Addr) (ds : List D) (k : Int) (j : Nat) (L3 : Led), x = .ref l ∧ y = .int k ∧ ixN ds.length k = some j ∧ Chg L2 l (.lst ds) (.lst (ds.set j d)) L3 ∧ K G L3)
    (ha : ∀ (X : Cx) v, assign (.Subscript o i pos) X.env v = (do
      let ov ← holding [v] (eval o X.env)
      let iv ← holding [v, ov] (eval i X.env)
      standAt pos
      holding [v, ov, iv] (setItem ov iv v)
      release [v, ov, iv] []) := by intro _ _; rfl) : Tgt M G L (.Subscript o i pos) d K := by
  intro X S F σ H v A r Q q
  refine ⟨_, pg_sub be be set_list (ha X), ?_⟩
  refine h X S F σ H A _ fun x L1 v1 F1 H1 k1 A1 r1 s1 => ?_
  refine k1 X S F1 σ H1 A1 _ fun y L2 u F2 H2 k2 A2 r2 s2 => ?_
  obtain ⟨l, ds, k, j, L3, rfl, rfl, hj, ch, hk⟩ := k2
  cases r2
  cases r1
  obtain ⟨ow, _, _⟩ := A2.own _ ch.mem
  cases ow with
  | lst e1 e2 =>
    refine ⟨l, _, k, j, rfl, rfl, e1, by rw [← e2.length]; exact hj, ?_⟩
    exact q G L3 F2 σ _ hk (A2.chg ch (.lst upd_same (e2.set j (r.mono (s1.trans s2))))) (s1.trans s2)
end
end TL
namespace TL
open PySem L2
section
variable {M : Mode} {G : List (Option D)} {L : Led} {pos : Pos} {rest : List Stmt} {E : TD}
theorem Run.mono {ss : List Stmt} {Q Q' : List (Option D) → Led → Prop} (k : ∀ G L, Q G L → Q' G L) (h : Run M G L ss { E with nx := Q }) : Run M G L ss { E with nx := Q' } :=
  fun X S F σ H A D o => h X S F σ H A D ⟨fun G L F σ H q => o.nx G L F σ H (k G L q), o.rt, o.bk, o.ct⟩
/-- an if, with a word for where its ways meet -/
theorem run_ifQ (Q : List (Option D) → Led → Prop) {c : Expr} {a b : List Stmt} (h : Tst M G L c fun k L1 => (k = true → Run M G L1 a { E with nx := Q }) ∧ (k = false → Run M G L1 b { E with nx := Q })) (kq : ∀ G' L', Q G' L' → Run M G' L' rest E) :
    Run M G L (.If c a b pos :: rest) E := by
  refine run_if fun X S F σ H A QQ qq => ?_
  exact h X S F σ H A QQ fun k L1 F1 H1 hk A1 s1 => qq k L1 F1 H1 ⟨fun e => (hk.1 e).mono kq, fun e => (hk.2 e).mono kq⟩ A1 s1
end
end TL
namespace TL
open PySem L2 PySem.Spec PyProof.Rows
section
variable {M : Mode} {G : List (Option D)} {L : Led} {K : D → Led → Prop} {pos : Pos}
theorem ev_lstF {es : List Expr} (h : EvA M G L es fun ds L1 => ds.length ≤ sizeLine ∧ K (.lst ds) L1) : Ev M G L (.List es pos) K :=
  ev_frz (ev_lst fun X S F σ H A Q q => h X S F σ H A Q fun ds L1 vs F1 H1 ⟨h1, h2⟩ => q ds L1 vs F1 H1 ⟨h1, fun p => ⟨p, _, _, rfl, .here, h2⟩⟩)
theorem ev_dnewF (h : K (.dK []) L) : Ev M G L (.Dict [] [] pos) K := ev_frz (ev_dnew fun p => ⟨p, _, _, rfl, .here, h⟩)
/-- {k: v}, one entry -/
theorem ev_disp1 {k v : Expr} (h : ∀ p, Ev M G ((p, .dK []) :: L) k fun x L1 => Ev M G L1 v fun y L2 => ∃ (kk : Key), x = .v (kV kk) ∧ ∃ L', L2 = (p, .dK []) :: L' ∧ K (.dK [(kk, y)]) L') : Ev M G L (.Dict [some k] [v] pos) K := by
  refine ev_frz (ev_disp (fun p => ?_) (h15 := show 1 ≤ 15 by decide))
  show Ev M G _ k fun x L1 => Ev M G L1 v fun y L2 => _
  refine (h p).imp fun x L1 h1 => h1.imp fun y L2 ⟨kk, ex, L', eL, hk⟩ => ?_
  subst ex eL
  exact ⟨[(kk, y)], _, rfl, .here, (show 1 ≤ 15 by decide), p, _, _, rfl, .here, hk⟩
theorem app_len (a b : Str) : (a ++ b).length = a.length + b.length := by
  show (a ++ b).cps.size = a.cps.size + b.cps.size
  show (a.cps ++ b.cps).size = _
  rw [Array.size_append]
end
end TL
namespace TL
open PySem L2
def Len (n : Nat) (a : Str) : Prop := a.length ≤ n
theorem len_lit {a : Str} : Len a.length a := Nat.le_refl _
theorem len_app {a b : Str} {n m : Nat} (h : Len n a) (g : Len m b) : Len (n + m) (a ++ b) := by
  unfold Len at *
  rw [app_len]
  omega
theorem op_addL {M : Mode} {G : List (Option D)} {L : Led} {K : D → Led → Prop} {i j : Str} {n m : Nat} (h : Len n i) (g : Len m j) (hs : n + m ≤ sizeLine) (k : K (.str (i ++ j)) L) : Op2 M G L (binaryOp .Add) (.str i) (.str j) K :=
  op_addS (Nat.le_trans (Nat.add_le_add h g) hs) k
end TL
namespace TL
open PySem L2
end TL
namespace TL
open PySem L2 PySem.Spec
def flatPy : V → Option PyData
  | .non => some .none
  | .bl b => some (.bool b)
  | .int i => some (.int i)
  | .str z => some (.str z)
  | _ => none
mutual
inductive PyOf (L : Led) : D → PyData → Prop
  | v {x : V} {e : PyData} : flatPy x = some e → PyOf L (.v x) e
  | tup {ds : List D} {es : List PyData} : PyAll L ds es → PyOf L (.tup ds) (.tuple es)
  | lst {x : D} {ds : List D} {es : List PyData} : IsL L x ds → PyAll L ds es → PyOf L x (.list es)
inductive PyAll (L : Led) : List D → List PyData → Prop
  | nil : PyAll L [] []
  | cons {d : D} {ds : List D} {e : PyData} {es : List PyData} : PyOf L d e → PyAll L ds es → PyAll L (d :: ds) (e :: es)
end
section
variable {K : PySem.W.Frag} {H0 F0 F H : Hp} {G : List (Option D)} {L : Led} {σ : St}
mutual
theorem PyOf.dp (A : At K H0 F0 G L F σ H) : ∀ (e : PyData) (x : D) (v : V), PyOf L x e → Rep K F x v → Dp K H v e
  | .none, _, _, h, r => by
    cases h with
    | v q => cases r; rename_i x; cases x <;> first | cases q; exact .non | cases q
  | .bool b, _, _, h, r => by
    cases h with
    | v q => cases r; rename_i x; cases x <;> first | cases q; exact .bl _ | cases q
  | .int b, _, _, h, r => by
    cases h with
    | v q => cases r; rename_i x; cases x <;> first | cases q; exact .int _ | cases q
  | .str b, _, _, h, r => by
    cases h with
    | v q => cases r; rename_i x; cases x <;> first | cases q; exact .str _ | cases q
  | .list es, _, _, h, r => by
    cases h with
    | v q => rename_i x; cases x <;> cases q
    | lst i a =>
      obtain ⟨p, vs, rfl, h1, h2⟩ := i.get A r
      exact .lst (SqL.of h1) (PyOf.dpAll A es _ vs a h2)
  | .tuple es, _, _, h, r => by
    cases h with
    | v q => rename_i x; cases x <;> cases q
    | tup a =>
      obtain ⟨p, vs, rfl, h1, h2⟩ := tup_get A r
      exact .tup h1 (PyOf.dpAll A es _ vs a h2)
  | .dict es, _, _, h, r => by
    cases h with
    | v q => rename_i x; cases x <;> cases q
theorem PyOf.dpAll (A : At K H0 F0 G L F σ H) : ∀ (es : List PyData) (ds : List D) (vs : List V), PyAll L ds es → RepA K F ds vs → DpAll K H vs es
  | [], _, _, h, r => by cases h; cases r; exact .nil
  | e :: es, _, _, h, r => by
    cases h with
    | cons h1 h2 =>
      cases r with
      | cons r1 r2 => exact .cons (PyOf.dp A e _ _ h1 r1) (PyOf.dpAll A es _ _ h2 r2)
end
end
section
variable {M : Mode} {G : List (Option D)} {L : Led} {K : D → Led → Prop} {pos : Pos}
theorem sit_64 {X : Cx} (S : Sit M X) (hc : M.C.cm = true) : X.A.units + 64 < cLine := (S.ok.room hc).units
theorem op_neP (hc : M.C.cm = true) {x y : D} {d e : PyData} (hx : PyOf L x d) (hy : PyOf L y e) (sd : SeqAt.shaped d = true) (se : SeqAt.shaped e = true) (h : K (.bl (!PyData.eqv d e)) L) : Op2 M G L (compareOp .NotEq) x y K := by
  intro X S F σ H v u A rx ry Q q
  refine ⟨_, op_neD (sit_64 S hc), d, e, ?_, ?_, sd, se, q _ L _ F H h A (.v _) (Same.refl _)⟩
  · rw [← S.ok.eK]; exact PyOf.dp A d x v hx rx
  · rw [← S.ok.eK]; exact PyOf.dp A e y u hy ry
end
end TL
namespace TL
open PySem L2 PySem.Spec
end TL
namespace TL
open PySem L2 PySem.Spec
section
variable {M : Mode} {G : List (Option D)} {K : D → Led → Prop} {sp : Prm} {ds : List D} {a b c d : Addr × OW} {R : Led}
/-- one own object handed to a callee, its place kept -/
theorem calls_1 (h : sp ds [a] (fun v L' => K v (L' ++ R)) (fun ex L' => M.T ex G (L' ++ R))) : Calls M G sp ds (a :: R) K :=
  ⟨[a], R, List.Perm.refl _, fun L' => L' ++ R, fun _ => List.Perm.refl _, h⟩
theorem calls_2 (h : sp ds [b] (fun v L' => K v (a :: (L' ++ R))) (fun ex L' => M.T ex G (a :: (L' ++ R)))) : Calls M G sp ds (a :: b :: R) K :=
  ⟨[b], a :: R, .swap _ _ _, fun L' => a :: (L' ++ R), fun _ => List.perm_middle, h⟩
theorem calls_3 (h : sp ds [c] (fun v L' => K v (a :: b :: (L' ++ R))) (fun ex L' => M.T ex G (a :: b :: (L' ++ R)))) : Calls M G sp ds (a :: b :: c :: R) K :=
  ⟨[c], a :: b :: R, (List.perm_middle (l₁ := [a, b])).symm, fun L' => a :: b :: (L' ++ R), fun L' => (List.perm_middle.trans (.cons _ List.perm_middle)), h⟩
end
section
variable {M : Mode} {G : List (Option D)} {α : Type}
/-- a loop over items known as a map -/
theorem for_map (xs : List α) (g : α → D) {tg : Expr} {body : List Stmt} {E : TD} {src : Led} {items : List D} {L1 : Led} (he : items = xs.map g) (I : Nat → List (Option D) → Led → Prop) (h0 : I 0 G L1) (hs : ∀ i G' L', I i G' L' → ∀ s ∈ src, s ∈ L')
    (turn : ∀ F1 i x G' L', xs[i]? = some x → i < xs.length → I i G' L' → Tgt (M.fix F1) G' L' tg (g x) fun G2 L2 => Run (M.fix F1) G2 L2 body (E.turn (I (i + 1)) E.nx))
    (done : ∀ G' L', I xs.length G' L' → E.nx G' L') : ForInv M G tg body E src items L1 := by
  subst he
  refine ⟨I, h0, hs, fun F1 i d G' L' hd iv => ?_, fun G' L' iv => done G' L' (by rwa [List.length_map] at iv)⟩
  obtain ⟨x, hx, rfl, _, hlt, _⟩ := take_map hd
  exact turn F1 i x G' L' hx hlt iv
/-- .. the ledger's and the slots' word by the part that was walked -/
theorem for_pre (xs : List α) (g : α → D) {tg : Expr} {body : List Stmt} {E : TD} {src : Led} {items : List D} {L1 : Led} (he : items = xs.map g) (I : List α → List (Option D) → Led → Prop) (h0 : I [] G L1) (hs : ∀ p G' L', I p G' L' → ∀ s ∈ src, s ∈ L')
    (turn : ∀ F1 pre x suf G' L', xs = pre ++ x :: suf → I pre G' L' → Tgt (M.fix F1) G' L' tg (g x) fun G2 L2 => Run (M.fix F1) G2 L2 body (E.turn (I (pre ++ [x])) E.nx))
    (done : ∀ G' L', I xs G' L' → E.nx G' L') : ForInv M G tg body E src items L1 := by
  refine for_map xs g he (fun i G' L' => I (xs.take i) G' L') h0 (fun i G' L' iv => hs _ G' L' iv) (fun F1 i x G' L' hx hlt iv => ?_) fun G' L' iv => done G' L' (by rwa [List.take_length] at iv)
  have e1 : xs = xs.take i ++ x :: xs.drop (i + 1) := by
    have e2 : xs.drop i = x :: xs.drop (i + 1) := by
      rw [List.drop_eq_getElem_cons hlt, (List.getElem?_eq_some_iff.mp hx).2]
    rw [← e2, List.take_append_drop]
  have e3 : xs.take (i + 1) = xs.take i ++ [x] := by
    rw [List.take_succ, hx]
    rfl
  have t := turn F1 (xs.take i) x (xs.drop (i + 1)) G' L' e1 iv
  rw [← e3] at t
  exact t
end
section
variable {M : Mode} {G : List (Option D)} {K : D → Led → Prop} {α : Type}
theorem lc_inv (xs : List α) (g : α → D) {vs : List Nat} {scope : Scope} {elt tg : Expr} {ifs : List Expr} {src : Led} {items : List D} {L1 : Led} (he : items = xs.map g) (I : Nat → List D → Led → Prop) (h0 : I 0 [] L1)
    (hs : ∀ i acc L', I i acc L' → (∀ s ∈ src, s ∈ L') ∧ acc.length < sizeLine)
    (turn : ∀ F1 Dl i x acc L', xs[i]? = some x → i < xs.length → I i acc L' → TgtN ((M.fix F1).blk scope) (wipeG G vs) ((Dl, .lst acc) :: L') vs tg (g x) fun G2 => TstI ((M.fix F1).blk scope) G2 ((Dl, .lst acc) :: L') ifs fun b L2 =>
      (b = true → Ev ((M.fix F1).blk scope) G2 L2 elt fun y L3 => ∃ L4 : Led, ((Dl, OW.lst acc) :: L4).Sublist L3 ∧ I (i + 1) (acc ++ [y]) L4) ∧ (b = false → ∃ L4 : Led, ((Dl, OW.lst acc) :: L4).Sublist L2 ∧ I (i + 1) acc L4))
    (done : ∀ acc L', I xs.length acc L' → ∀ Dl, K (.ref Dl) ((Dl, .lst acc) :: L')) : LcInv M G vs scope elt tg ifs src items L1 K := by
  subst he
  refine ⟨I, h0, hs, fun F1 Dl i d acc L' hd iv => ?_, fun acc L' iv => done acc L' (by rwa [List.length_map] at iv)⟩
  obtain ⟨x, hx, rfl, _, hlt, _⟩ := take_map hd
  exact turn F1 Dl i x acc L' hx hlt iv
end
theorem rng0 (n : Nat) : rng 0 ((n : Nat) : Int).toNat = (List.range n).map fun i => .int ((i : Nat) : Int) := by
  unfold rng
  rw [Int.toNat_natCast]
  refine List.map_congr_left fun k _ => ?_
  rw [Int.zero_add]
section
variable {M : Mode} {G : List (Option D)} {L : Led} {K : D → Led → Prop} {pos : Pos}
theorem ev_fldN {e : Expr} {f : Str} {Cc : Addr} (n : NoAttr M.C.K Cc f) (c : Cls M.C.K Cc) (h : Ev M G L e fun x L1 => ∃ fs d, IsO L1 x Cc fs ∧ fs.lookup f = some d ∧ K d L1)
    (hb : ∀ X : Cx, attributeBase e f X.env (eval e X.env) = eval e X.env := by intro _; rfl) : Ev M G L (.Attribute e f pos) K := ev_fld c n h hb
theorem fld_of {x : D} {Cc : Addr} {f : Str} {fs : List (Str × D)} {d : D} {Q : D → Prop} (ho : IsO L x Cc fs) (hl : fs.lookup f = some d) (hk : Q d) : ∃ fs d, IsO L x Cc fs ∧ fs.lookup f = some d ∧ Q d := ⟨fs, d, ho, hl, hk⟩
theorem mth_of {x : D} {Cc : Addr} {m : Str} {fs : List (Str × D)} {Q : Prop} (ho : IsO L x Cc fs) (hl : fs.lookup m = none) (hq : Q) : ∃ fs, IsO L x Cc fs ∧ fs.lookup m = none ∧ Q := ⟨fs, ho, hl, hq⟩
end
end TL
namespace TL
open PySem L2 PySem.Spec
def pyV : V → PyData
  | .bl b => .bool b
  | .int i => .int i
  | .str z => .str z
  | _ => .none
def okV : V → Bool
  | .non => true
  | .bl _ => true
  | .int _ => true
  | .str z => PyData.canLay0 (.str z)
  | _ => false
theorem flat_ok {x : V} (h : okV x = true) : flatPy x = some (pyV x) := by
  cases x <;> first | rfl | cases h
theorem okV_can {x : V} (h : okV x = true) : (pyV x).canLay0 = true ∧ (pyV x).depth = 0 := by
  cases x <;> first | exact ⟨h, by simp [pyV, PyData.depth]⟩ | exact ⟨by simp [pyV, PyData.canLay0], by simp [pyV, PyData.depth]⟩ | cases h
theorem pyAll_flat {L : Led} : ∀ {xs : List V}, (∀ x ∈ xs, okV x = true) → PyAll L (xs.map D.v) (xs.map pyV)
  | [], _ => .nil
  | x :: xs, h => .cons (.v (flat_ok (h x List.mem_cons_self))) (pyAll_flat fun y hy => h y (List.mem_cons_of_mem _ hy))
theorem can_flat : ∀ {xs : List V}, (∀ x ∈ xs, okV x = true) → PyData.canLayAll0 (xs.map pyV) = true ∧ PyData.depthAll (xs.map pyV) = 0
  | [], _ => ⟨by simp [PyData.canLayAll0], by simp [PyData.depthAll]⟩
  | x :: xs, h => by
    obtain ⟨a, b⟩ := okV_can (h x List.mem_cons_self)
    obtain ⟨c, d⟩ := can_flat fun y hy => h y (List.mem_cons_of_mem _ hy)
    exact ⟨by simp [PyData.canLayAll0, a, c], by simp [PyData.depthAll, b, d]⟩
theorem shp_list {xs : List V} (h : ∀ x ∈ xs, okV x = true) : SeqAt.shaped (.list (xs.map pyV)) = true := by
  obtain ⟨a, b⟩ := can_flat h
  unfold SeqAt.shaped
  simp [PyData.canLay0, PyData.depth, a, b]
section
variable {M : Mode} {G : List (Option D)} {L : Led} {K : D → Led → Prop} {pos : Pos}
/-- the same flat list twice -/
theorem op_neSame (hc : M.C.cm = true) {x y : D} {xs : List V} (hx : IsL L x (xs.map D.v)) (hy : IsL L y (xs.map D.v)) (h : ∀ z ∈ xs, okV z = true) (hk : K (.bl false) L) : Op2 M G L (compareOp .NotEq) x y K := by
  refine op_neP hc (.lst hx (pyAll_flat h)) (.lst hy (pyAll_flat h)) (shp_list h) (shp_list h) ?_
  have e : PyData.eqv (.list (xs.map pyV)) (.list (xs.map pyV)) = true := SeqAt.eqv_refl _ (SeqAt.canLay_of_shaped (shp_list h))
  rw [e]
  exact hk
theorem cv_listD (hc : M.C.cm = true) {x : D} {kvs : List (Key × D)} (hx : IsK L x kvs) (h : ∀ p, K (.ref p) ((p, .lst (keysD kvs)) :: L)) : CallV M G L (.type "list") [x] K := by
  intro X S F σ H vs A r Q q
  obtain ⟨v, rfl, rv⟩ := reps1 r
  obtain ⟨p, ws, rfl, h1, h2⟩ := hx.get A rv
  refine ⟨_, call_listD (S.ok.calm hc), p, ws, rfl, h1, fun l hl => ?_⟩
  have e : ∀ {kvs : List (Key × D)} {ws : List (Key × V)}, RepK M.C.K F kvs ws → RepA M.C.K F (keysD kvs) (ws.map fun kv => kV kv.1) := by
    intro kvs
    induction kvs with
    | nil => intro ws h; cases h; exact .nil
    | cons a kvs ih =>
      intro ws h
      cases h with
      | cons h1 h2 => exact .cons (.v _) (ih h2)
  exact q _ _ _ F _ (h l) (A.new hl (.lst upd_same (e h2))) (.v _) (Same.refl _)
end
def dbOk (N : List Str) : Bool := N.all fun x => !(x == ("__debug__" : Str)) && !(x == ("__classdict__" : Str))
def visL (sc : Scope) (V : List Str) : Bool := V.all fun x => visB sc x
theorem dbOk_mem {N : List Str} {x : Str} (h : dbOk N = true) (hx : x ∈ N) : (x == ("__debug__" : Str)) = false ∧ (x == ("__classdict__" : Str)) = false := by
  have := List.all_eq_true.mp h x hx
  simp only [Bool.and_eq_true, Bool.not_eq_true'] at this
  exact this
theorem visL_mem {sc : Scope} {V : List Str} {x : Str} (h : visL sc V = true) (hx : x ∈ V) : visB sc x = true := List.all_eq_true.mp h x hx
structure BnOk (x : Str) : Prop where
  c : biNames.contains x = true
  d : (x == ("__debug__" : Str)) = false
  n : x ≠ "__name__"
theorem bn_len : BnOk "len" := ⟨by kernel_rfl, by kernel_rfl, by decide +kernel⟩
theorem bn_isinstance : BnOk "isinstance" := ⟨by kernel_rfl, by kernel_rfl, by decide +kernel⟩
theorem bn_int : BnOk "int" := ⟨by kernel_rfl, by kernel_rfl, by decide +kernel⟩
theorem bn_str : BnOk "str" := ⟨by kernel_rfl, by kernel_rfl, by decide +kernel⟩
theorem bn_all : BnOk "all" := ⟨by kernel_rfl, by kernel_rfl, by decide +kernel⟩
theorem bn_any : BnOk "any" := ⟨by kernel_rfl, by kernel_rfl, by decide +kernel⟩
theorem bn_min : BnOk "min" := ⟨by kernel_rfl, by kernel_rfl, by decide +kernel⟩
theorem bn_max : BnOk "max" := ⟨by kernel_rfl, by kernel_rfl, by decide +kernel⟩
theorem bn_tuple : BnOk "tuple" := ⟨by kernel_rfl, by kernel_rfl, by decide +kernel⟩
theorem bn_list : BnOk "list" := ⟨by kernel_rfl, by kernel_rfl, by decide +kernel⟩
theorem bn_dict : BnOk "dict" := ⟨by kernel_rfl, by kernel_rfl, by decide +kernel⟩
theorem bn_sum : BnOk "sum" := ⟨by kernel_rfl, by kernel_rfl, by decide +kernel⟩
theorem bn_sorted : BnOk "sorted" := ⟨by kernel_rfl, by kernel_rfl, by decide +kernel⟩
theorem bn_bool : BnOk "bool" := ⟨by kernel_rfl, by kernel_rfl, by decide +kernel⟩
section
variable {M : Mode} {G : List (Option D)} {L : Led} {K : D → Led → Prop} {pos : Pos}
theorem ev_nameV {x : Str} {d : D} (hl : Look M.C.N G x (some d)) (hd : dbOk M.C.N = true) (hv : visB M.C.sc x = true) (h : K d L) : Ev M G L (.Name x pos) K := by
  obtain ⟨i, h1, _⟩ := hl.ix
  obtain ⟨b, c⟩ := dbOk_mem hd (List.mem_of_getElem? h1)
  exact ev_name hl (vis_of hv) h b c
theorem ev_bltN {x : Str} {id : String} {p : Pos} {e : Expr} {es : List Expr} (b : BnOk x) (hg : GlC M.C x) (B : Bi M.C.mg) (hv : bootBuiltins x = some (.builtin id)) (h : EvA M G L (e :: es) fun ds L1 => CallV M G L1 (.builtin id) ds K)
    (he : ∀ X : Cx, starEach (e :: es) X.env = (false, eval e X.env) :: starEach es X.env := by intro _; rfl) (hpl : ∀ X : Cx, (backTo pos (starEach es X.env)).any (·.1) = false := by intro _; rfl) :
    Ev M G L (.Call (.Name x p) (e :: es) [] pos) K := ev_blt hg (Bi.h B b.c) hv h b.n b.d he hpl
theorem ev_bltyN {x : Str} {id : String} {p : Pos} {e : Expr} {es : List Expr} (b : BnOk x) (hg : GlC M.C x) (B : Bi M.C.mg) (hv : bootBuiltins x = some (.type id)) (h : EvA M G L (e :: es) fun ds L1 => CallV M G L1 (.type id) ds K)
    (he : ∀ X : Cx, starEach (e :: es) X.env = (false, eval e X.env) :: starEach es X.env := by intro _; rfl) (hpl : ∀ X : Cx, (backTo pos (starEach es X.env)).any (·.1) = false := by intro _; rfl) :
    Ev M G L (.Call (.Name x p) (e :: es) [] pos) K := ev_blty hg (Bi.h B b.c) hv h b.n b.d he hpl
theorem ev_tynN {x : Str} {id : String} (b : BnOk x) (hg : GlC M.C x) (B : Bi M.C.mg) (hv : bootBuiltins x = some (.type id)) (h : K (.v (.ty id)) L) : Ev M G L (.Name x pos) K := ev_tyn hg (Bi.h B b.c) hv h b.n b.d
end
end TL
namespace TL
open PySem L2 PySem.Spec
def pos0 : Pos := ⟨0, 0, 0, 0⟩
def pC : Stmt → Expr
  | .If t _ _ _ => t
  | .While t _ _ _ => t
  | _ => .Constant .none 0 pos0
def pA : Stmt → List Stmt
  | .If _ a _ _ => a
  | .For _ _ b _ _ => b
  | .While _ b _ _ => b
  | .Try b _ _ _ _ => b
  | _ => []
def pB : Stmt → List Stmt
  | .If _ _ b _ => b
  | _ => []
def pT : Stmt → Expr
  | .For t _ _ _ _ => t
  | _ => .Constant .none 0 pos0
def pI : Stmt → Expr
  | .For _ i _ _ _ => i
  | _ => .Constant .none 0 pos0
def pH : Stmt → List ExceptHandler
  | .Try _ h _ _ _ => h
  | _ => []
def pP : Stmt → Pos
  | .If _ _ _ p => p
  | .For _ _ _ _ p => p
  | .While _ _ _ p => p
  | .Try _ _ _ _ p => p
  | _ => pos0
def pL (l : List Stmt) (i : Nat) : Stmt := l.getD i (.Pass pos0)
theorem run_withB {M : Mode} {G : List (Option D)} {L : Led} {st : Stmt} {q : List Stmt} {E : TD} {V : List Str} (h1 : dbOk M.C.N = true) (h2 : visL M.C.sc V = true) (hb : defBody st = q) (h : dbOk M.C.N = true → visL M.C.sc V = true → Run M G L q E) : Run M G L (defBody st) E := by
  rw [hb]
  exact h h1 h2
section
variable {M : Mode} {G : List (Option D)} {L : Led} {K : D → Led → Prop} {pos : Pos}
abbrev Star1 (e : Expr) (es : List Expr) : Prop := ∀ X : Cx, starEach (e :: es) X.env = (false, eval e X.env) :: starEach es X.env
abbrev Star2 (pos : Pos) (es : List Expr) : Prop := ∀ X : Cx, (backTo pos (starEach es X.env)).any (·.1) = false
theorem ev_bltA {x : Str} {id : String} {p : Pos} {e : Expr} {es : List Expr} (b : BnOk x) (hg : GlC M.C x) (B : Bi M.C.mg) (hv : bootBuiltins x = some (.builtin id)) (he : Star1 e es) (hpl : Star2 pos es) (h : EvA M G L (e :: es) fun ds L1 => CallV M G L1 (.builtin id) ds K) :
    Ev M G L (.Call (.Name x p) (e :: es) [] pos) K := ev_bltN b hg B hv h he hpl
theorem ev_bltyA {x : Str} {id : String} {p : Pos} {e : Expr} {es : List Expr} (b : BnOk x) (hg : GlC M.C x) (B : Bi M.C.mg) (hv : bootBuiltins x = some (.type id)) (he : Star1 e es) (hpl : Star2 pos es) (h : EvA M G L (e :: es) fun ds L1 => CallV M G L1 (.type id) ds K) :
    Ev M G L (.Call (.Name x p) (e :: es) [] pos) K := ev_bltyN b hg B hv h he hpl
theorem ev_callA {x : Str} {p : Pos} {e : Expr} {es : List Expr} {ps : List Str} {sp : Prm} {j : Nat} (B : Glob M.C.P M.C.w M.C.K M.C.mg M.C.base x ps sp j) (hc : M.C.cm = true) (hj : Nat.ble j M.C.k = true) (hg : GlC M.C x) (hdb : (x == ("__debug__" : Str)) = false) (he : Star1 e es) (hpl : Star2 pos es)
    (h : EvA M G L (e :: es) fun ds L1 => Calls M G sp ds L1 K) : Ev M G L (.Call (.Name x p) (e :: es) [] pos) K := ev_call B hc (Nat.le_of_ble_eq_true hj) hg h hdb he hpl
theorem ev_makeA {x : Str} {p : Pos} {e : Expr} {es : List Expr} {ps : List Str} {sp : Prm} {j : Nat} {Cc : Addr} (B : Cla M.C.P M.C.w M.C.K M.C.mg M.C.base x Cc ps sp j) (hc : M.C.cm = true) (hj : Nat.ble (j + 1) M.C.k = true) (hg : GlC M.C x) (hdb : (x == ("__debug__" : Str)) = false) (he : Star1 e es) (hpl : Star2 pos es)
    (h : EvA M G L (e :: es) fun ds L1 => ∀ l, Calls M G sp (.ref l :: ds) ((l, .ins Cc []) :: L1) fun d L' => d = .non ∧ K (.ref l) L') : Ev M G L (.Call (.Name x p) (e :: es) [] pos) K := ev_make B hc (Nat.le_of_ble_eq_true hj) hg h hdb he hpl
theorem ev_methA {Cc : Addr} {m : Str} {apos : Pos} {o e : Expr} {es : List Expr} {ps : List Str} {sp : Prm} {j : Nat} (B : Mth M.C.P M.C.w M.C.K M.C.mg M.C.base Cc m ps sp j) (c : Cls M.C.K Cc) (hc : M.C.cm = true) (hj : Nat.ble j M.C.k = true) (h1 : Star1 e es) (h2 : Star2 pos es)
    (ht : ∀ X : Cx, eval (.Call (.Attribute o m apos) (e :: es) [] pos) X.env = (eval o X.env >>= fun ov => standAt apos.atName >>= fun _ => holding [ov] (getMethod ov m (plOf o X)) >>= fun (f, first) => callWith pos f first (backTo pos (starEach (e :: es) X.env)) (backToKw pos (keywordEach [] X.env))))
    (h : Ev M G L o fun x L1 => ∃ fs, IsO L1 x Cc fs ∧ fs.lookup m = none ∧ EvA M G L1 (e :: es) fun ds L2 => Calls M G sp (x :: ds) L2 K) : Ev M G L (.Call (.Attribute o m apos) (e :: es) [] pos) K := ev_meth B c hc (Nat.le_of_ble_eq_true hj) h h1 h2 ht
theorem ev_meth0A {Cc : Addr} {m : Str} {apos : Pos} {o : Expr} {ps : List Str} {sp : Prm} {j : Nat} (B : Mth M.C.P M.C.w M.C.K M.C.mg M.C.base Cc m ps sp j) (c : Cls M.C.K Cc) (hc : M.C.cm = true) (hj : Nat.ble j M.C.k = true)
    (ht : ∀ X : Cx, eval (.Call (.Attribute o m apos) [] [] pos) X.env = (eval o X.env >>= fun ov => standAt apos.atName >>= fun _ => holding [ov] (getMethod ov m (plOf o X)) >>= fun (f, first) => callWith pos f first (backTo pos (starEach [] X.env)) (backToKw pos (keywordEach [] X.env))))
    (h : Ev M G L o fun x L1 => ∃ fs, IsO L1 x Cc fs ∧ fs.lookup m = none ∧ Calls M G sp [x] L1 K) : Ev M G L (.Call (.Attribute o m apos) [] [] pos) K := ev_meth0 B c hc (Nat.le_of_ble_eq_true hj) h ht
theorem ev_fldA {e : Expr} {f : Str} {Cc : Addr} (n : NoAttr M.C.K Cc f) (c : Cls M.C.K Cc) (hb : ∀ X : Cx, attributeBase e f X.env (eval e X.env) = eval e X.env) (h : Ev M G L e fun x L1 => ∃ fs d, IsO L1 x Cc fs ∧ fs.lookup f = some d ∧ K d L1) :
    Ev M G L (.Attribute e f pos) K := ev_fldN n c h hb
theorem ev_gvalA {x : Str} {v : V} (B : GVal M.C.mg x v) (hg : GlC M.C x) (hd : (x == ("__debug__" : Str)) = false) (h : K (.v v) L) : Ev M G L (.Name x pos) K := ev_gval B hg h hd
theorem ev_gtupA {x : Str} {vs : List V} (B : GTup M.C.K M.C.mg x vs) (hg : GlC M.C x) (hd : (x == ("__debug__" : Str)) = false) (h : K (.ctup (vs.map D.v)) L) : Ev M G L (.Name x pos) K := ev_gtup B hg h hd
end
end TL
namespace TL
open PySem L2 PySem.Spec
section
variable {M : Mode} {G : List (Option D)} {L : Led} {K : D → Led → Prop} {pos : Pos}
theorem dinN_R {X : Cx} : OpR X (compareOp .In) (fun y x H Q => y = .non ∧ ∃ a kvs, x = .ref a ∧ Rd H a (.dK kvs) ∧ Q (.bl false) H) := by
  intro pins s σ H x y v u Q I rx ry h
  obtain ⟨rfl, a, kvs, rfl, g, q⟩ := h
  cases ry
  cases rx
  exact d_inNone I g fun s2 I2 => ⟨.bl _, H, I2, rfl, q⟩
/-- None in a dict -/
theorem op_inKn {y : D} {kvs : List (Key × D)} (hy : IsK L y kvs) (h : K (.bl false) L) : Op2 M G L (compareOp .In) .non y K := by
  intro X S F σ H v u a rx ry Q q
  cases rx
  obtain ⟨p, ws, rfl, h1, h2⟩ := hy.get a ry
  exact ⟨_, dinN_R, rfl, p, ws, rfl, h1, q _ L _ F H h a (.v _) (Same.refl _)⟩
theorem RepK.keys {Kk : PySem.W.Frag} {F : Hp} : ∀ {kvs : List (Key × D)} {ws : List (Key × V)}, RepK Kk F kvs ws → kvs.map (·.1) = ws.map (·.1)
  | _, _, .nil => rfl
  | _, _, .cons r t => by
    rw [List.map_cons, List.map_cons, RepK.keys t]
/-- sorted(a dict with whole numbers for keys) -/
theorem cv_sortedDI (hc : M.C.cm = true) {x : D} {kvs : List (Key × D)} {ks : List Int} (hx : IsK L x kvs) (hk : kvs.map (·.1) = ks.map Sum.inl) (hl : ks.length < 64)
    (h : ∀ (ys : List Int) (p : Addr), ys.Perm ks → ys.Pairwise (· ≤ ·) → K (.ref p) ((p, .lst (ys.map D.int)) :: L)) : CallV M G L (.builtin "sorted") [x] K := by
  intro X S F σ H vs A r Q q
  obtain ⟨v, rfl, rv⟩ := reps1 r
  obtain ⟨p, ws, rfl, h1, h2⟩ := hx.get A rv
  refine ⟨_, call_sortedDI (S.ok.calm hc), p, ws, ks, rfl, h1, by rw [← h2.keys]; exact hk, hl, fun ys l hp hs hl2 => ?_⟩
  have e : ys.map D.int = (ys.map V.int).map D.v := by rw [List.map_map]; rfl
  refine q _ _ _ F _ (h ys l hp hs) (A.new hl2 (.lst upd_same ?_)) (.v _) (Same.refl _)
  rw [e]
  exact RepA.of_flats _
/-- sorted(a list of whole numbers) -/
theorem cv_sortedL {x : D} {ns : List Int} (hx : IsL L x (ns.map D.int))
    (h : ∀ (ys : List Int) (p : Addr), ys.Perm ns → ys.Pairwise (· ≤ ·) → K (.ref p) ((p, .lst (ys.map D.int)) :: L)) : CallV M G L (.builtin "sorted") [x] K := by
  intro X S F σ H vs A r Q q
  obtain ⟨v, rfl, rv⟩ := reps1 r
  obtain ⟨p, ws, rfl, h1, h2⟩ := hx.get A rv
  have e : ∀ zs : List Int, zs.map D.int = (zs.map V.int).map D.v := fun zs => by rw [List.map_map]; rfl
  have e2 : ws = ns.map V.int := by
    rw [e] at h2
    exact h2.flats
  subst e2
  refine ⟨_, cr_sortedI, p, ns, rfl, SqL.of h1, fun ys l hp hs hl2 => ?_⟩
  refine q _ _ _ F _ (h ys l hp hs) (A.new hl2 (.lst upd_same ?_)) (.v _) (Same.refl _)
  rw [e]
  exact RepA.of_flats _
end
section
variable {M : Mode} {G : List (Option D)} {L : Led} {K : D → Led → Prop} {pos : Pos}
/-- {k: v}, one entry, an own dict -/
theorem ev_dnew1 {k v : Expr} (h : ∀ p, Ev M G ((p, .dK []) :: L) k fun x L1 => Ev M G L1 v fun y L2 => ∃ (kk : Key), x = .v (kV kk) ∧ ∃ L', L2 = (p, .dK []) :: L' ∧ K (.ref p) ((p, .dK [(kk, y)]) :: L')) : Ev M G L (.Dict [some k] [v] pos) K := by
  refine ev_disp (fun p => ?_) (h15 := show 1 ≤ 15 by decide)
  show Ev M G _ k fun x L1 => Ev M G L1 v fun y L2 => _
  refine (h p).imp fun x L1 h1 => h1.imp fun y L2 ⟨kk, ex, L', eL, hk⟩ => ?_
  subst ex eL
  exact ⟨[(kk, y)], _, rfl, .here, (show 1 ≤ 15 by decide), hk⟩
end
end TL
namespace TL
open PySem L2 PySem.Spec
theorem sw_cellD {kx vx : Expr} {gs : List Comprehension} {scope : Scope} {pos py : Pos} {y : Str} {l : Nat} {env : Env} (hy : env.scope.names.lookup y = some .cell) : swapsWith (.DictComp kx vx gs scope pos) (some (.Name y py)) l env = pure false := by
  have k1 : env.kindOf y = some .cell := hy
  unfold swapsWith
  simp only [k1]
  show pure (env.blockKind == .function && false && _ && _) = _
  rw [Bool.and_false]
  rfl
section
variable {M : Mode} {G : List (Option D)} {L : Led} {pos : Pos} {rest : List Stmt} {E : TD}
/-- x = e, the name a cell of the def (a comprehension within reads it) -/
theorem run_setC {x : Str} {p : Pos} {e : Expr} (hx : M.C.sc.names.lookup x = some .cell) (hd : M.C.df x = true) (hn : x ∈ M.C.N) (h : Ev M G L e fun d L1 => ∃ G', Put M.C.N G x (some d) G' ∧ Run M G' L1 rest E)
    (hs : ∀ env : Env, env.scope.names.lookup x = some .cell → swapsWith e (some (.Name x p)) pos.line env = pure false) :
    Run M G L (.Assign [.Name x p] e pos :: rest) E := by
  intro X S F σ H A D o
  obtain ⟨hl, hf⟩ := (Loc'.loc (M := M) (.inr ⟨hx, hd⟩) S)
  obtain ⟨i, hi⟩ := List.getElem?_of_mem hn
  have nd : X.N.Nodup := by rw [← S.ok.eN]; exact S.ok.nd
  rw [S.ok.eN] at hi
  refine gss_cons ⟨_, ps_set (i := i) nd hi hl be (hs X.env (by rw [← S.ok.es]; exact hx)) hf, ?_⟩
  refine h X S F σ H A _ fun d L1 v F1 H1 k1 A1 r1 s1 => ?_
  obtain ⟨G', hp, hr⟩ := k1
  obtain ⟨j, hj, rfl⟩ := hp.ix
  rw [S.ok.eN] at hj
  have e : j = i := nodup_ix nd hj hi
  subst e
  exact hr X S F1 _ H1 (A1.set r1) D o
end
end TL
namespace TL
open PySem L2 PySem.Spec
end TL
namespace TL
open PySem L2 PySem.Spec
def kD (k : List Key) : List D := k.map fun x => D.v (kV x)
theorem kD_vals {K : PySem.W.Frag} {F : Hp} {k : List Key} {vs : List V} (r : RepA K F (kD k) vs) : vs = k.map kV := by
  have e : kD k = (k.map kV).map D.v := by
    unfold kD
    rw [List.map_map]
    rfl
  rw [e] at r
  exact r.flats
section
variable {M : Mode} {G : List (Option D)} {L : Led} {K : D → Led → Prop} {pos : Pos}
theorem keyT {Kk : PySem.W.Frag} {H0 F0 F H : Hp} {σ : St} {k : List Key} {u : V} (A : At Kk H0 F0 G L F σ H) (r : Rep Kk F (.tup (kD k)) u) : ∃ b, u = .ref b ∧ H b = some (.tup (k.map kV)) := by
  obtain ⟨b, vs, rfl, h1, h2⟩ := tup_at A r
  rw [kD_vals h2] at h1
  exact ⟨b, rfl, h1⟩
end
end TL
namespace TL
open PySem L2 PySem.Spec
end TL
namespace TL
open PySem L2 PySem.Spec PySem.W PyProof.Rows
end TL
namespace TL
open PySem L2 PySem.Spec
open PyProof.Rows hiding St
/-- d[k] = v, d a dict of either kind, as a comprehension puts it -/
theorem set_put {X : Cx} {pins : List (Addr × Obj)} {σ : St} {H : Hp} {s : Shared} {E : Value → Shared → Prop} {D : Addr} {kvs : List (List Key × V)} {k : List Key} {b : Addr} {v : V} {r : Value} {Q : Unit → Shared → Prop} (hu : X.A.units < cLine) (I : Inv X pins σ H s) (hD : H D = some (.dT kvs))
    (hz : kvs.length < sizeLine) (hb : H b = some (.tup (k.map kV))) (rv : RelV v r) (h : ∀ s', Inv X pins σ (upd H D (.dT (putK kvs k v))) s' → Q () s') : wpAny (model X.prog X.w) X.A (dictSet D (.ref b) r) Q E s := by
  obtain ⟨z, nd, xs, rel, dd⟩ := dt_of I.hok hD
  have lx := Paired.length rel
  have lk := length_putK kvs k v
  refine wpAny_dictSet_heap (hsz := by omega) hu (key_of I.hok hb) dd fun h1 ⟨ob, es, ep, e1, e2, e3, e4, _, e5⟩ hs => h _ ?_
  refine d_write I (by rw [hD]; trivial) hs ⟨ob, e1⟩ ⟨by omega, nd, _, (rel.put k hb rv).keeps fun c ys ec => ?_, ob, es, ep, e1, e2, e3, e4, e5⟩
  have : c ≠ D := fun q => by rw [q, hD] at ec; cases ec
  rw [upd_ne this]
  exact ec
section
variable {X : Cx}
abbrev BlX (X : Cx) (scope : Scope) (s : Shared) (H : Hp) (C : Addr) (cl : List (Str × Addr)) (fp : List Addr) : Cx := X.blk s H scope (compEnvC scope cl C X.env) fp
structure DParts (X : Cx) (scope : Scope) (tg : Expr) (ifs : List Expr) (kx vx : Expr) (g : TG) (tt : TT) (tk tv : TE) : Prop where
  g : ∀ s H C cl fp, PG (BlX X scope s H C cl fp) tg g
  t : ∀ s H C cl fp, PTs (BlX X scope s H C cl fp) ifs tt
  k : ∀ s H C cl fp, PE (BlX X scope s H C cl fp) kx tk
  v : ∀ s H C cl fp, PE (BlX X scope s H C cl fp) vx tv
def tDct (wi : TI) (g : TG) (tt : TT) (tk tv : TE) (vs : List Nat) : TE := fun σ H Q => wi σ H fun J H1 => ∀ D, H1 D = none → ∃ (W : Nat → Nat → Hp → Prop) (m0 : Nat), W 0 m0 (upd H1 D (.dT [])) ∧ ∀ i m H, W i m H →
  (J.stop i H ∧ Q (.ref D) H) ∨ (J.go i H ∧ ∃ Nx : Hp → Prop, (∀ H', Nx H' → ∃ m', m' < m ∧ W (i + 1) m' H') ∧ ∀ x H', J.yld i H x H' → g x (wipe σ vs) H' fun σ2 H2 => wipe σ2 vs = wipe σ vs ∧ tt σ2 H2 fun b H3 =>
    if b = true then tk σ2 H3 fun y H4 => tv σ2 H4 fun z H5 => ∃ kvs k c, y = .ref c ∧ H5 c = some (.tup (k.map kV)) ∧ H5 D = some (.dT kvs) ∧ kvs.length < sizeLine ∧ Nx (upd H5 D (.dT (putK kvs k z))) else Nx H3)
/-- the block itself, its frame and the new dict laid -/
theorem dct_loop {s3 s4 : Shared} {σ : St} {H3 : Hp} {kx vx tg iter : Expr} {ifs : List Expr} {scope : Scope} {own : List (Str × Nat)} {pos : Pos} {g : TG} {tt : TT} {tk tv : TE} {it D : Addr} {ce : Env} {cl : List (Str × Addr)} {C : Addr} {fp : List Addr} {R : Result → Shared → Prop} {J : It} {tn : Nat → Heap → Prop} {Qd : Hp → Prop}
    (hc : X.calm = true) (hu : X.A.units < cLine) (ps : DParts X scope tg ifs kx vx g tt tk tv) (T : Turn X.prog X.w X.K tg J fp it tn) (hce : compEnvC scope cl C X.env = ce) (W : Nat → Nat → Hp → Prop) (m0 : Nat)
    (I : Inv (X.blk s3 H3 scope ce fp) [] (wipe σ (own.map (·.2))) H3 s4) (st : tn 0 s4.heap) (nfp : ∀ b ∈ fp, H3 b = none) (w0 : W 0 m0 H3)
    (turn : ∀ i m H, W i m H → (J.stop i H ∧ Qd H) ∨ (J.go i H ∧ ∃ Nx : Hp → Prop, (∀ H', Nx H' → ∃ m', m' < m ∧ W (i + 1) m' H') ∧ ∀ x H', J.yld i H x H' → g x (wipe σ (own.map (·.2))) H' fun σ2 H2 => wipe σ2 (own.map (·.2)) = wipe σ (own.map (·.2)) ∧ tt σ2 H2 fun b H3 =>
      if b = true then tk σ2 H3 fun y H4 => tv σ2 H4 fun z H5 => ∃ kvs k c, y = .ref c ∧ H5 c = some (.tup (k.map kV)) ∧ H5 D = some (.dT kvs) ∧ kvs.length < sizeLine ∧ Nx (upd H5 D (.dT (putK kvs k z))) else Nx H3))
    (out : ∀ s' H', Inv (X.blk s3 H3 scope ce fp) [] (wipe σ (own.map (·.2))) H' s' → Qd H' → R (.ok .next) s') :
    codeAny (model X.prog X.w) X.A (.compLoop (.DictComp kx vx [⟨tg, iter, ifs, 0⟩] scope pos) 0 (.ref it) (.ref D) ce) R s4 := by
  subst hce
  have still : ∀ {σ' : St} {H' : Hp} {s' : Shared}, Inv (BlX X scope s3 H3 C cl fp) [] σ' H' s' → (∀ b ∈ fp, H' b = none) → ∀ b ∈ fp, FpOk (BlX X scope s3 H3 C cl fp) [] H' b := by
    intro σ' H' s' I' hn b hb
    obtain ⟨e1, e2⟩ := I'.ok.exf b hb
    exact ⟨hn b hb, e1, I'.ok.exfs b hb, .inl hb, e2, fun p hp => (nomatch hp)⟩
  refine compLoop_anyD (fun n s' => ∃ i H', W i n H' ∧ Inv (BlX X scope s3 H3 C cl fp) [] (wipe σ (own.map (·.2))) H' s' ∧ tn i s'.heap ∧ ∀ b ∈ fp, H' b = none) ?_ m0 ⟨0, H3, w0, I, st, nfp⟩
  rintro n s5 ⟨i, H5, w5, I5, t5, n5⟩
  rcases turn i n H5 w5 with ⟨stop, qd⟩ | ⟨go, Nx, hNx, step⟩
  · refine thnF (T.done (BlX X scope s3 H3 C cl fp) rfl rfl rfl hc i [] s5 _ H5 (fun _ _ => False) I5 (still I5 n5) t5 stop) ?_
    rintro r s6 ⟨rfl, I6⟩
    exact out s6 H5 I6 qd
  · refine thnF (T.item (BlX X scope s3 H3 C cl fp) rfl rfl rfl hc i [] s5 _ H5 (fun _ _ => False) I5 (still I5 n5) t5 go) ?_
    rintro r s6 ⟨u, rfl, h6⟩
    refine thnF h6 ?_
    rintro _ s7 ⟨x, H7, I7, r7, y7, t7, n7⟩
    refine thnF ((ps.g s3 H3 C cl fp).run _ s7 _ H7 x u _ (I7.pinned (still I7 n7) (T.obj _ _ t7)) r7 (step x H7 y7)) ?_
    rintro _ s8 ⟨σ8, H8, I8, w8, q8⟩
    refine thnF ((ps.t s3 H3 C cl fp).run _ s8 σ8 H8 _ I8 q8) ?_
    rintro b s9 ⟨H9, I9, q9⟩
    have nxt : ∀ {s' : Shared} {H' : Hp}, Nx H' → Inv (BlX X scope s3 H3 C cl fp) ([] ++ pinsAt fp s7.heap) σ8 H' s' → ∃ m, m < n ∧ ∃ i H', W i m H' ∧ Inv (BlX X scope s3 H3 C cl fp) [] (wipe σ (own.map (·.2))) H' s' ∧ tn i s'.heap ∧ ∀ b ∈ fp, H' b = none := by
      intro s' H' nx I'
      obtain ⟨m', hm, w'⟩ := hNx H' nx
      have hold : ∀ b ∈ fp, ∀ o, s7.heap.get? b = some o → s'.heap.get? b = some o ∧ H' b = none := by
        intro b hb o e
        obtain ⟨z1, z2, _⟩ := I'.pin (b, o) (List.mem_append_right _ (List.mem_append_right _ (mem_pinsAt hb e)))
        exact ⟨z1, z2⟩
      refine ⟨m', hm, i + 1, H', w', ?_, T.keep _ _ _ t7 fun b hb o e => (hold b hb o e).1, ?_⟩
      · refine (I'.unpinned (pins := [])).weak (by rw [← w8, wipe_length]) ?_
        intro j v e
        rw [← w8] at e
        exact (wipe_some e).1
      · intro b hb
        obtain ⟨o, e, _⟩ := T.obj _ _ t7 b hb
        exact (hold b hb o e).2
    by_cases hb : b = true
    · rw [if_pos hb] at q9 ⊢
      refine thnF ((ps.k s3 H3 C cl fp).run _ s9 σ8 H9 _ I9 q9) ?_
      rintro zk s10 ⟨yk, HA, IA, rA, qA⟩
      refine thnF ((ps.v s3 H3 C cl fp).run _ s10 σ8 HA _ IA qA) ?_
      rintro zv s11 ⟨yv, HB, IB, rB, kvs, k, c, rfl, hk, hD, hz, nx⟩
      cases rA
      exact set_put (X := BlX X scope s3 H3 C cl fp) hu IB hD hz hk rB fun s12 IC => nxt nx IC
    · rw [if_neg hb] at q9 ⊢
      exact nxt q9 I9
theorem dct_core {pins : List (Addr × Obj)} {s : Shared} {σ : St} {H : Hp} {Q : VK} {kx vx tg iter : Expr} {ifs : List Expr} {scope : Scope} {own : List (Str × Nat)} {pos pos2 : Pos} {wi : TI} {g : TG} {tt : TT} {tk tv : TE} {use : Option (Value → Sem Unit)} {Qf : Value → Shared → Prop} (hc : X.calm = true) (hu : X.A.units < cLine) (nd : X.N.Nodup) (I : Inv X pins σ H s) (hi : PI X tg iter wi) (ok : BlkOk X.N X.env.scope scope own) (ps : DParts X scope tg ifs kx vx g tt tk tv)
    (hs : ∀ x, foldedSetIterable iter X.env x = pure x) (h : tDct wi g tt tk tv (own.map (·.2)) σ H Q)
    (last : ∀ D C s' m H', Inv X pins σ H' s' → Q (.ref D) H' → s'.heap.Ns C m → FpOk X pins H' C → compPost (model X.prog X.w) X.A X.xe use Qf (.ref D) C (.ok .next) s') :
    wpAny (model X.prog X.w) X.A (comprehension (.DictComp kx vx [⟨tg, iter, ifs, 0⟩] scope pos) scope X.env pos2 newDict false (eval iter X.env) use) Qf X.xe s := by
  have cells : ∀ y ∈ scope.names, y.2 = .free → ∃ c, X.env.cells.lookup y.1 = some c := by
    intro y hy e
    refine I.ok.has _ ?_
    exact ok.free y hy e
  refine wpAny_comprehension_free (use := use) rfl hs (closure_ok cells) ok.kind (fun y hy e => e ▸ ok.uniq y hy) (thn (hi.run pins s σ H _ I h) ?_)
  intro xv s1 hx
  refine thn hx ?_
  rintro _ s2 ⟨it, fp, tn, J, H2, rfl, I2, T, t2, f2, q⟩
  refine wpAny_newObj_type (newEnv_comp ?_)
  have fresh : H2 s2.heap.objs.size = none := I2.hok.fresh (Nat.le_refl _)
  obtain ⟨W, m0, w0, turn⟩ := q _ fresh
  have I3 : Inv X pins σ (upd H2 s2.heap.objs.size (.dT [])) { s2 with heap := s2.heap.push { cls := .type "dict", data := .dict #[] } } :=
    I2.laid (t' := s2.toks) (fun _ _ e => Heap.get?_push_of_some _ e) (Nat.le_refl _) (dt_empty s2.heap I2.big)
  have old : ∀ b ∈ fp, b < s2.heap.objs.size := fun b hb => Heap.lt_size (T.obj _ _ t2 b hb).choose_spec.1
  have f3 : ∀ b ∈ fp, FpOk X pins (upd H2 s2.heap.objs.size (.dT [])) b ∧ b < (s2.heap.push { cls := .type "dict", data := .dict #[] }).objs.size := by
    intro b hb
    have lt := old b hb
    refine ⟨⟨?_, (f2 b hb).2⟩, by rw [Heap.size_push]; exact Nat.lt_succ_of_lt lt⟩
    rw [upd_ne (Nat.ne_of_lt lt)]
    exact (f2 b hb).1
  have I4 := block_start I3 ok nd f3
  have keep2 : ∀ b o, s2.heap.get? b = some o → (pushCells ((s2.heap.push { cls := .type "dict", data := .dict #[] }).push { cls := .type "dict", data := .dict #[] }) scope.names).get? b = some o := fun b o e => pushCells_keeps _ _ _ _ (Heap.get?_push_of_some _ (Heap.get?_push_of_some _ e))
  have t4 := T.keep _ _ _ t2 fun b _ o e => keep2 b o e
  have lp := dct_loop (pos := pos) (iter := iter) (D := s2.heap.objs.size) (Qd := Q (.ref s2.heap.objs.size)) (R := compPost (model X.prog X.w) X.A X.xe use Qf (.ref s2.heap.objs.size) (s2.heap.push { cls := .type "dict", data := .dict #[] }).objs.size) hc hu ps T rfl W m0 I4 t4 (fun b hb => (f3 b hb).1.1) w0 turn ?_
  · exact codeAny_compStart_dict lp (T.self X.A 0 _ _ _ t4 lp)
  · intro s6 H6 I6 q6
    have I7 : Inv X pins σ H6 s6 := I3.call' (ch := fp) I6.os I6.base I6.hok I6.bare fun b hb => by
      obtain ⟨⟨_, e1, _, e3, e4, e5⟩, _⟩ := f3 b hb
      exact ⟨e3, e1, e4, e5⟩
    obtain ⟨m, hn, _⟩ := I6.loc
    have nC := I6.free
    exact last _ _ s6 m H6 I7 q6 hn (I3.fpOk (Nat.le_refl _) nC)
theorem pe_dct {kx vx tg iter : Expr} {ifs : List Expr} {scope : Scope} {own : List (Str × Nat)} {pos : Pos} {wi : TI} {g : TG} {tt : TT} {tk tv : TE} (hc : X.calm = true) (hu : X.A.units < cLine) (nd : X.N.Nodup) (hi : PI X tg iter wi) (ok : BlkOk X.N X.env.scope scope own) (ps : DParts X scope tg ifs kx vx g tt tk tv)
    (hs : ∀ x, foldedSetIterable iter X.env x = pure x) : PE X (.DictComp kx vx [⟨tg, iter, ifs, 0⟩] scope pos) (tDct wi g tt tk tv (own.map (·.2))) := by
  constructor
  intro pins s σ H Q I h
  rw [arm_eval_DictComp]
  refine dct_core hc hu nd I hi ok ps hs h fun D C s2 m H2 I2 q hn f => ⟨m, hn, fun h3 sb => ?_⟩
  obtain ⟨f0, f1, f2, f3, f4, f5⟩ := f
  exact ⟨.ref D, H2, I2.turned (t' := s2.toks) (fun b o hb e => (sb.2 b hb).trans e) f0 f1 f3 f4 f5, rfl, q⟩
end
end TL
namespace TL
open PySem L2 PySem.Spec
section
variable {M : Mode} {G : List (Option D)} {L : Led} {K : D → Led → Prop} {pos : Pos}
def DctInv (M : Mode) (G : List (Option D)) (vs : List Nat) (scope : Scope) (kx vx tg : Expr) (ifs : List Expr) (src : Led) (items : List D) (L1 : Led) (K : D → Led → Prop) : Prop :=
  ∃ I : Nat → List (List Key × D) → Led → Prop, I 0 [] L1 ∧ (∀ i acc L', I i acc L' → (∀ s ∈ src, s ∈ L') ∧ acc.length < sizeLine) ∧
    (∀ F1 Dl i d acc L', items[i]? = some d → I i acc L' → TgtN ((M.fix F1).blk scope) (wipeG G vs) ((Dl, .dT acc) :: L') vs tg d fun G2 => TstI ((M.fix F1).blk scope) G2 ((Dl, .dT acc) :: L') ifs fun b L2 =>
      (b = true → Ev ((M.fix F1).blk scope) G2 L2 kx fun x L3 => Ev ((M.fix F1).blk scope) G2 L3 vx fun y L4 => ∃ (k : List Key) (L5 : Led), x = .tup (kD k) ∧ ((Dl, OW.dT acc) :: L5).Sublist L4 ∧ I (i + 1) (putE acc k y) L5) ∧
      (b = false → ∃ L5 : Led, ((Dl, OW.dT acc) :: L5).Sublist L2 ∧ I (i + 1) acc L5)) ∧
    ∀ acc L', I items.length acc L' → ∀ Dl, K (.ref Dl) ((Dl, .dT acc) :: L')
theorem dct_go {X : Cx} {kx vx tg iter : Expr} {ifs : List Expr} {scope : Scope} {own : List (Str × Nat)} {σ : St} {H F : Hp} {Q : VK} (S : Sit M X) (hc : M.C.cm = true) (A : M.at G L F σ H)
    (h : EvI1 M G X F σ H tg iter fun src items L1 => DctInv M G (own.map (·.2)) scope kx vx tg ifs src items L1 K) (q : Post M G F σ K Q) :
    tDct (GI X tg iter) (gB X scope tg) (tB X scope ifs) (eB X scope kx) (eB X scope vx) (own.map (·.2)) σ H Q := by
  refine h _ fun J src items L1 F1 H1 k1 g1 A1 s1 Dl hD => ?_
  obtain ⟨I, i0, isrc, turn, done⟩ := k1
  have S1 := S.fix A1
  have A1' : (M.fix F1).at G ((Dl, .dT []) :: L1) F1 σ (upd H1 Dl (.dT [])) := A1.fixed.new hD (.dT upd_same .nil)
  refine ⟨fun i m H' => m = items.length - i ∧ i ≤ items.length ∧ ∃ acc L' F', (M.fix F1).at G ((Dl, .dT acc) :: L') F' σ H' ∧ I i acc L', items.length, ⟨by simp, Nat.zero_le _, [], L1, F1, A1', i0⟩, ?_⟩
  rintro i m H' ⟨rfl, hi, acc, L', F', A', iv⟩
  obtain ⟨is1, is2⟩ := isrc i acc L' iv
  obtain ⟨q1, q2⟩ := g1 G _ F' σ H' A' (fun s hs => List.mem_cons_of_mem _ (is1 s hs)) i
  by_cases hlt : i < items.length
  · obtain ⟨go, yl⟩ := q1 items[i] (by simp [hlt])
    refine .inr ⟨go, fun H2 => ∃ acc L' F', (M.fix F1).at G ((Dl, .dT acc) :: L') F' σ H2 ∧ I (i + 1) acc L', fun H2 ⟨acc2, L2, F2, A2, iv2⟩ => ⟨items.length - (i + 1), by omega, rfl, hlt, acc2, L2, F2, A2, iv2⟩, fun x H2 y s0 Hz C cl fp => ?_⟩
    obtain ⟨F2, A2, r2⟩ := yl x H2 y
    have A2w : ((M.fix F1).blk scope).at (wipeG G (own.map (·.2))) ((Dl, .dT acc) :: L') F2 (wipe σ (own.map (·.2))) H2 := A2.envOf (wipe_rep A2.env _)
    refine turn F1 Dl i _ acc L' (by simp [hlt]) iv _ S1.blk F2 _ H2 x A2w r2 _ fun G3 σ3 k3 A3 hw => ?_
    have hww : wipe σ3 (own.map (·.2)) = wipe σ (own.map (·.2)) := hw.trans (wipe_wipe σ)
    refine ⟨hww, fun s0' Hz' C' cl' fp' => ?_⟩
    have back : ∀ {L5 : Led} {F5 H5 : Hp}, ((M.fix F1).blk scope).at G3 L5 F5 σ3 H5 → Same F2 F5 → (M.fix F1).at G L5 F5 σ H5 := fun {L5 F5 H5} B s => ⟨B.ef, B.eh, B.fh, B.nf, B.own, B.nd, A2.env.mono s⟩
    refine tstI_go k3 _ S1.blk F2 σ3 H2 A3 _ fun b L4 F4 H4 k4 A4 s4 => ?_
    cases b with
    | true =>
      rw [if_pos rfl]
      intro s0'' Hz'' C'' cl'' fp''
      refine k4.1 rfl _ S1.blk F4 σ3 H4 A4 _ fun z L5 w F5 H5 k5 A5 r5 s5 => ?_
      intro s09 Hz9 C9 cl9 fp9
      refine k5 _ S1.blk F5 σ3 H5 A5 _ fun z2 L6 w2 F6 H6 k6 A6 r6 s6 => ?_
      obtain ⟨k, L7, rfl, sub, iv6⟩ := k6
      obtain ⟨c, rfl, hc6⟩ := keyT A6 (r5.mono s6)
      have A7 := (back A6 ((s4.trans s5).trans s6)).drop sub
      obtain ⟨ow, _, _⟩ := A7.own _ List.mem_cons_self
      cases ow with
      | dT e1 e2 =>
        rename_i ws
        refine ⟨ws, k, c, rfl, hc6, e1, by rw [← e2.length]; exact is2, ?_⟩
        exact ⟨_, L7, F6, A7.chg .here (.dT upd_same (e2.put k r6)), iv6⟩
    | false =>
      rw [if_neg Bool.false_ne_true]
      obtain ⟨L6, sub, iv6⟩ := k4.2 rfl
      exact ⟨acc, L6, F4, (back A4 s4).drop sub, iv6⟩
  · have e : i = items.length := by omega
    subst e
    exact .inl ⟨q2 (Nat.le_refl _), q _ _ _ F' H' (done acc L' iv Dl) (A1.unfix A') (.v _) (s1.trans A'.ef)⟩
theorem ev_dct {kx vx tg iter : Expr} {ifs : List Expr} {scope : Scope} (own : List (Str × Nat)) (hc : M.C.cm = true) (ok : blkC M.C.N M.C.sc scope own = true)
    (h : EvI M G L tg iter fun src items L1 => DctInv M G (own.map (·.2)) scope kx vx tg ifs src items L1 K)
    (hs : ∀ (X : Cx) x, foldedSetIterable iter X.env x = pure x := by intro _ _; rfl) : Ev M G L (.DictComp kx vx [⟨tg, iter, ifs, 0⟩] scope pos) K := by
  intro X S F σ H A Q q
  refine ⟨_, pe_dct (S.ok.calm hc) (Nat.lt_of_succ_lt (sit_hu S hc)) (by rw [← S.ok.eN]; exact S.ok.nd) bi (by rw [← S.ok.eN, ← S.ok.es]; exact blkOk_by ok) ⟨gB_ok, tB_ok, eB_ok, eB_ok⟩ (hs X), ?_⟩
  exact dct_go S hc A (h X S F σ H A) q
end
end TL
namespace TL
open PySem L2 PySem.Spec
theorem RepT.same {Kk : PySem.W.Frag} {F : Hp} : ∀ {kvs : List (List Key × D)} {ws : List (List Key × V)}, RepT Kk F kvs ws → kvs.map (·.1) = ws.map (·.1)
  | _, _, .nil => rfl
  | _, _, .cons r s => by
    rw [List.map_cons, List.map_cons, RepT.same s]
end TL
namespace TL
open PySem L2 PySem.Spec
end TL
namespace TL
open PySem L2 PySem.Spec
end TL
namespace TL
open PySem L2 PySem.Spec
section
variable {M : Mode} {G : List (Option D)} {L : Led} {K : D → Led → Prop} {pos : Pos}
theorem ev_disp2 {k v k2 v2 : Expr} (h : ∀ p, Ev M G ((p, .dK []) :: L) k fun x L1 => Ev M G L1 v fun y L2 => Ev M G L2 k2 fun x2 L3 => Ev M G L3 v2 fun y2 L4 => ∃ kk kk2 : Key, x = .v (kV kk) ∧ x2 = .v (kV kk2) ∧ ∃ L', L4 = (p, .dK []) :: L' ∧ K (.dK (dispE [(kk, y), (kk2, y2)])) L') : Ev M G L (.Dict [some k, some k2] [v, v2] pos) K := by
  refine ev_frz (ev_disp (fun p => ?_) (h15 := show 2 ≤ 15 by decide))
  show Ev M G _ k fun x L1 => Ev M G L1 v fun y L2 => Ev M G L2 k2 fun x2 L3 => Ev M G L3 v2 fun y2 L4 => _
  refine (h p).imp fun x L1 h1 => h1.imp fun y L2 h2 => h2.imp fun x2 L3 h3 => h3.imp fun y2 L4 ⟨kk, kk2, ex, ex2, L', eL, hk⟩ => ?_
  subst ex ex2 eL
  exact ⟨[(kk, y), (kk2, y2)], _, rfl, .here, (show 2 ≤ 15 by decide), p, _, _, rfl, .here, hk⟩
/-- {"s": i}, {"s": i, "t": j}: written -/
theorem ev_dlit1 {s : Str} {i : Int} {j1 j2 : Nat} {p1 p2 : Pos} (h : K (.dK [(Sum.inr s, .int i)]) L) : Ev M G L (.Dict [some (.Constant (.str s) j1 p1)] [.Constant (.int i) j2 p2] pos) K :=
  ev_disp1 fun _ => ev_str (ev_int ⟨Sum.inr s, rfl, _, rfl, h⟩)
theorem ev_dlit2 {s t : Str} {i k : Int} {j1 j2 j3 j4 : Nat} {p1 p2 p3 p4 : Pos} (h : K (.dK (dispE [(Sum.inr s, .int i), (Sum.inr t, .int k)])) L) : Ev M G L (.Dict [some (.Constant (.str s) j1 p1), some (.Constant (.str t) j2 p2)] [.Constant (.int i) j3 p3, .Constant (.int k) j4 p4] pos) K :=
  ev_disp2 fun _ => ev_str (ev_int (ev_str (ev_int ⟨Sum.inr s, Sum.inr t, rfl, rfl, _, rfl, h⟩)))
end
end TL
namespace TL
open PySem L2 PySem.Spec PyProof.Rows
theorem ref_keys {X : Cx} {ks : List (List Key × Addr × Value)} {en : Array DictEntry} {acc : Array Value} {n : Nat} (he : en.toList = ks.map (entryOfKey (tupleKind (mixKind X.prog X.w)))) (hn : n = ks.length) (it : ItemsOf (fun i v => ∃ d : DictEntry, en[i]? = some d ∧ v = d.key) acc n) : acc.toList = ks.map fun x => Value.ref x.2.1 := by
  have hl : acc.toList.length = ks.length := by rw [Array.length_toList, it.1, hn]
  refine List.ext_getElem? fun j => ?_
  rw [List.getElem?_map]
  rcases hj : acc.toList[j]? with _ | v
  · rw [List.getElem?_eq_none (by have := List.getElem?_eq_none_iff.mp hj; omega)]
    rfl
  · obtain ⟨d, hd, rfl⟩ := it.2 j v (by rw [← Array.getElem?_toList]; exact hj)
    have q := entry_at he j
    rw [hd] at q
    rcases hb : ks[j]? with _ | b
    · rw [hb] at q; cases q
    · rw [hb] at q
      rw [show d = entryOfKey (tupleKind (mixKind X.prog X.w)) b from Option.some.inj q]
      rfl
end TL
namespace TL
open PySem L2 PySem.Spec
end TL
namespace TL
open PySem L2 PySem.Spec
section
variable {M : Mode} {G : List (Option D)} {L : Led} {K : D → Led → Prop} {pos : Pos}
/-- in, not in: a list of nested data -/
theorem sit_65 {X : Cx} (S : Sit M X) (hc : M.C.cm = true) : X.A.units + 65 < cLine := by
  have := (S.ok.room hc).un
  omega
theorem op_niP (hc : M.C.cm = true) {x y : D} {d : PyData} {es : List PyData} (hx : PyOf L x d) (hy : PyOf L y (.list es)) (sd : SeqAt.shaped d = true) (se : SeqAt.shaped (.list es) = true) (h : K (.bl (!es.any fun z => PyData.eqv z d)) L) : Op2 M G L (compareOp .NotIn) x y K := by
  intro X S F σ H v u A rx ry Q q
  refine ⟨_, op_notInD (sit_65 S hc), d, es, ?_, ?_, sd, se, q _ L _ F H h A (.v _) (Same.refl _)⟩
  · rw [← S.ok.eK]; exact PyOf.dp A d x v hx rx
  · rw [← S.ok.eK]; exact PyOf.dp A (.list es) y u hy ry
/-- -i -/
theorem op_negI {i : Int} (h : K (.int (-i)) L) : Op1 M G L (unaryOp .USub) (.int i) K := by
  intro X S F σ H v A r Q q
  cases r
  exact ⟨_, un_neg, i, rfl, q _ L _ F H h A (.v _) (Same.refl _)⟩
end
end TL
namespace TL
open PySem L2 PySem.Spec PyProof.Rows
end TL
namespace TL
open PySem L2 PySem.Spec PyProof.Rows
section
variable {M : Mode} {G : List (Option D)} {L : Led} {K : D → Led → Prop} {pos : Pos}
/-- sorted(a dict whose keys are texts) -/
theorem cv_sortedDS (hc : M.C.cm = true) {x : D} {kvs : List (Key × D)} {ks : List Str} (hx : IsK L x kvs) (hk : kvs.map (·.1) = ks.map Sum.inr) (hl : ks.length < 64)
    (h : ∀ (ys : List Str) (p : Addr), ys.Perm ks → sortedS ys = true → K (.ref p) ((p, .lst (ys.map D.str)) :: L)) : CallV M G L (.builtin "sorted") [x] K := by
  intro X S F σ H vs A r Q q
  obtain ⟨v, rfl, rv⟩ := reps1 r
  obtain ⟨p, ws, rfl, h1, h2⟩ := hx.get A rv
  refine ⟨_, call_sortedD (S.ok.calm hc), p, ws, ks, rfl, h1, by rw [← h2.keys]; exact hk, hl, fun ys l hp hs hl2 => ?_⟩
  have e : ys.map D.str = (ys.map V.str).map D.v := by rw [List.map_map]; rfl
  refine q _ _ _ F _ (h ys l hp hs) (A.new hl2 (.lst upd_same ?_)) (.v _) (Same.refl _)
  rw [e]
  exact RepA.of_flats _
end
end TL
namespace TL
open PySem L2 PySem.Spec PyProof.Rows
end TL
namespace TL
open PySem L2 PySem.Spec PyProof.Rows
end TL
namespace TL
open PySem L2 PySem.Spec PyProof.Rows
end TL
namespace TL
open PySem L2 PySem.Spec PyProof.Rows
end TL
namespace TL
open PySem L2 PySem.Spec PyProof.Rows
end TL
namespace TL
open PySem L2 PySem.Spec PyProof.Rows
end TL
namespace TL
open PySem L2 PySem.Spec PyProof.Rows
abbrev NKey := Option Nat × Option Nat
def nLeaf : Option Nat → Leaf
  | none => .none
  | some n => .num ((n : Nat) : Int)
abbrev nKey (k : NKey) : List Leaf := [nLeaf k.1, nLeaf k.2]
def oV : Option Nat → V
  | none => .non
  | some n => .int ((n : Nat) : Int)
theorem leaf_is {a : Option Nat} {v : Value} (h : RelV (oV a) v) : Leaf.isOf (nLeaf a) v = true := by
  cases a with
  | none =>
    have e : v = .none := h
    subst e
    rfl
  | some n =>
    obtain ⟨t, rfl⟩ := (show ∃ t, v = .int _ t from h)
    exact decide_eq_true rfl
theorem nLeaf_inj {a b : Option Nat} (h : nLeaf a = nLeaf b) : a = b := by
  cases a with
  | none =>
    cases b with
    | none => rfl
    | some m => cases h
  | some n =>
    cases b with
    | none => cases h
    | some m =>
      injection h with h
      rw [show n = m by omega]
theorem nKey_inj {a b : NKey} (h : nKey a = nKey b) : a = b := by
  injection h with h1 h2
  injection h2 with h2 _
  obtain ⟨a1, a2⟩ := a
  obtain ⟨b1, b2⟩ := b
  rw [show a1 = b1 from nLeaf_inj h1, show a2 = b2 from nLeaf_inj h2]
theorem nkey_of {P : Program} {w : World} {H : Hp} {h : Heap} {b : Addr} {k : NKey} (ok : HOk P w H h) (e : H b = some (.tup [oV k.1, oV k.2])) : (tupleKind (leafKind P w)).is h (nKey k) b := by
  obtain ⟨_, its, r, o, h1, h2, n, h3⟩ := (show ObjOk P w H h b (.tup [oV k.1, oV k.2]) from ok b _ e)
  refine ⟨o, its.toArray, n, h1, h2, h3, ?_⟩
  cases r with
  | cons r1 t =>
    cases t with
    | cons r2 t =>
      cases t
      exact .cons (leaf_is r1) (.cons (leaf_is r2) .nil)
abbrev NEnt := NKey × Addr × Nat
def NRel (n : NEnt) (x : List Leaf × Addr × Value) : Prop := nKey n.1 = x.1 ∧ n.2.1 = x.2.1 ∧ ∃ t, x.2.2 = .int ((n.2.2 : Nat) : Int) t
def ndP (P : Program) (w : World) (a : Addr) (ns : List NEnt) : Heap → Prop := fun h => ns.length ≤ sizeLine ∧ (a == sysModules) = false ∧ ∃ xs : List (List Leaf × Addr × Value), Paired NRel ns xs ∧
  ∃ o es ep, h.get? a = some o ∧ o.ExactDict ∧ o.data = .dict es ep ∧ es.toList = xs.map (entryOfKey (tupleKind (leafKind P w))) ∧ (xs.map (·.1)).Nodup
def nGet (ns : List NEnt) (k : NKey) : Option Nat := (ns.find? fun n => decide (n.1 = k)).map (·.2.2)
theorem nget_at {ns : List NEnt} {xs : List (List Leaf × Addr × Value)} (r : Paired NRel ns xs) (k : NKey) : (nGet ns k = none ∧ atKey xs (nKey k) = none) ∨ ∃ v p t, nGet ns k = some v ∧ atKey xs (nKey k) = some p ∧ p.2 = .int ((v : Nat) : Int) t := by
  induction r with
  | nil => exact .inl ⟨rfl, rfl⟩
  | @cons n x ns xs h t ih =>
    obtain ⟨h1, h2, t1, h3⟩ := h
    by_cases e : n.1 = k
    · have e' : x.1 = nKey k := by rw [← h1, e]
      refine .inr ⟨n.2.2, x.2, t1, ?_, ?_, h3⟩
      · unfold nGet
        rw [List.find?_cons, decide_eq_true e]
        rfl
      · unfold atKey
        rw [List.find?_cons, decide_eq_true e']
        rfl
    · have e' : ¬ x.1 = nKey k := fun z => e (nKey_inj (h1.trans z))
      have g1 : nGet (n :: ns) k = nGet ns k := by
        unfold nGet
        rw [List.find?_cons, decide_eq_false e]
      have g2 : atKey (x :: xs) (nKey k) = atKey xs (nKey k) := by
        unfold atKey
        rw [List.find?_cons, decide_eq_false e']
      rw [g1, g2]
      exact ih
def NTup (H : Hp) (ns : List NEnt) : Prop := ∀ n ∈ ns, H n.2.1 = some (.tup [oV n.1.1, oV n.1.2])
theorem nd_of {P : Program} {w : World} {H : Hp} {h : Heap} {a : Addr} {ns : List NEnt} (ok : HOk P w H h) (e : H a = some (.ext (ndP P w a ns))) (kt : NTup H ns) : ns.length ≤ sizeLine ∧ (a == sysModules) = false ∧ ∃ xs, Paired NRel ns xs ∧ h.DictOfH (tupleKind (leafKind P w)) a xs := by
  obtain ⟨⟨z, y, xs, r, o, es, ep, h1, h2, h3, h4, h5⟩, _, _⟩ := (show ObjOk P w H h a (.ext _) from ok a _ e)
  refine ⟨z, y, xs, r, o, es, ep, h1, h2, h3, h4, ?_, h5⟩
  have all : ∀ {l : List NEnt} {m : List (List Leaf × Addr × Value)}, Paired NRel l m → (∀ n ∈ l, H n.2.1 = some (.tup [oV n.1.1, oV n.1.2])) → ∀ x ∈ m, (tupleKind (leafKind P w)).is h x.1 x.2.1 := by
    intro l m q
    induction q with
    | nil => intro _ x hx; exact nomatch hx
    | @cons n x ns xs hq t ih =>
      intro hk y hy
      rcases List.mem_cons.mp hy with rfl | hy
      · rw [← hq.1, ← hq.2.1]
        exact nkey_of ok (hk n List.mem_cons_self)
      · exact ih (fun n hn => hk n (List.mem_cons_of_mem _ hn)) y hy
  exact all r kt
theorem nd_ok {P : Program} {w : World} {H : Hp} {h : Heap} {a : Addr} {ns : List NEnt} {xs : List (List Leaf × Addr × Value)} (z : ns.length ≤ sizeLine) (y : (a == sysModules) = false) (r : Paired NRel ns xs) (dd : h.DictOfH (tupleKind (leafKind P w)) a xs) : ObjOk P w H h a (.ext (ndP P w a ns)) := by
  obtain ⟨o, es, ep, h1, h2, h3, h4, _, h5⟩ := dd
  refine ⟨⟨z, y, xs, r, o, es, ep, h1, h2, h3, h4, h5⟩, ⟨o, h1⟩, ?_⟩
  rintro g1 g2 ⟨z, y, xs, r, o, es, ep, h1, h2⟩ k
  exact ⟨z, y, xs, r, o, es, ep, k o h1, h2⟩
section
variable {X : Cx}
theorem dni_nd (hu : X.A.units + 1 < cLine) : OpR X (compareOp .NotIn) (fun y x H Q => ∃ (a b : Addr) (ns : List NEnt) (k : NKey), x = .ref a ∧ y = .ref b ∧ H a = some (.ext (ndP X.prog X.w a ns)) ∧ NTup H ns ∧ H b = some (.tup [oV k.1, oV k.2]) ∧ Q (.bl (!(nGet ns k).isSome)) H) := by
  intro pins s σ H x y v u Q I rx ry h
  obtain ⟨a, b, ns, k, rfl, rfl, e, kt, eb, q⟩ := h
  cases rx
  cases ry
  obtain ⟨z, hd, xs, r, dd⟩ := nd_of I.hok e kt
  refine wpAny_notIn_heap (tupleKind_room_in1 hu) (nkey_of I.hok eb) hd dd ?_
  have e2 : (atKey xs (nKey k)).isSome = (nGet ns k).isSome := by
    rcases nget_at r k with ⟨e1, e2⟩ | ⟨v, p, t, e1, e2, _⟩ <;> rw [e1, e2] <;> rfl
  rw [e2]
  exact ⟨.bl _, H, I.tok _, rfl, q⟩
theorem ix_nd (hu : X.A.units + 1 < cLine) : IxR X (fun x y H Q => ∃ (a b : Addr) (ns : List NEnt) (k : NKey) (v : Nat), x = .ref a ∧ y = .ref b ∧ H a = some (.ext (ndP X.prog X.w a ns)) ∧ NTup H ns ∧ H b = some (.tup [oV k.1, oV k.2]) ∧ nGet ns k = some v ∧ Q (.int ((v : Nat) : Int)) H) := by
  intro value slice pins s σ H x y v u Q I rx ry h hs
  obtain ⟨a, b, ns, k, n, rfl, rfl, e, kt, eb, g, q⟩ := h
  cases rx
  cases ry
  obtain ⟨z, hd, xs, r, dd⟩ := nd_of I.hok e kt
  rcases nget_at r k with ⟨e1, _⟩ | ⟨v, p, t, e1, e2, e3⟩
  · rw [g] at e1; cases e1
  · rw [g] at e1
    cases e1
    refine tail_any (ops := [Value.ref a, .ref b]) dd.typeIs PySem.F.slot_dict_getitem.lookup ?_ hs
    refine wpAny_getItem_heap (tupleKind_room_in1 hu) (nkey_of I.hok eb) dd e2 ?_
    rw [e3]
    exact ⟨.int _, H, I.tok _, ⟨t, rfl⟩, q⟩
def sNPut (P : Program) (w : World) (to ti tv : TE) : TS := fun D σ H => tv σ H fun v H1 => to σ H1 fun x H2 => ti σ H2 fun y H3 => ∃ (a b : Addr) (ns : List NEnt) (k : NKey) (n : Nat), v = .int ((n : Nat) : Int) ∧ x = .ref a ∧ y = .ref b ∧ H3 a = some (.ext (ndP P w a ns)) ∧ NTup H3 ns ∧ H3 b = some (.tup [oV k.1, oV k.2]) ∧
  nGet ns k = none ∧ ns.length < sizeLine ∧ D.nx σ (upd H3 a (.ext (ndP P w a (ns ++ [(k, b, n)]))))
theorem ps_nput {o i value : Expr} {pos pos' : Pos} {to ti tv : TE} (hu : X.A.units + 1 < cLine) (ho : PE X o to) (hi : PE X i ti) (hv : PE X value tv) (hs : swapsWith value (some (.Subscript o i pos')) pos.line X.env = pure false) :
    PS X (.Assign [.Subscript o i pos'] value pos) (sNPut X.prog X.w to ti tv) := by
  refine ⟨fun pins s σ H D I h => ?_⟩
  refine wpAny_Assign_Subscript (thn (hv.run pins s σ H _ I h) fun r s1 ⟨v, H1, I1, rv, q1⟩ => thn (ho.run pins s1 σ H1 _ I1 q1) fun u s2 ⟨x, H2, I2, rx, q2⟩ => thn (hi.run pins s2 σ H2 _ I2 q2) fun iv s3 ⟨y, H3, I3, ry, q3⟩ => ?_) hs
  obtain ⟨a, b, ns, k, n, rfl, rfl, rfl, e, kt, eb, g, hl, q⟩ := q3
  cases rx
  cases ry
  obtain ⟨t, rfl⟩ := (show ∃ t, r = .int _ t from rv)
  obtain ⟨z, hd, xs, rl, dd⟩ := nd_of I3.hok e kt
  have hz : xs.length ≤ sizeLine := by rw [← Paired.length rl]; exact z
  have hn : atKey xs (nKey k) = none := by
    rcases nget_at rl k with ⟨_, e2⟩ | ⟨v, p, t, e1, _, _⟩
    · exact e2
    · rw [g] at e1; cases e1
  refine wpAny_setItem_heap (hsz := hz) (tupleKind_room_in1 hu) (nkey_of I3.hok eb) dd fun h' dd' hs' => ?_
  rw [storedH_new hn] at dd'
  have he : ∃ q, h'.get? a = some q := let ⟨q, _, _, hq, _⟩ := dd'; ⟨q, hq⟩
  refine ⟨σ, _, d_write I3 (by rw [e]; exact True.intro) hs' he (nd_ok (by rw [List.length_append]; exact hl) hd (Paired.snoc rl ⟨rfl, rfl, t, rfl⟩) dd'), q⟩
end
/-- {(a, b): v}, kept as such a dict -/
def tDispN (P : Program) (w : World) (trs : List (TE × TE)) : TE := fun σ H Q => ∀ p, H p = none → tPairs trs σ (upd H p (.dT [])) fun ps H2 => ∃ (k : NKey) (b : Addr) (n : Nat), ps = [(.ref b, .int ((n : Nat) : Int))] ∧ H2 p = some (.dT []) ∧ H2 b = some (.tup [oV k.1, oV k.2]) ∧ Q (.ref p) (upd H2 p (.ext (ndP P w p [(k, b, n)])))
theorem pe_dispN {X : Cx} {pos : Pos} {keys : List (Option Expr)} {values : List Expr} {trs : List (TE × TE)} (hu : X.A.units + 1 < cLine) (h : PPs X pos keys values trs) (hall : keys.all (·.isSome) = true) (hl : keys.length = values.length) (h0 : keys ≠ [])
    (h15 : keys.length ≤ 15) : PE X (.Dict keys values pos) (tDispN X.prog X.w trs) := by
  refine ⟨fun pins s σ H Q I q => ?_⟩
  have hn := I.hok.fresh (Nat.le_refl s.heap.objs.size)
  have I1 := I.laid (a := s.heap.objs.size) (o := .dT []) (h' := s.heap.push { cls := .type "dict", data := .dict #[] }) (t' := s.toks) (fun _ _ q => Heap.get?_push_of_some _ q) (Nat.le_refl _) (dt_empty s.heap I.big)
  have hpl := pairTrees_length keys values X.env pos hall hl
  rw [arm_eval_Dict, zip_pairTrees keys values X.env pos hall hl, dictDisplay_pairs _ (fun e => h0 (List.length_eq_zero_iff.mp (by rw [← hpl, e]; rfl))) (by omega)]
  refine wpAny_bind (wpAny_standAt (wpAny_bind (wpAny_subDictH (knd := tupleKind (leafKind X.prog X.w)) (Q := fun d s' => wpAny (model X.prog X.w) X.A (pure (Value.ref d)) (EP X pins σ Q) _ s') (show X.A.units < cLine by omega) (by omega) (thn (h.run pins _ σ _ _ I1 (q _ hn)) fun ws s2 ⟨ps, H2, I2, rel, k, b, n, ep, e, hb, q2⟩ => ?_))))
  subst ep
  cases rel with
  | @cons p1 q1 _ _ hr ht =>
    cases ht
    obtain ⟨u1, u2⟩ := q1
    obtain ⟨hr1, hr2⟩ := hr
    have hr1' : u1 = Value.ref b := hr1
    subst hr1'
    obtain ⟨tn, rfl⟩ := (show ∃ t, u2 = Value.int ((n : Nat) : Int) t from hr2)
    obtain ⟨z, hd, xs0, r0, dd0⟩ := dt_of I2.hok e
    cases r0
    have dd : s2.heap.DictOfH (tupleKind (leafKind X.prog X.w)) s.heap.objs.size [] := by
      obtain ⟨o, es, ep, g1, g2, g3, g4, _, g5⟩ := dd0
      exact ⟨o, es, ep, g1, g2, g3, g4, (fun _ hx => nomatch hx), List.nodup_nil⟩
    refine ⟨[(nKey k, b, .int ((n : Nat) : Int) tn)], ⟨rfl, rfl, nkey_of I2.hok hb, trivial⟩, dd, fun h' tk dd' hs => wpAny_pure ?_⟩
    have hnd1 : ([(nKey k, b, Value.int ((n : Nat) : Int) tn)].map (·.1)).Nodup := by simp
    rw [storedAllH_nil_of_nodup _ hnd1] at dd'
    have he : ∃ q, h'.get? s.heap.objs.size = some q := let ⟨q, _, _, hq, _⟩ := dd'; ⟨q, hq⟩
    have I3 : Inv X pins σ (upd H2 s.heap.objs.size (.ext (ndP X.prog X.w s.heap.objs.size [(k, b, n)]))) { s2 with heap := h', toks := tk } :=
      d_write I2 (by rw [e]; exact True.intro) hs he (nd_ok (Nat.le_of_ble_eq_true rfl) hd (.cons ⟨rfl, rfl, tn, rfl⟩ .nil) dd')
    exact ⟨.ref s.heap.objs.size, _, I3, rfl, q2⟩
/-- such a dict as an own object -/
abbrev ndO (P : Program) (w : World) (l : Addr) (ns : List NEnt) : OW := .ext l (ndP P w l ns) (ns.map fun n => (n.2.1, [D.v (oV n.1.1), D.v (oV n.1.2)]))
theorem nd_tup {Kk : PySem.W.Frag} {H0 F0 F H : Hp} {G : List (Option D)} {L : Led} {σ : L2.St} {ns : List NEnt} (A : At Kk H0 F0 G L F σ H) (r : ∀ e ∈ ns.map (fun n : NEnt => (n.2.1, [D.v (oV n.1.1), D.v (oV n.1.2)])), Rep Kk F (.tup e.2) (.ref e.1)) : NTup H ns := by
  intro n hn
  have := r _ (List.mem_map.mpr ⟨n, hn, rfl⟩)
  obtain ⟨b, vs, e1, h1, h2⟩ := tup_at A this
  cases e1
  obtain ⟨x, y, rfl, r1, r2⟩ := reps2 h2
  cases r1
  cases r2
  exact h1
theorem key_tup {Kk : PySem.W.Frag} {H0 F0 F H : Hp} {G : List (Option D)} {L : Led} {σ : L2.St} {k : NKey} {u : V} (A : At Kk H0 F0 G L F σ H) (r : Rep Kk F (.tup [D.v (oV k.1), D.v (oV k.2)]) u) : ∃ b, u = .ref b ∧ H b = some (.tup [oV k.1, oV k.2]) ∧ Rep Kk F (.tup [D.v (oV k.1), D.v (oV k.2)]) (.ref b) := by
  obtain ⟨b, vs, e1, h1, h2⟩ := tup_at A r
  subst e1
  obtain ⟨x, y, rfl, r1, r2⟩ := reps2 h2
  cases r1
  cases r2
  exact ⟨b, rfl, h1, r⟩
section
variable {M : Mode} {G : List (Option D)} {L : Led} {K : D → Led → Prop} {pos : Pos}
theorem op_niN (hc : M.C.cm = true) {l : Addr} {ns : List NEnt} {k : NKey} (hm : (l, ndO M.C.P M.C.w l ns) ∈ L) (h : K (.bl (!(nGet ns k).isSome)) L) : Op2 M G L (compareOp .NotIn) (.tup [D.v (oV k.1), D.v (oV k.2)]) (.ref l) K := by
  intro X S F σ H v u A rx ry Q q
  cases ry
  obtain ⟨b, rfl, hb, _⟩ := key_tup A rx
  obtain ⟨ow, _, _⟩ := A.own _ hm
  have ow' : OwnAt M.C.K F H l (ndO M.C.P M.C.w l ns) := ow
  cases ow' with
  | ext e r =>
    refine ⟨_, dni_nd (sit_hu S hc), l, b, ns, k, rfl, rfl, ?_, nd_tup A r, hb, q _ L _ F H h A (.v _) (Same.refl _)⟩
    rw [← S.ok.eP, ← S.ok.ew]
    exact e
theorem ix_N (hc : M.C.cm = true) {l : Addr} {ns : List NEnt} {k : NKey} {n : Nat} (hm : (l, ndO M.C.P M.C.w l ns) ∈ L) (hg : nGet ns k = some n) (h : K (.int ((n : Nat) : Int)) L) : IxV M G L (.ref l) (.tup [D.v (oV k.1), D.v (oV k.2)]) K := by
  intro X S F σ H v u A rx ry Q q
  cases rx
  obtain ⟨b, rfl, hb, _⟩ := key_tup A ry
  obtain ⟨ow, _, _⟩ := A.own _ hm
  have ow' : OwnAt M.C.K F H l (ndO M.C.P M.C.w l ns) := ow
  cases ow' with
  | ext e r =>
    refine ⟨_, ix_nd (sit_hu S hc), l, b, ns, k, n, rfl, rfl, ?_, nd_tup A r, hb, hg, q _ L _ F H h A (.v _) (Same.refl _)⟩
    rw [← S.ok.eP, ← S.ok.ew]
    exact e
theorem run_nput {rest : List Stmt} {E : TD} {o i e : Expr} {p : Pos} (hc : M.C.cm = true) (h : Ev M G L e fun d L1 => Ev M G L1 o fun x L2 => Ev M G L2 i fun y L3 => ∃ (l : Addr) (ns : List NEnt) (k : NKey) (n : Nat), d = .int ((n : Nat) : Int) ∧ x = .ref l ∧ y = .tup [D.v (oV k.1), D.v (oV k.2)] ∧ nGet ns k = none ∧ ns.length < sizeLine ∧
      ∀ b, ∃ L4, Chg L3 l (ndO M.C.P M.C.w l ns) (ndO M.C.P M.C.w l (ns ++ [(k, b, n)])) L4 ∧ Run M G L4 rest E)
    (hs : ∀ X : Cx, swapsWith e (some (.Subscript o i p)) pos.line X.env = pure false := by intro _; rfl) : Run M G L (.Assign [.Subscript o i p] e pos :: rest) E := by
  intro X S F σ H A D0 o2
  refine gss_cons ⟨_, ps_nput (sit_hu S hc) be be be (hs X), ?_⟩
  refine h X S F σ H A _ fun d L1 v F1 H1 k1 A1 r1 s1 => ?_
  refine k1 X S F1 σ H1 A1 _ fun x L2 u F2 H2 k2 A2 r2 s2 => ?_
  refine k2 X S F2 σ H2 A2 _ fun y L3 z F3 H3 k3 A3 r3 s3 => ?_
  obtain ⟨l, ns, k, n, rfl, rfl, rfl, g, hl, hr⟩ := k3
  cases r1
  cases r2
  obtain ⟨b, rfl, hb, rb⟩ := key_tup A3 r3
  obtain ⟨L4, ch, hr⟩ := hr b
  obtain ⟨ow, _, _⟩ := A3.own _ ch.mem
  have ow' : OwnAt M.C.K F3 H3 l (ndO M.C.P M.C.w l ns) := ow
  cases ow' with
  | ext e r =>
    refine ⟨l, b, ns, k, n, rfl, rfl, rfl, by rw [← S.ok.eP, ← S.ok.ew]; exact e, nd_tup A3 r, hb, g, hl, ?_⟩
    rw [← S.ok.eP, ← S.ok.ew]
    refine hr X S F3 σ _ (A3.chg ch (.ext upd_same fun z hz => ?_)) D0 o2
    rw [List.map_append] at hz
    rcases List.mem_append.mp hz with hz | hz
    · exact r z hz
    · rw [List.mem_singleton.mp hz]
      exact rb
theorem ev_dispN {k : List Expr} {j : Nat} {p2 : Pos} {v : Expr} (hc : M.C.cm = true) (h : ∀ p, EvPs M G [some (.Tuple k j p2)] [v] ((p, .dT []) :: L) fun ps L' => ∃ (kk : NKey) (n : Nat), ps = [(.tup [D.v (oV kk.1), D.v (oV kk.2)], .int ((n : Nat) : Int))] ∧ ∀ b, ∃ L2, Chg L' p (.dT []) (ndO M.C.P M.C.w p [(kk, b, n)]) L2 ∧ K (.ref p) L2) : Ev M G L (.Dict [some (.Tuple k j p2)] [v] pos) K := by
  intro X S F σ H A Q q
  have hl : [some (Expr.Tuple k j p2)].length = [v].length := rfl
  have hall : [some (Expr.Tuple k j p2)].all (·.isSome) = true := rfl
  refine ⟨_, pe_dispN (sit_hu S hc) (pps_of hl (fun k hk => List.all_eq_true.mp hall k hk)) hall hl (List.cons_ne_nil _ _) (show 1 ≤ 15 by omega), fun p hp => ?_⟩
  refine tPairs_go S (h p) (A.new hp (.dT upd_same .nil)) fun ps L' us F' H' kk A' r' s' => ?_
  obtain ⟨ky, n, rfl, hk⟩ := kk
  cases r' with
  | cons ra rb rt =>
    cases rt
    cases rb
    obtain ⟨b, rfl, hb, rb⟩ := key_tup A' ra
    obtain ⟨L2, ch, hk⟩ := hk b
    obtain ⟨ow, _, _⟩ := A'.own _ ch.mem
    cases ow with
    | dT e1 e2 =>
      cases e2
      refine ⟨ky, b, n, rfl, e1, hb, ?_⟩
      rw [← S.ok.eP, ← S.ok.ew]
      refine q _ L2 _ F' _ hk (A'.chg ch (.ext upd_same fun z hz => ?_)) (.v _) s'
      rw [List.mem_singleton.mp hz]
      exact rb
end
end TL
namespace TL
open PySem L2 PySem.Spec PyProof.Rows
section
variable {X : Cx} {C f : Addr} {k : Nat} {fd : FuncData} {ps : List Str} {sp : Sp} {E : L2.St → XK} {m : Str} {a b : Expr} {pos : Pos} {σ : L2.St} {H : Hp} {Q : VK}
/-- both are instances of the class, and the def's promise -/
def TwoO (C : Addr) (sp : Sp) (E : XK) (Q : VK) (x y : V) (H : Hp) : Prop := ∃ p q dx dy fs gs, x = .ref p ∧ y = .ref q ∧ H p = some (.ins C dx fs) ∧ H q = some (.ins C dy gs) ∧ sp [x, y] H Q E
theorem two_run (hm : Meth X.K C m f) (ok : FnOk X.prog X.w X.K X.mg X.base (L2.CX X.prog X.w) k f fd ps sp) (hr : Room k X.A) (bd : Binds X.K fd ps []) (hx : ∀ σ, PassesAt (L2.CX X.prog X.w) X σ (E σ)) {pins : List (Addr × Obj)} {s : Shared} {v u : Value} {x y : V} {g : Value → Value → Sem Value}
    (I : Inv X pins σ H s) (rx : RelV x v) (ry : RelV y u) (h : TwoO C sp (E σ) Q x y H)
    (hg : ∀ (p q : Addr) (ox oy od : Obj) (od2 : Option Obj) (L : Addr) (m0 : Str → Option Value), Fr X.base L s.heap m0 → X.K.In X.base → PySem.W.InstAt s.heap p ox C (some od) → PySem.W.InstAt s.heap q oy C od2 → wpAny (model X.prog X.w) X.A (call (.ref f) [.ref p, .ref q]) (PySem.W.CmpBack (EP X pins σ Q)) X.xe s → wpAny (model X.prog X.w) X.A (g (.ref p) (.ref q)) (EP X pins σ Q) X.xe s) :
    wpAny (model X.prog X.w) X.A (g v u) (EP X pins σ Q) X.xe s := by
  obtain ⟨p, q, dx, dy, fs, gs, rfl, rfl, e1, e2, hs⟩ := h
  obtain rfl : v = Value.ref p := rx
  obtain rfl : u = Value.ref q := ry
  obtain ⟨m1, O1, _, _, _, _⟩ := ins_get I.hok e1
  obtain ⟨m2, O2, _, _, _, _⟩ := ins_get I.hok e2
  obtain ⟨od, J, _⟩ := O1.look
  obtain ⟨od2, J2, _⟩ := O2.look
  obtain ⟨m0, hF⟩ := I.fr
  refine hg p q _ _ _ _ _ _ hF I.ok.mod.kin J J2 ?_
  refine wpAny_mono (run_fnS (us := [.ref p, .ref q]) (vs := [.ref p, .ref q]) ok hr bd (hx σ) I (.cons rfl (.cons rfl .nil)) hs) (fun w s' z => ?_) fun _ _ x => x
  obtain ⟨z', H', I', rz, qz⟩ := z
  exact SlX.cmpback rz ⟨z', H', I', rz, qz⟩
theorem ge_binO {op : Operator} (hf : PySem.W.selfFirst X.K C = true) (hd : PySem.dunder op.info.2 = m) (hm : Meth X.K C m f) (ok : FnOk X.prog X.w X.K X.mg X.base (L2.CX X.prog X.w) k f fd ps sp) (hr : Room k X.A) (bd : Binds X.K fd ps []) (hx : ∀ σ, PassesAt (L2.CX X.prog X.w) X σ (E σ))
    (h : GE X a σ H fun x H1 => GE X b σ H1 fun y H2 => TwoO C sp (E σ) Q x y H2) : GE X (.BinOp a op b pos) σ H Q := by
  refine ⟨fun σ H Q => GE X a σ H fun x H1 => GE X b σ H1 fun y H2 => TwoO C sp (E σ) Q x y H2, ⟨fun pins s σ H Q I h => ?_⟩, h⟩
  refine wpAny_BinOp (binT be be I h fun v u s2 x y H2 I2 rx ry q => ?_)
  refine two_run hm ok hr bd hx I2 rx ry q fun p q ox oy od od2 L m0 F KI J J2 hc => ?_
  subst hd
  exact PySem.W.binop_K F KI J J2.type hf hm.at_ hm.fn hc
theorem ge_eqO (hm : Meth X.K C "__eq__" f) (ok : FnOk X.prog X.w X.K X.mg X.base (L2.CX X.prog X.w) k f fd ps sp) (hr : Room k X.A) (bd : Binds X.K fd ps []) (hx : ∀ σ, PassesAt (L2.CX X.prog X.w) X σ (E σ)) (hb : behindInMarks .Eq b = false)
    (h : GE X a σ H fun x H1 => GE X b σ H1 fun y H2 => TwoO C sp (E σ) Q x y H2) : GE X (.Compare a [.Eq] [b] pos) σ H Q := by
  refine ⟨fun σ H Q => GE X a σ H fun x H1 => GE X b σ H1 fun y H2 => TwoO C sp (E σ) Q x y H2, ⟨fun pins s σ H Q I h => ?_⟩, h⟩
  refine wpAny_Compare1 (binT be be I h fun v u s2 x y H2 I2 rx ry q => ?_) hb
  refine two_run (g := compareOp .Eq) hm ok hr bd hx I2 rx ry q fun p q ox oy od od2 L m0 F KI J J2 hc => ?_
  show wpAny (model X.prog X.w) X.A (richCompare .Eq (.ref p) (.ref q)) _ _ _
  have hn : PySem.W.notFirst X.K C (.ref C) = true := by
    show ((Value.ref C == Value.ref C) || _) = true
    rw [beq_self_eq_true]
    rfl
  exact PySem.W.cmp_K (op := .Eq) hr.units0 F KI J J2.type hn hm.at_ hm.fn hc
end
section
variable {M : Mode} {G : List (Option D)} {L : Led} {K : D → Led → Prop} {pos : Pos} {a b : Expr}
theorem ev_binO {op : Operator} {Cc : Addr} {m : Str} {ps : List Str} {sp : Prm} {j : Nat} (B : Mth M.C.P M.C.w M.C.K M.C.mg M.C.base Cc m ps sp j) (hf : PySem.W.selfFirst M.C.K Cc = true) (hc : M.C.cm = true) (hj : Nat.ble j M.C.k = true)
    (h : Ev M G L a fun x L1 => Ev M G L1 b fun y L2 => ∃ fs gs, IsO L2 x Cc fs ∧ IsO L2 y Cc gs ∧ Calls M G sp [x, y] L2 K) (hd : PySem.dunder op.info.2 = m := by rfl) : Ev M G L (.BinOp a op b pos) K := by
  intro X S F σ H A Q q
  obtain ⟨W, tk, hk⟩ := S.tk
  obtain ⟨f, fd, ok, hm, bd⟩ := B.ex
  rw [S.ok.eP, S.ok.ew, S.ok.eK, S.ok.em, S.ok.eb] at ok
  rw [S.ok.eK] at hm bd hf
  refine ge_binO (E := WE W) hf hd hm ok (room_le S hc (Nat.le_of_ble_eq_true hj)) bd (fun σ => passAt tk σ) ?_
  refine h X S F σ H A _ fun x L1 v F1 H1 k1 A1 r1 s1 => ?_
  refine k1 X S F1 σ H1 A1 _ fun y L2 u F2 H2 k2 A2 r2 s2 => ?_
  obtain ⟨fs, gs, ho1, ho2, ha⟩ := k2
  have r1' := r1.mono s2
  have z := ha.tsp A2 (.cons r1' (.cons r2 .nil)) hk (Q := Q) fun d L' v F' H' k' A' r' s' => q d L' v F' H' k' A' r' ((s1.trans s2).trans s')
  rw [S.ok.eK] at z
  obtain ⟨p, dx, ws, rfl, e1, _⟩ := ho1.get A2 r1'
  obtain ⟨p2, dx2, ws2, rfl, e2, _⟩ := ho2.get A2 r2
  exact ⟨p, p2, dx, dx2, ws, ws2, rfl, rfl, e1, e2, z⟩
theorem ev_eqO {Cc : Addr} {ps : List Str} {sp : Prm} {j : Nat} (B : Mth M.C.P M.C.w M.C.K M.C.mg M.C.base Cc "__eq__" ps sp j) (hc : M.C.cm = true) (hj : Nat.ble j M.C.k = true)
    (h : Ev M G L a fun x L1 => Ev M G L1 b fun y L2 => ∃ fs gs, IsO L2 x Cc fs ∧ IsO L2 y Cc gs ∧ Calls M G sp [x, y] L2 K) (hb : behindInMarks .Eq b = false := by first | exact nomark _ | rfl) : Ev M G L (.Compare a [.Eq] [b] pos) K := by
  intro X S F σ H A Q q
  obtain ⟨W, tk, hk⟩ := S.tk
  obtain ⟨f, fd, ok, hm, bd⟩ := B.ex
  rw [S.ok.eP, S.ok.ew, S.ok.eK, S.ok.em, S.ok.eb] at ok
  rw [S.ok.eK] at hm bd
  refine ge_eqO (E := WE W) hm ok (room_le S hc (Nat.le_of_ble_eq_true hj)) bd (fun σ => passAt tk σ) hb ?_
  refine h X S F σ H A _ fun x L1 v F1 H1 k1 A1 r1 s1 => ?_
  refine k1 X S F1 σ H1 A1 _ fun y L2 u F2 H2 k2 A2 r2 s2 => ?_
  obtain ⟨fs, gs, ho1, ho2, ha⟩ := k2
  have r1' := r1.mono s2
  have z := ha.tsp A2 (.cons r1' (.cons r2 .nil)) hk (Q := Q) fun d L' v F' H' k' A' r' s' => q d L' v F' H' k' A' r' ((s1.trans s2).trans s')
  rw [S.ok.eK] at z
  obtain ⟨p, dx, ws, rfl, e1, _⟩ := ho1.get A2 r1'
  obtain ⟨p2, dx2, ws2, rfl, e2, _⟩ := ho2.get A2 r2
  exact ⟨p, p2, dx, dx2, ws, ws2, rfl, rfl, e1, e2, z⟩
end
end TL
namespace TL
open PySem L2 PySem.Spec PyProof.Rows
section
variable {κ : Type} [DecidableEq κ]
theorem keys_put (l : List (κ × D)) (k : κ) (d : D) : (putE l k d).map (·.1) = if k ∈ l.map (·.1) then l.map (·.1) else l.map (·.1) ++ [k] := by
  unfold putE
  have e : (l.any fun kv => decide (kv.1 = k)) = decide (k ∈ l.map (·.1)) := by
    refine Bool.eq_iff_iff.mpr ⟨fun h => ?_, fun h => ?_⟩
    · obtain ⟨x, hx, q⟩ := List.any_eq_true.mp h
      exact decide_eq_true (List.mem_map.mpr ⟨x, hx, of_decide_eq_true q⟩)
    · obtain ⟨x, hx, q⟩ := List.mem_map.mp (of_decide_eq_true h)
      exact List.any_eq_true.mpr ⟨x, hx, decide_eq_true q⟩
  rw [e]
  by_cases h : k ∈ l.map (·.1)
  · rw [decide_eq_true h, if_pos rfl, if_pos h, List.map_map]
    refine List.map_congr_left fun x _ => ?_
    show (if x.1 = k then (x.1, d) else x).1 = x.1
    split <;> rfl
  · rw [decide_eq_false h, if_neg Bool.false_ne_true, if_neg h, List.map_append]
    rfl
abbrev fillE (l acc : List (κ × D)) : List (κ × D) := l.foldl (fun acc kv => putE acc kv.1 kv.2) acc
theorem fill_keys : ∀ (l acc : List (κ × D)), (acc.map (·.1)).Nodup → ((fillE l acc).map (·.1)).Nodup ∧ ∀ k, k ∈ (fillE l acc).map (·.1) ↔ k ∈ acc.map (·.1) ∨ k ∈ l.map (·.1)
  | [], acc, h => ⟨h, fun k => by simp⟩
  | x :: l, acc, h => by
    have e := keys_put acc x.1 x.2
    have nd : ((putE acc x.1 x.2).map (·.1)).Nodup := by
      rw [e]
      split
      · exact h
      · rename_i q
        exact List.nodup_append.mpr ⟨h, List.nodup_cons.mpr ⟨(fun z => nomatch z), List.nodup_nil⟩, fun a ha b hb z => q (by rw [List.mem_singleton.mp hb] at z; exact z ▸ ha)⟩
    obtain ⟨h1, h2⟩ := fill_keys l (putE acc x.1 x.2) nd
    refine ⟨h1, fun k => (h2 k).trans ?_⟩
    rw [e, List.map_cons, List.mem_cons]
    split
    · rename_i q
      constructor
      · rintro (z | z)
        · exact .inl z
        · exact .inr (.inr z)
      · rintro (z | z | z)
        · exact .inl z
        · rw [z]; exact .inl q
        · exact .inr z
    · rw [List.mem_append, List.mem_singleton]
      constructor
      · rintro ((z | z) | z)
        · exact .inl z
        · exact .inr (.inl z)
        · exact .inr (.inr z)
      · rintro (z | z | z)
        · exact .inl (.inl z)
        · exact .inl (.inr z)
        · exact .inr z
theorem fill_len : ∀ (l acc : List (κ × D)), (fillE l acc).length ≤ acc.length + l.length
  | [], acc => Nat.le_refl _
  | x :: l, acc => by
    have h := fill_len l (putE acc x.1 x.2)
    have e := congrArg List.length (keys_put acc x.1 x.2)
    rw [List.length_map] at e
    have : (putE acc x.1 x.2).length ≤ acc.length + 1 := by
      rw [e]
      split
      · rw [List.length_map]; omega
      · rw [List.length_append, List.length_map]; exact Nat.le_refl _
    rw [List.length_cons]
    show (fillE l (putE acc x.1 x.2)).length ≤ _
    omega
end
section
variable {M : Mode} {G : List (Option D)} {L : Led} {K : D → Led → Prop} {pos : Pos}
/-- {k: v for ..}, keys tuples that may come again -/
theorem dct_dup {α : Type} (xs : List α) (g : α → D) (kv : α → List Key × D) {vs : List Nat} {scope : Scope} {kx vx tg : Expr} {src : Led} {items : List D} {L1 : Led} (he : items = xs.map g) (hsz : xs.length < sizeLine) (hsrc : ∀ s ∈ src, s ∈ L1)
    (turn : ∀ F1 Dl x acc, x ∈ xs → TgtN ((M.fix F1).blk scope) (wipeG G vs) ((Dl, .dT acc) :: L1) vs tg (g x) fun G2 => Ev ((M.fix F1).blk scope) G2 ((Dl, .dT acc) :: L1) kx fun y L3 => Ev ((M.fix F1).blk scope) G2 L3 vx fun z L4 =>
      y = .tup (kD (kv x).1) ∧ z = (kv x).2 ∧ ((Dl, OW.dT acc) :: L1).Sublist L4)
    (hk : ∀ Dl, K (.ref Dl) ((Dl, .dT (fillE (xs.map kv) [])) :: L1)) : DctInv M G vs scope kx vx tg [] src items L1 K := by
  subst he
  refine ⟨fun i acc L' => i ≤ xs.length ∧ L' = L1 ∧ acc = fillE ((xs.take i).map kv) [], ⟨Nat.zero_le _, rfl, rfl⟩, ?_, ?_, ?_⟩
  · rintro i acc L' ⟨h1, rfl, rfl⟩
    refine ⟨hsrc, Nat.lt_of_le_of_lt (fill_len _ _) ?_⟩
    rw [List.length_nil, Nat.zero_add, List.length_map, List.length_take]
    omega
  · rintro F1 Dl i d acc L' hd ⟨h1, rfl, rfl⟩
    obtain ⟨x, _, rfl, hm, hlt, tk⟩ := take_map hd
    intro X S F σ H v A r Q q
    refine turn F1 Dl x _ hm X S F σ H v A r Q fun G' σ' k A' w => q G' σ' ?_ A' w
    refine ⟨fun _ => ?_, (fun h => nomatch h)⟩
    refine k.imp fun y L3 k1 => k1.imp fun z L4 k2 => ?_
    obtain ⟨ey, ez, sub⟩ := k2
    refine ⟨_, L', ey, sub, hlt, rfl, ?_⟩
    rw [ez, tk, List.map_append]
    unfold fillE
    rw [List.foldl_append]
    rfl
  · rintro acc L' ⟨_, rfl, rfl⟩ Dl
    rw [List.length_map, List.take_length]
    exact hk Dl
def addO (ns : List Int) : List Int := ns.map (· + 1)
/-- a rank of the tuples, the least number being -1 -/
def rkT (B : Int) (ns : List Int) : Int := TS.code B (addO ns)
end
section
variable {prog : Program} {w : World} {A : Around} {E : Value → Shared → Prop} {s : Shared} {Q : Bool → Shared → Prop}
theorem lex_up {B : Int} {b : Bool} : ∀ {ns : List Int} {xs : List Value}, IntsAre xs ns → ∀ {ms : List Int} {ys : List Value} (i : Nat), IntsAre ys ms → ns.length = ms.length → TS.Bd B (addO ns) → TS.Bd B (addO ms) → Q (decide (rkT B ns < rkT B ms)) s → PySem.W.KatLex prog w A b false Q (xs.zip ys) i s
  | [], _, .nil, [], _, i, .nil, _, _, _, h => PySem.W.kat_nil (by rw [decide_eq_false (Int.lt_irrefl _)] at h; exact h)
  | _ :: _, _, .cons _ _ _, [], _, _, _, hl, _, _, _ => by cases hl
  | [], _, _, _ :: _, _, _, _, hl, _, _, _ => by cases hl
  | p :: ns, _, .cons _ t hx, q :: ms, _, i, .cons _ u hy, hl, b1, b2, h => by
    have hl' : ns.length = ms.length := Nat.succ.inj hl
    have hl2 : (addO ns).length = (addO ms).length := by unfold addO; rw [List.length_map, List.length_map]; exact hl'
    refine PySem.W.kat_cons (wpAny_eqBool_int ?_)
    by_cases e : p = q
    · subst e
      rw [beq_self_eq_true]
      refine PySem.W.kat_yes (lex_up hx (i + 1) hy hl' b1.tail b2.tail ?_)
      rw [decide_eq_decide.mpr (show rkT B (p :: ns) < rkT B (p :: ms) ↔ rkT B ns < rkT B ms from TS.code_same hl2)] at h
      exact h
    · rw [show (p == q) = false from beq_eq_false_iff_ne.mpr e]
      refine PySem.W.kat_no (TS.oneLt_ints _ ?_)
      have up : ∀ {x y : Int} {as bs : List Int}, (addO as).length = (addO bs).length → TS.Bd B (addO as) → TS.Bd B (addO bs) → x < y → rkT B (x :: as) < rkT B (y :: bs) := fun l h1 h2 z => TS.code_lt l h1 h2 (Int.add_lt_add_right z 1)
      rw [decide_eq_decide.mpr ⟨fun z => ?_, fun z => up hl2 b1.tail b2.tail z⟩] at h
      · exact h
      · rcases Int.lt_or_gt_of_ne e with y | y
        · exact y
        · exact absurd (up hl2.symm b2.tail b1.tail y) (by omega)
/-- tuples of d + 1 numbers, each from -1 on and less than B - 1 -/
def TupsU (h : Heap) (d : Nat) (B : Int) (vs : List Value) : Prop := ∀ v ∈ vs, ∃ ns, TS.TupInts h v ns ∧ ns.length = d + 1 ∧ TS.Bd B (addO ns)
theorem heads_of {h : Heap} {d : Nat} {B : Int} : ∀ {vs : List Value}, TupsU h d B vs → ∃ fs, PySem.W.KatTups h vs fs ∧ fs.length = vs.length ∧ ∀ f ∈ fs, ∃ n t, f = Value.int n t
  | [], _ => ⟨[], .nil, rfl, (fun _ z => nomatch z)⟩
  | v :: vs, x => by
    obtain ⟨fs, k, l, a⟩ := heads_of (vs := vs) fun u hu => x u (List.mem_cons_of_mem _ hu)
    obtain ⟨ns, ⟨b, xs, rfl, ⟨o, ho, hc, n, hd⟩, i⟩, hn, _⟩ := x v List.mem_cons_self
    obtain ⟨xs⟩ := xs
    have i2 : IntsAre xs ns := i
    cases i2 with
    | nil => cases hn
    | @cons m t ys ms j => exact ⟨_ :: fs, .cons ho hc hd rfl k, congrArg Nat.succ l, fun f hf => (List.mem_cons.mp hf).elim (fun z => ⟨m, t, z⟩) (a f)⟩
theorem sort_up {a : Addr} {vs : List Value} {n d : Nat} {B : Int} {P : PySem.Fin → Shared → Prop} (ho : s.heap.get? a = some (seqObj "list" vs.toArray n)) (h64 : vs.length < 64) (x : TupsU s.heap d B vs)
    (h : ∀ out : Array Value, out.toList.Perm vs → P (.done (.ret .none)) { s with heap := sortedHeap s.heap a vs out }) : wpAny (model prog w) A (Builtin.«list.sort» ⟨[.ref a], []⟩) P E s := by
  have keep : ∀ b o, s.heap.get? b = some o → o.cls = .type "tuple" → (TS.midHeap s.heap a vs).get? b = some o := by
    intro b o e hc
    by_cases q : b = a
    · subst q
      rw [e] at ho
      cases ho
      exact absurd (Value.type.inj hc) (by decide)
    · exact TS.midHeap_old q e
  have x2 : TupsU (TS.midHeap s.heap a vs) d B vs := fun v hv => let ⟨ns, t, l⟩ := x v hv; ⟨ns, t.keeps keep, l⟩
  refine SK.plain_sort (r := fun v => rkT B (TS.intsOf (TS.midHeap s.heap a vs) v)) ho h64 (fun h2 Q hQ => ?_) fun ps out h1 h2 h3 => h out (TS.out_rank (r := fun v => rkT B (TS.intsOf (TS.midHeap s.heap a vs) v)) h1 h2 h3).1
  obtain ⟨fs, k, hl, hi⟩ := heads_of x2
  refine PySem.W.kat_kind (T := Value.type "int") k (by omega) (fun f hf => ?_) rfl (hQ _ ?_)
  · obtain ⟨m, t, rfl⟩ := hi f hf
    exact PySem.W.Looks.of_pure rfl
  · intro p q hp hq Q' E' hQ'
    rw [pairsOf_toList] at hp hq
    obtain ⟨ns, tp, lp, bp⟩ := x2 _ (mem_zip_self hp).2
    obtain ⟨ms, tq, lq, bq⟩ := x2 _ (mem_zip_self hq).2
    have ep := tp.ints
    have eq2 := tq.ints
    obtain ⟨p1, p2⟩ := p
    obtain ⟨q1, q2⟩ := q
    have e1 : p1 = p2 := (mem_zip_self hp).1
    have e2 : q1 = q2 := (mem_zip_self hq).1
    subst e1 e2
    have hQ2 : Q' (decide (rkT B ns < rkT B ms)) { s with heap := TS.midHeap s.heap a vs } := by rw [← ep, ← eq2]; exact hQ'
    obtain ⟨a1, xs, rfl, ⟨o, ho, hc, n, hdt⟩, i⟩ := tp
    obtain ⟨a2, ys, rfl, ⟨o', ho', hc', n', hdt'⟩, i'⟩ := tq
    refine PySem.W.kat_lt ho hdt ho' hdt' ?_
    have l1 := i.length
    have l2 := i'.length
    rw [Array.length_toList] at l1 l2
    rw [decide_eq_false (by omega)]
    exact lex_up i 0 i' (by omega) bp bq hQ2
end
theorem perm_map_ex {α β : Type} {f : α → β} : ∀ {l : List α} {m : List β}, m.Perm (l.map f) → ∃ l' : List α, l'.Perm l ∧ m = l'.map f
  | [], m, h => ⟨[], .nil, h.eq_nil⟩
  | a :: l, m, h => by
    obtain ⟨m1, m2, rfl⟩ := List.append_of_mem (h.mem_iff.mpr (List.mem_cons_self (a := f a) (l := l.map f)))
    have h2 : (m1 ++ m2).Perm (l.map f) := (List.perm_middle.symm.trans h).cons_inv
    obtain ⟨l', h3, h4⟩ := perm_map_ex h2
    obtain ⟨l1, l2, rfl, rfl, rfl⟩ := List.map_eq_append_iff.mp h4.symm
    exact ⟨l1 ++ a :: l2, List.perm_middle.trans (.cons _ h3), by rw [List.map_append, List.map_cons]⟩
abbrev isK (e : List Int) : List Key := e.map Sum.inl
theorem isK_kV (e : List Int) : (isK e).map kV = e.map V.int := by rw [List.map_map]; rfl
theorem rows_at {H : Hp} : ∀ {kvs : List (List Key × V)} {ks : List (List Key × Addr × Value)} {es : List (List Int)}, KT H kvs ks → kvs.map (·.1) = es.map isK →
    ∃ T : List (List Int × Addr), T.map (·.1) = es ∧ ks.map (fun x => Value.ref x.2.1) = T.map (fun e => Value.ref e.2) ∧ ∀ e ∈ T, H e.2 = some (.tup (e.1.map V.int))
  | _, _, [], .nil, _ => ⟨[], rfl, rfl, (fun _ z => nomatch z)⟩
  | _, _, _ :: _, .nil, h => by cases h
  | _, _, [], .cons _ _, h => by cases h
  | kv :: kvs, x :: ks, e :: es, .cons r t, h => by
    obtain ⟨h1, h2⟩ := List.cons.inj h
    obtain ⟨T, t1, t2, t3⟩ := rows_at t h2
    refine ⟨(e, x.2.1) :: T, by rw [List.map_cons, t1], by rw [List.map_cons, List.map_cons, t2], fun y hy => ?_⟩
    rcases List.mem_cons.mp hy with rfl | hy
    · have := r.2.1
      rw [show kv.1 = isK e from h1, isK_kV] at this
      exact this
    · exact t3 y hy
theorem call_sortedU {X : Cx} (hcalm : X.calm = true) : CallR X (.builtin "sorted") (fun xs H Q => ∃ (a : Addr) (kvs : List (List Key × V)) (es : List (List Int)) (d : Nat) (B : Int), xs = [.ref a] ∧ Rd H a (.dT kvs) ∧ kvs.map (·.1) = es.map isK ∧ es.length < 64 ∧ (∀ e ∈ es, e.length = d + 1 ∧ TS.Bd B (addO e)) ∧
    ∀ (T : List (List Int × Addr)) p, (T.map (·.1)).Perm es → (∀ e ∈ T, H e.2 = some (.tup (e.1.map V.int))) → H p = none → Q (.ref p) (upd H p (.lst (T.map fun e => V.ref e.2)))) := by
  intro pins s σ H xs us Q I r h
  obtain ⟨a, kvs, es, d, B, rfl, hd, hk, h64, hes, q⟩ := h
  obtain ⟨u, rfl, rx⟩ := vals1 r
  cases rx
  obtain ⟨z, lo, ks, pr, o, en, ep, ho, hx, hdt, he, hn⟩ := (show ObjOk X.prog X.w H s.heap a (.dT kvs) from hd.ok I.hok)
  have l1 : en.size = ks.length := size_of_entries he
  have l2 : kvs.length = ks.length := Paired.length pr
  obtain ⟨T, t1, t2, t3⟩ := rows_at pr hk
  have lT : T.length = es.length := by rw [← t1, List.length_map]
  refine Calls.call_function_entry kind_sorted plain_sorted entry_sorted (args_sorted1 _) ?_
  unfold Builtin.«sorted»
  refine wpAny_bind (m := checkCount "sorted" 1 1 _) (wpAny_pure (wpAny_bind (PySem.W.kdu_collect (A := X.A.in1) (kdl_raw lo hx hdt) (I.ok.hd hcalm) ho (by omega) fun h' tk acc kp it => ?_)))
  have ea : acc.toList = T.map fun e => Value.ref e.2 := (ref_keys he l1 it).trans t2
  have lz : acc.toList.length < 64 := by rw [ea, List.length_map, lT]; exact h64
  have I1 : Inv X pins σ H { s with heap := h', toks := tk } := I.kept kp
  have keepL : ∀ b o, h'.get? b = some o → (h'.push (seqObj "list" acc.toList.toArray 0)).get? b = some o := fun b o e => Heap.get?_push_of_some _ e
  have hoL : (h'.push (seqObj "list" acc.toList.toArray 0)).get? h'.objs.size = some (seqObj "list" acc.toList.toArray 0) := Heap.get?_push_size _ rfl
  have tups : TupsU (h'.push (seqObj "list" acc.toList.toArray 0)) d B acc.toList := by
    intro v hv
    rw [ea] at hv
    obtain ⟨e, he2, rfl⟩ := List.mem_map.mp hv
    have hm : e.1 ∈ es := by rw [← t1]; exact List.mem_map.mpr ⟨e, he2, rfl⟩
    obtain ⟨b1, b2⟩ := hes _ hm
    exact ⟨e.1, (tupI_raw I1 (.inl (.inl (t3 e he2)))).keeps fun b o g _ => keepL b o g, b1, b2⟩
  refine wpAny_bind (wpAny_newList ?_ (by rw [sizeLine_eq]; omega))
  show wpAny _ _ _ _ _ { s with heap := h'.push (seqObj "list" acc.toList.toArray 0), toks := tk }
  refine wpAny_bind (wpAny_holding (wpAny_call_entry slot_list_sort ⟨_, hoL, rfl⟩ entry_list_sort (sort_up (s := { s with heap := h'.push (seqObj "list" acc.toList.toArray 0), toks := tk }) hoL lz tups fun out pm => ⟨_, rfl, ?_⟩) (args_list_sort _)))
  rw [ea] at pm
  obtain ⟨T', p1, p2⟩ := perm_map_ex pm
  obtain ⟨c, hc⟩ := sortedHeap_at (vs := acc.toList) (out := out) hoL
  have rv : Vals (T'.map fun e => V.ref e.2) out.toList := by
    rw [p2, show (T'.map fun e => Value.ref e.2) = (T'.map fun e => e.2).map Value.ref by rw [List.map_map]; rfl, show (T'.map fun e => V.ref e.2) = (T'.map fun e => e.2).map V.ref by rw [List.map_map]; rfl]
    exact vals_refs _
  refine wpAny_pure ⟨_, rfl, .ref h'.objs.size, upd H h'.objs.size (.lst (T'.map fun e => V.ref e.2)), I1.laid (t' := tk) (fun b u e => ?_) (Nat.le_refl _) ⟨by rw [List.length_map, p1.length_eq, lT, sizeLine_eq]; omega, out.toList, c, rv, by rw [Array.toArray_toList]; exact hc⟩, rfl, q T' _ (by rw [← t1]; exact p1.map _) (fun e he2 => t3 e (p1.mem_iff.mp he2)) (I1.hok.fresh (Nat.le_refl _))⟩
  have hb : b < h'.objs.size := Heap.lt_size e
  rw [sortedHeap_old (Nat.ne_of_lt hb) (by rw [size_push']; exact Nat.lt_succ_of_lt hb)]
  exact keepL _ _ e
section
variable {M : Mode} {G : List (Option D)} {L : Led} {K : D → Led → Prop} {pos : Pos}
abbrev intsD (e : List Int) : D := .tup (e.map D.int)
theorem reps_ints {Kk : PySem.W.Frag} {F : Hp} : ∀ e : List Int, RepA Kk F (e.map D.int) (e.map V.int)
  | [] => .nil
  | _ :: e => .cons (.v _) (reps_ints e)
theorem ice_rows {Kk : PySem.W.Frag} {H0 F0 H : Hp} {σ : L2.St} : ∀ {T : List (List Int × Addr)} {F : Hp}, (∀ e ∈ T, H e.2 = some (.tup (e.1.map V.int))) → At Kk H0 F0 G L F σ H → ∃ F', At Kk H0 F0 G L F' σ H ∧ Same F F' ∧ RepA Kk F' (T.map fun e => intsD e.1) (T.map fun e => V.ref e.2)
  | [], F, _, A => ⟨F, A, Same.refl _, .nil⟩
  | e :: T, F, h, A => by
    obtain ⟨F1, A1, s1, r1⟩ := At.iceT (ds := e.1.map D.int) A (h e List.mem_cons_self) (reps_ints e.1)
    obtain ⟨F2, A2, s2, r2⟩ := ice_rows (T := T) (fun y hy => h y (List.mem_cons_of_mem _ hy)) A1
    exact ⟨F2, A2, s1.trans s2, .cons (r1.mono s2) r2⟩
theorem cv_sortedU (hc : M.C.cm = true) {x : D} {kvs : List (List Key × D)} {es : List (List Int)} {d : Nat} {B : Int} (hx : IsTT L x kvs) (hk : kvs.map (·.1) = es.map isK) (h64 : es.length < 64) (hes : ∀ e ∈ es, e.length = d + 1 ∧ TS.Bd B (addO e))
    (h : ∀ p (es' : List (List Int)), es'.Perm es → K (.ref p) ((p, .lst (es'.map intsD)) :: L)) : CallV M G L (.builtin "sorted") [x] K := by
  intro X S F σ H vs A r Q q
  obtain ⟨v, rfl, rr⟩ := reps1 r
  obtain ⟨p, ws, rfl, h1, h2⟩ := hx.get A rr
  refine ⟨_, call_sortedU (S.ok.calm hc), p, ws, es, d, B, rfl, h1, by rw [← h2.same]; exact hk, h64, hes, fun T l pm hT hl => ?_⟩
  obtain ⟨F1, A1, s1, r1⟩ := ice_rows hT A
  have e : (T.map fun e => intsD e.1) = (T.map (·.1)).map intsD := by rw [List.map_map]; rfl
  rw [e] at r1
  exact q _ _ _ F1 _ (h l _ pm) (A1.new hl (.lst upd_same r1)) (.v _) s1
theorem ev_indexD (hc : M.C.cm = true) {apos : Pos} {o e : Expr} (h : Ev M G L o fun x L1 => ∃ xs : List D, IsL L1 x xs ∧ Ev M G L1 e fun d L2 => ∃ (y : PyData) (ys : List PyData) (j : Nat) (z : PyData), PyOf L2 x (.list ys) ∧ PyOf L2 d y ∧ SeqAt.shaped (.list ys) = true ∧ SeqAt.shaped y = true ∧ ys[j]? = some z ∧ PyData.eqv z y = true ∧ (∀ (m : Nat) (z' : PyData), m < j → ys[m]? = some z' → PyData.eqv z' y = false) ∧ K (.int j) L2)
    (hbase : ∀ X : Cx, attributeBase o "index" X.env (eval o X.env) = eval o X.env := by intro _; rfl)
    (hfew : ∀ X : Cx, ((backTo pos (starEach [e] X.env)).all (fun x => !x.1) && (backToKw pos (keywordEach [] X.env)).all (fun x => x.1.isSome) && decide (([e] : List Expr).length + ([] : List Keyword).length + (if ([] : List Keyword).isEmpty then 0 else 1) < 30)) = true := by intro _; rfl)
    (hline : (apos.endLine == pos.line) = true := by rfl) (hs : ∀ X : Cx, starEach [e] X.env = (false, eval e X.env) :: starEach [] X.env := by intro _; rfl) : Ev M G L (.Call (.Attribute o "index" apos) [e] [] pos) K := by
  refine ev_bm PySem.F.plainAttrs_list PySem.F.slot_list_index PySem.F.type_list_index (h.imp fun x L1 ⟨xs, hx, h2⟩ => ?_) hbase hfew hline hs
  refine ⟨ty_lst hx, ea_cons (h2.imp fun d L2 ⟨y, ys, j, z, p1, p2, f1, f2, f3, f4, f5, hk⟩ => ea_nil ?_) hs⟩
  intro X S F σ H u vs A r rs Q q
  obtain ⟨v, rfl, rv⟩ := reps1 rs
  have d1 := PyOf.dp A (.list ys) x u p1 r
  have d2 := PyOf.dp A y d v p2 rv
  have ty : ∃ p, u = .ref p := by cases d1; exact ⟨_, rfl⟩
  obtain ⟨p, rfl⟩ := ty
  exact ⟨_, mt_indexD (sit_65 S hc), p, v, y, ys, j, z, rfl, rfl, by rw [← S.ok.eK]; exact d1, by rw [← S.ok.eK]; exact d2, f1, f2, f3, f4, f5, q _ L2 _ F H hk A (.v _) (Same.refl _)⟩
end
end TL
open PySem L2 TL
local macro_rules | `(tactic| wtm_at "nm") => `(tactic| first | exact List.Mem.head _ | (refine List.Mem.tail _ ?_; wtm_at "nm"))
local macro_rules | `(tactic| wtm_at "lk") => `(tactic| first | with_reducible exact Look.here | (refine Look.there ?_; wtm_at "lk"))
local macro_rules | `(tactic| wtm_at "pt") => `(tactic| first | with_reducible exact Put.here | with_reducible exact Put.there (Put.here) | with_reducible exact Put.there (Put.there (Put.here)) | with_reducible exact Put.there (Put.there (Put.there (Put.here))) | with_reducible exact Put.there (Put.there (Put.there (Put.there (Put.here)))) | with_reducible exact Put.there (Put.there (Put.there (Put.there (Put.there (Put.here))))) | with_reducible exact Put.there (Put.there (Put.there (Put.there (Put.there (Put.there (Put.here)))))) | with_reducible exact Put.there (Put.there (Put.there (Put.there (Put.there (Put.there (Put.there (Put.here))))))) | with_reducible exact Put.there (Put.there (Put.there (Put.there (Put.there (Put.there (Put.there (Put.there (Put.here)))))))) | with_reducible exact Put.there (Put.there (Put.there (Put.there (Put.there (Put.there (Put.there (Put.there (Put.there (Put.here))))))))) | with_reducible exact Put.there (Put.there (Put.there (Put.there (Put.there (Put.there (Put.there (Put.there (Put.there (Put.there (Put.here)))))))))) | with_reducible exact Put.there (Put.there (Put.there (Put.there (Put.there (Put.there (Put.there (Put.there (Put.there (Put.there (Put.there (Put.here))))))))))) | with_reducible exact Put.there (Put.there (Put.there (Put.there (Put.there (Put.there (Put.there (Put.there (Put.there (Put.there (Put.there (Put.there (Put.here)))))))))))) | with_reducible exact Put.there (Put.there (Put.there (Put.there (Put.there (Put.there (Put.there (Put.there (Put.there (Put.there (Put.there (Put.there (Put.there (Put.here))))))))))))) | with_reducible exact Put.there (Put.there (Put.there (Put.there (Put.there (Put.there (Put.there (Put.there (Put.there (Put.there (Put.there (Put.there (Put.there (Put.there (Put.here)))))))))))))) | with_reducible exact Put.there (Put.there (Put.there (Put.there (Put.there (Put.there (Put.there (Put.there (Put.there (Put.there (Put.there (Put.there (Put.there (Put.there (Put.there (Put.here))))))))))))))) | with_reducible exact Put.there (Put.there (Put.there (Put.there (Put.there (Put.there (Put.there (Put.there (Put.there (Put.there (Put.there (Put.there (Put.there (Put.there (Put.there (Put.there (Put.here)))))))))))))))) | with_reducible exact Put.there (Put.there (Put.there (Put.there (Put.there (Put.there (Put.there (Put.there (Put.there (Put.there (Put.there (Put.there (Put.there (Put.there (Put.there (Put.there (Put.there (Put.here))))))))))))))))) | with_reducible exact Put.there (Put.there (Put.there (Put.there (Put.there (Put.there (Put.there (Put.there (Put.there (Put.there (Put.there (Put.there (Put.there (Put.there (Put.there (Put.there (Put.there (Put.there (Put.here)))))))))))))))))) | with_reducible exact Put.there (Put.there (Put.there (Put.there (Put.there (Put.there (Put.there (Put.there (Put.there (Put.there (Put.there (Put.there (Put.there (Put.there (Put.there (Put.there (Put.there (Put.there (Put.there (Put.here))))))))))))))))))) | with_reducible exact Put.there (Put.there (Put.there (Put.there (Put.there (Put.there (Put.there (Put.there (Put.there (Put.there (Put.there (Put.there (Put.there (Put.there (Put.there (Put.there (Put.there (Put.there (Put.there (Put.there (Put.here)))))))))))))))))))) | with_reducible exact Put.there (Put.there (Put.there (Put.there (Put.there (Put.there (Put.there (Put.there (Put.there (Put.there (Put.there (Put.there (Put.there (Put.there (Put.there (Put.there (Put.there (Put.there (Put.there (Put.there (Put.there (Put.here))))))))))))))))))))) | with_reducible exact Put.there (Put.there (Put.there (Put.there (Put.there (Put.there (Put.there (Put.there (Put.there (Put.there (Put.there (Put.there (Put.there (Put.there (Put.there (Put.there (Put.there (Put.there (Put.there (Put.there (Put.there (Put.there (Put.here)))))))))))))))))))))) | with_reducible exact Put.there (Put.there (Put.there (Put.there (Put.there (Put.there (Put.there (Put.there (Put.there (Put.there (Put.there (Put.there (Put.there (Put.there (Put.there (Put.there (Put.there (Put.there (Put.there (Put.there (Put.there (Put.there (Put.there (Put.here))))))))))))))))))))))) | with_reducible exact Put.there (Put.there (Put.there (Put.there (Put.there (Put.there (Put.there (Put.there (Put.there (Put.there (Put.there (Put.there (Put.there (Put.there (Put.there (Put.there (Put.there (Put.there (Put.there (Put.there (Put.there (Put.there (Put.there (Put.there (Put.here)))))))))))))))))))))))) | with_reducible exact Put.there (Put.there (Put.there (Put.there (Put.there (Put.there (Put.there (Put.there (Put.there (Put.there (Put.there (Put.there (Put.there (Put.there (Put.there (Put.there (Put.there (Put.there (Put.there (Put.there (Put.there (Put.there (Put.there (Put.there (Put.there (Put.here))))))))))))))))))))))))))
local macro_rules | `(tactic| wtm_at "ch") => `(tactic| first | with_reducible exact Chg.here | with_reducible exact Chg.there (Chg.here) | with_reducible exact Chg.there (Chg.there (Chg.here)) | with_reducible exact Chg.there (Chg.there (Chg.there (Chg.here))) | with_reducible exact Chg.there (Chg.there (Chg.there (Chg.there (Chg.here)))) | with_reducible exact Chg.there (Chg.there (Chg.there (Chg.there (Chg.there (Chg.here))))) | with_reducible exact Chg.there (Chg.there (Chg.there (Chg.there (Chg.there (Chg.there (Chg.here)))))) | with_reducible exact Chg.there (Chg.there (Chg.there (Chg.there (Chg.there (Chg.there (Chg.there (Chg.here))))))))
local macro_rules | `(tactic| wtm_at "bn") => `(tactic| first | with_reducible exact bn_len | with_reducible exact bn_isinstance | with_reducible exact bn_int | with_reducible exact bn_str | with_reducible exact bn_tuple | with_reducible exact bn_list | with_reducible exact bn_all | with_reducible exact bn_any | with_reducible exact bn_min | with_reducible exact bn_max | with_reducible exact bn_dict | with_reducible exact bn_sum | with_reducible exact bn_sorted | with_reducible exact bn_bool)
local macro_rules | `(tactic| wtm_at "nv") => `(tactic| first | (with_reducible assumption) | exact (by kernel_rfl))
local macro_rules | `(tactic| wtm_at "vs") => `(tactic| first | with_reducible exact visL_mem (by with_reducible assumption) (by wtm_at "nm") | exact (by kernel_rfl))
local macro_rules | `(tactic| wtm_at "vis") => `(tactic| exact vis_of (by kernel_rfl))
local macro_rules | `(tactic| wtm_at "gl") => `(tactic| exact gl_by (by kernel_rfl))
local macro_rules | `(tactic| wtm_at "bt") => `(tactic| first | with_reducible exact boot_len | with_reducible exact PyProof.Rows.boot_isinstance | with_reducible exact PyProof.Rows.boot_int | with_reducible exact PyProof.Rows.boot_str | with_reducible exact PyProof.Rows.boot_all | with_reducible exact PyProof.Rows.boot_any | with_reducible exact PyProof.Rows.boot_bool | with_reducible exact PyProof.Rows.boot_tuple | with_reducible exact PyProof.Rows.boot_list | with_reducible exact PyProof.Rows.boot_dict | with_reducible exact PyProof.Rows.boot_max | with_reducible exact PyProof.Rows.boot_min | with_reducible exact PyProof.Rows.boot_sum | with_reducible exact PyProof.Rows.boot_sorted)
local macro_rules | `(tactic| wtm_at "bty") => `(tactic| first | with_reducible exact PyProof.Rows.boot_int | with_reducible exact PyProof.Rows.boot_str | with_reducible exact PyProof.Rows.boot_bool | with_reducible exact PyProof.Rows.boot_tuple | with_reducible exact PyProof.Rows.boot_list | with_reducible exact PyProof.Rows.boot_dict)
local macro_rules | `(tactic| wtm_at "loc") => `(tactic| exact loc_of (by kernel_rfl))
local macro_rules | `(tactic| wtm_at "mem") => `(tactic| exact mem_of (by kernel_rfl))
local macro_rules | `(tactic| wtm_at "isl") => `(tactic| first | exact IsL.frz | exact IsL.own (by wtm_at "nm"))
local macro_rules | `(tactic| wtm_at "isk") => `(tactic| first | exact IsK.frz | exact IsK.own (by wtm_at "nm"))
local macro_rules | `(tactic| wtm_at "iso") => `(tactic| first | exact IsO.frz | exact IsO.own (by wtm_at "nm"))
local macro_rules | `(tactic| wtm_at "isq") => `(tactic| first | exact IsSq.tup | exact IsSq.lst (by wtm_at "isl"))
local macro_rules | `(tactic| wtm_at "bi") => `(tactic| exact Bi.h (by assumption) (by kernel_rfl))
/-- leaves and forms of expressions -/
local macro_rules | `(tactic| wtm_at "st1") => `(tactic| (intro _; rfl))
local macro_rules | `(tactic| wtm_at "kr") => `(tactic| exact (by kernel_rfl))
local macro_rules | `(tactic| wtm_at "nam") => `(tactic| ((show TL.Ev _ _ _ (Expr.Name _ _) _); first
  | (apply ev_nameV; (focus wtm_at "lk"); (focus wtm_at "nv"); (focus wtm_at "vs"))
  | (apply ev_gvalA; (focus with_reducible assumption); (focus wtm_at "gl"); (focus wtm_at "kr"))
  | (apply ev_gtupA; (focus with_reducible assumption); (focus wtm_at "gl"); (focus wtm_at "kr"))
  | (apply ev_tynN; (focus wtm_at "bn"); (focus wtm_at "gl"); (focus with_reducible assumption); (focus wtm_at "bty"))))
local macro_rules | `(tactic| wtm_at "cll") => `(tactic| ((show TL.Ev _ _ _ (Expr.Call (Expr.Name _ _) _ _ _) _); first
  | (apply ev_bltA; (focus wtm_at "bn"); (focus wtm_at "gl"); (focus with_reducible assumption); (focus wtm_at "bt"); (focus wtm_at "st1"); (focus wtm_at "st1"))
  | (apply ev_bltyA; (focus wtm_at "bn"); (focus wtm_at "gl"); (focus with_reducible assumption); (focus wtm_at "bty"); (focus wtm_at "st1"); (focus wtm_at "st1"))
  | (apply ev_callA; (focus with_reducible assumption); (focus rfl); (focus rfl); (focus wtm_at "gl"); (focus wtm_at "kr"); (focus wtm_at "st1"); (focus wtm_at "st1"))
  | (apply ev_makeA; (focus with_reducible assumption); (focus rfl); (focus rfl); (focus wtm_at "gl"); (focus wtm_at "kr"); (focus wtm_at "st1"); (focus wtm_at "st1"))))
local macro_rules | `(tactic| wtm_at "mtl") => `(tactic| ((show TL.Ev _ _ _ (Expr.Call (Expr.Attribute _ _ _) _ _ _) _); first
  | (apply ev_meth0A; (focus with_reducible assumption); (focus with_reducible assumption); (focus rfl); (focus rfl); (focus wtm_at "st1"))
  | (apply ev_methA; (focus with_reducible assumption); (focus with_reducible assumption); (focus rfl); (focus rfl); (focus wtm_at "st1"); (focus wtm_at "st1"); (focus wtm_at "st1"))))
local macro_rules | `(tactic| wtm_at "ev") => `(tactic| ((with_reducible first | show TL.Ev _ _ _ _ _ | show TL.EvA _ _ _ _ _); first
  | wtm_at "nam" | wtm_at "cll" | wtm_at "mtl"
  | refine ev_int ?_
  | refine ev_str ?_
  | refine ev_bin ?_
  | refine ev_cmp ?_
  | refine ev_bl ?_
  | refine ev_non ?_
  | refine ea_cons ?_
  | refine ea_nil ?_
  | refine ev_ix ?_
  | refine ev_tup ?_
  | refine ev_lst ?_
  | refine ev_if ?_
  | refine ev_sl ?_
  | refine ev_chain ?_
  | refine ev_not ?_
  | refine ev_and ?_
  | refine ev_or ?_
  | refine ev_one ?_
  | (apply ev_fldA; (focus with_reducible assumption); (focus with_reducible assumption); (focus wtm_at "st1"))))
local macro_rules | `(tactic| wtm_at "o2") => `(tactic| ((with_reducible show TL.Op2 _ _ _ _ _ _ _); first
  | with_reducible refine op_addI ?_ | with_reducible refine op_subI ?_ | with_reducible refine op_eqI ?_ | with_reducible refine op_neI ?_ | with_reducible refine op_ltI ?_ | with_reducible refine op_leI ?_ | with_reducible refine op_gtI ?_ | with_reducible refine op_geI ?_
  | with_reducible refine op_eqS ?_ | with_reducible refine op_neS ?_ | with_reducible refine TL.op_isN ?_ | with_reducible refine TL.op_notN ?_))
local macro_rules | `(tactic| wtm_at "op") => `(tactic| first
  | with_reducible refine and_t ?_ | with_reducible refine and_f ?_ | with_reducible refine or_t ?_ | with_reducible refine or_f ?_
  | with_reducible refine tand_t ?_ | with_reducible refine tand_f ?_ | with_reducible refine tor_t ?_ | with_reducible refine tor_f ?_
  | with_reducible refine andn_t ?_ | with_reducible refine andn_f ?_ | with_reducible refine orn_t ?_ | with_reducible refine orn_f ?_
  | with_reducible refine tandn_t ?_ | with_reducible refine tandn_f ?_ | with_reducible refine torn_t ?_ | with_reducible refine torn_f ?_
  | ((with_reducible show Exists _); first
    | ((with_reducible apply TL.fld_of); (focus wtm_at "iso"); (focus rfl)) | ((with_reducible apply TL.mth_of); (focus wtm_at "iso"); (focus rfl))
    | refine ⟨_, tr_bl, ?_⟩ | refine ⟨_, tr_non, ?_⟩ | refine ⟨_, tr_int, ?_⟩ | refine ⟨_, tr_Q (by wtm_at "isq"), ?_⟩
    | refine ⟨_, by wtm_at "pt", ?_⟩
    | refine ⟨_, rfl, ?_⟩)
  | ((with_reducible show And _ _); refine And.intro ?_ ?_)
  | ((with_reducible show List.Sublist _ _); exact List.Sublist.refl _) | ((with_reducible show @Eq _ _ _); with_reducible rfl)
  | ((with_reducible intro hb); exact Bool.noConfusion hb)
  | refine fun (_ : true = true) => ?_ | refine fun (_ : false = false) => ?_
  | (with_reducible intro (hb : _ = true)) | (with_reducible intro (hb : _ = false)) | ((with_reducible intro hb); simp only [decide_eq_true_eq, decide_eq_false_iff_not, Bool.not_eq_true', Bool.not_eq_false', Bool.not_eq_true, Bool.not_eq_false, Bool.and_eq_true, Bool.or_eq_true] at hb))
local macro_rules | `(tactic| wtm_at "ty") => `(tactic| first | with_reducible exact TyD.int | with_reducible exact TyD.str | exact TyD.bl | exact TyD.non | exact TyD.tup | exact TyD.lst (by wtm_at "isl") | exact TyD.dK (by wtm_at "isk") | exact TyD.ob (by wtm_at "iso") (by assumption))
local macro_rules | `(tactic| wtm_at "kt") => `(tactic| first | with_reducible exact kt_int_int | with_reducible exact kt_int_bool | with_reducible exact kt_bool_int | with_reducible exact kt_bool_bool | with_reducible exact kt_str_str | with_reducible exact kt_int_str | with_reducible exact kt_str_int | with_reducible exact kt_tuple_tuple | with_reducible exact kt_nonetype_tuple | with_reducible exact kt_list_tuple | with_reducible exact kt_dict_dict | with_reducible exact kt_list_list | with_reducible exact kt_tuple_list | with_reducible exact kt_dict_list | with_reducible exact kt_list_dict | with_reducible exact kt_nonetype_list | with_reducible exact kt_nonetype_dict | with_reducible exact kt_tuple_dict | with_reducible exact kt_str_tuple | with_reducible exact kt_str_list | with_reducible exact kt_str_dict | with_reducible exact kt_int_tuple | with_reducible exact kt_int_list | with_reducible exact kt_int_dict | with_reducible exact kt_dict_tuple | with_reducible exact kt_str_bool | with_reducible exact kt_nonetype_int | with_reducible exact kt_nonetype_str | with_reducible exact kt_nonetype_bool | with_reducible exact kt_tuple_int | with_reducible exact kt_tuple_str | with_reducible exact kt_tuple_bool | with_reducible exact kt_list_int | with_reducible exact kt_list_str | with_reducible exact kt_list_bool | with_reducible exact kt_dict_int | with_reducible exact kt_dict_str | with_reducible exact kt_dict_bool | with_reducible exact kt_bool_str | with_reducible exact kt_bool_tuple | with_reducible exact kt_bool_list | with_reducible exact kt_bool_dict)
local macro_rules | `(tactic| wtm_at "cv") => `(tactic| ((with_reducible show TL.CallV _ _ _ _ _ _); first
  | ((with_reducible apply cv_isTy); (focus wtm_at "ty"); (focus wtm_at "kt"))
  | ((with_reducible apply cv_isCl); (focus wtm_at "ty"); (focus assumption))
  | ((with_reducible apply cv_lenQ); (focus wtm_at "isq"))
  | ((with_reducible apply cv_lenK); (focus wtm_at "isk"))
  | ((with_reducible apply cv_all); (focus rfl); (focus wtm_at "isl"); (focus exact all_bl _ _); rw [all_boolD])
  | ((with_reducible apply cv_any); (focus rfl); (focus wtm_at "isl"); (focus exact all_bl _ _); rw [any_boolD])
  | ((with_reducible apply cv_max2); (focus rfl))
  | ((with_reducible apply cv_min2); (focus rfl))
  | (with_reducible apply cv_intI)
  | (with_reducible apply cv_tupT)
  | ((with_reducible apply cv_dcopy); (focus wtm_at "isk"))
  | ((with_reducible apply cv_tupL); (focus wtm_at "isl"))))
local macro_rules | `(tactic| wtm_at "bg") => `(tactic| (simp only [slotsOf, List.map_cons, List.map_nil, List.length_cons, List.length_nil, List.cons_append, List.nil_append, List.replicate, Nat.reduceAdd, Nat.reduceSub]; wtm_at "rw"))
local macro_rules | `(tactic| wtm_at "tst") => `(tactic| ((with_reducible first | show TL.Tst _ _ _ _ _ | show TL.TstW _ _ _ _ _); first
  | refine tst_not ?_ | refine tst_cmp ?_ | refine tst_chain2 ?_ | refine tst_bool ?_ | refine tw_and ?_ | refine tw_or ?_ | refine tw_and1 ?_ | refine tw_or1 ?_ | refine tst_val ?_))
local macro_rules | `(tactic| wtm_at "st") => `(tactic| ((with_reducible show TL.Run _ _ _ _ _); first
  | refine run_ret0 ?_ | refine run_retN0 ?_ | refine run_nil ?_ | refine run_if ?_ | refine run_pass ?_ | refine run_break ?_ | refine run_cont ?_
  | refine run_raiseD (by assumption) rfl (by wtm_at "gl") ?_
  | refine run_raiseLD (by assumption) rfl (Nat.le_of_ble_eq_true rfl) (by wtm_at "gl") ?_
  | refine run_set (by wtm_at "loc") (by wtm_at "mem") ?_
  | refine run_expr ?_
  | refine run_aug (by wtm_at "loc") (by wtm_at "lk") ?_))
local macro_rules | `(tactic| wtm_at "s2") => `(tactic| ((with_reducible show TL.Run _ _ _ _ _); first
  | refine run_nil ?_ | refine run_if ?_ | refine run_pass ?_ | refine run_break ?_ | refine run_cont ?_
  | refine run_raiseD (by assumption) rfl (by wtm_at "gl") ?_
  | refine run_raiseLD (by assumption) rfl (Nat.le_of_ble_eq_true rfl) (by wtm_at "gl") ?_
  | refine run_set (by wtm_at "loc") (by wtm_at "mem") ?_
  | refine run_expr ?_
  | refine run_aug (by wtm_at "loc") (by wtm_at "lk") ?_))
local macro_rules | `(tactic| wtm_at "go") => `(tactic| (repeat' (first | with_reducible assumption | wtm_at "ev" | wtm_at "o2" | wtm_at "cv" | wtm_at "st" | wtm_at "tst" | wtm_at "op" | fail); all_goals (try assumption)))
local macro_rules | `(tactic| wtm_at "gk") => `(tactic| (repeat' (first | with_reducible assumption | refine run_ret ?_ | refine run_retN ?_ | wtm_at "ev" | wtm_at "o2" | wtm_at "cv" | wtm_at "st" | wtm_at "tst" | wtm_at "op" | fail); all_goals (try assumption)))
local macro_rules | `(tactic| wtm_at "wz") => `(tactic| simp only [wipeG, List.set_cons_zero, List.set_cons_succ, List.map_cons, List.map_nil])
local macro_rules | `(tactic| wtm_at "gn") => `(tactic| (repeat' (first | with_reducible assumption | wtm_at "ev" | wtm_at "o2" | wtm_at "cv" | wtm_at "s2" | wtm_at "tst" | wtm_at "op" | fail); all_goals (try assumption)))
local macro_rules | `(tactic| wtm_at "ln") => `(tactic| first | (with_reducible assumption) | ((with_reducible show TL.Len _ (Str.ofString _)); exact len_lit) | ((with_reducible show TL.Len _ (_ ++ _)); apply len_app <;> wtm_at "ln"))
local macro_rules | `(tactic| wtm_at "lw") => `(tactic| (repeat' (first | with_reducible assumption | ((with_reducible show _ ≤ sizeLine); exact Nat.le_of_ble_eq_true rfl) | refine ev_lstF ?_ | refine ev_dnewF ?_ | refine evp_n ?_ | refine evp_i ?_ | refine evp_s ?_ | ((with_reducible show TL.Op2 _ _ _ (PySem.binaryOp .Add) (TL.D.str _) (TL.D.str _) _); refine op_addL (by wtm_at "ln") (by wtm_at "ln") (by decide +kernel) ?_) | wtm_at "ev" | wtm_at "o2" | wtm_at "cv" | wtm_at "s2" | wtm_at "tst" | wtm_at "op" | fail); all_goals (try assumption)))
local macro_rules | `(tactic| wtm_at "ea") => `(tactic| repeat' (first | wtm_at "ev" | wtm_at "cv" | ((with_reducible apply TL.fld_of); (focus wtm_at "iso"); (focus rfl)) | ((with_reducible apply TL.mth_of); (focus wtm_at "iso"); (focus rfl)) | fail))
local macro_rules | `(tactic| wtm_at "s3") => `(tactic| ((with_reducible show TL.Run _ _ _ _ _); first
  | refine run_if ?_ | refine run_pass ?_ | refine run_break ?_ | refine run_cont ?_
  | refine run_raiseD (by assumption) rfl (by wtm_at "gl") ?_
  | refine run_raiseLD (by assumption) rfl (Nat.le_of_ble_eq_true rfl) (by wtm_at "gl") ?_
  | refine run_set (by wtm_at "loc") (by wtm_at "mem") ?_
  | refine run_expr ?_
  | refine run_aug (by wtm_at "loc") (by wtm_at "lk") ?_))
local macro_rules | `(tactic| wtm_at "gm") => `(tactic| (repeat' (first | with_reducible assumption | wtm_at "ev" | wtm_at "o2" | wtm_at "cv" | wtm_at "s3" | wtm_at "tst" | wtm_at "op" | fail); all_goals (try assumption)))
local macro_rules | `(tactic| wtm_at "mw") => `(tactic| repeat' (first | refine ev_dlit1 ?_ | refine ev_dlit2 ?_ | refine ev_dnewF ?_ | refine ⟨Nat.le_of_ble_eq_true rfl, ?_⟩ | wtm_at "ev" | wtm_at "cv" | fail))
local macro_rules | `(tactic| wtm_at "rw") => `(tactic| first | (with_reducible refine run_withB Rk01.db_is_whole Rk01.vl_is_whole Rk01.hb_is_whole fun _ _ => ?_) | (with_reducible refine run_withB Rk01.db_is_text Rk01.vl_is_text Rk01.hb_is_text fun _ _ => ?_) | (with_reducible refine run_withB Rk01.db_is_letter Rk01.vl_is_letter Rk01.hb_is_letter fun _ _ => ?_) | (with_reducible refine run_withB Rk01.db_is_row Rk01.vl_is_row Rk01.hb_is_row fun _ _ => ?_) | (with_reducible refine run_withB Rk01.db_is_machine Rk01.vl_is_machine Rk01.hb_is_machine fun _ _ => ?_) | (with_reducible refine run_withB Rk01.db_Reader_init Rk01.vl_Reader_init Rk01.hb_Reader_init fun _ _ => ?_) | (with_reducible refine run_withB Rk01.db_Reader_behind Rk01.vl_Reader_behind Rk01.hb_Reader_behind fun _ _ => ?_) | (with_reducible refine run_withB Rk01.db_Machine_init Rk01.vl_Machine_init Rk01.hb_Machine_init fun _ _ => ?_) | (with_reducible refine run_withB Rk01.db_Machine_rows Rk01.vl_Machine_rows Rk01.hb_Machine_rows fun _ _ => ?_) | (with_reducible refine run_withB Rk01.db_Machine_ends Rk01.vl_Machine_ends Rk01.hb_Machine_ends fun _ _ => ?_) | (with_reducible refine run_withB Rk01.db_Machine_has Rk01.vl_Machine_has Rk01.hb_Machine_has fun _ _ => ?_) | (with_reducible refine run_withB Rk01.db_Machine_needed Rk01.vl_Machine_needed Rk01.hb_Machine_needed fun _ _ => ?_) | (with_reducible refine run_withB Rk01.db_Machine_least Rk01.vl_Machine_least Rk01.hb_Machine_least fun _ _ => ?_) | (with_reducible refine run_withB Rk01.db_Machine_and Rk01.vl_Machine_and Rk01.hb_Machine_and fun _ _ => ?_) | (with_reducible refine run_withB Rk01.db_Machine_or Rk01.vl_Machine_or Rk01.hb_Machine_or fun _ _ => ?_) | (with_reducible refine run_withB Rk01.db_Machine_sub Rk01.vl_Machine_sub Rk01.hb_Machine_sub fun _ _ => ?_) | (with_reducible refine run_withB Rk01.db_Machine_is_in Rk01.vl_Machine_is_in Rk01.hb_Machine_is_in fun _ _ => ?_) | (with_reducible refine run_withB Rk01.db_Machine_eq Rk01.vl_Machine_eq Rk01.hb_Machine_eq fun _ _ => ?_) | (with_reducible refine run_withB Rk01.db_Machine_plain Rk01.vl_Machine_plain Rk01.hb_Machine_plain fun _ _ => ?_) | (with_reducible refine run_withB Rk01.db_row_behind Rk01.vl_row_behind Rk01.hb_row_behind fun _ _ => ?_) | (with_reducible refine run_withB Rk01.db_ways_of Rk01.vl_ways_of Rk01.hb_ways_of fun _ _ => ?_) | (with_reducible refine run_withB Rk01.db_leading_rows Rk01.vl_leading_rows Rk01.hb_leading_rows fun _ _ => ?_) | (with_reducible refine run_withB Rk01.db_needed_rows Rk01.vl_needed_rows Rk01.hb_needed_rows fun _ _ => ?_) | (with_reducible refine run_withB Rk01.db_least_text Rk01.vl_least_text Rk01.hb_least_text fun _ _ => ?_) | (with_reducible refine run_withB Rk01.db_is_end Rk01.vl_is_end Rk01.hb_is_end fun _ _ => ?_) | (with_reducible refine run_withB Rk01.db_is_wished Rk01.vl_is_wished Rk01.hb_is_wished fun _ _ => ?_) | (with_reducible refine run_withB Rk01.db_woven Rk01.vl_woven Rk01.hb_woven fun _ _ => ?_) | (with_reducible refine run_withB Rk01.db_sign_of Rk01.vl_sign_of Rk01.hb_sign_of fun _ _ => ?_) | (with_reducible refine run_withB Rk01.db_grouped Rk01.vl_grouped Rk01.hb_grouped fun _ _ => ?_) | (with_reducible refine run_withB Rk01.db_plain_reader Rk01.vl_plain_reader Rk01.hb_plain_reader fun _ _ => ?_) | (with_reducible refine run_withB Rk01.db__law_begin Rk01.vl__law_begin Rk01.hb__law_begin fun _ _ => ?_) | (with_reducible refine run_withB Rk01.db__law_draw Rk01.vl__law_draw Rk01.hb__law_draw fun _ _ => ?_) | (with_reducible refine run_withB Rk01.db__law_machine Rk01.vl__law_machine Rk01.hb__law_machine fun _ _ => ?_) | (with_reducible refine run_withB Rk01.db__law_after Rk01.vl__law_after Rk01.hb__law_after fun _ _ => ?_) | (with_reducible refine run_withB Rk01.db__law_row Rk01.vl__law_row Rk01.hb__law_row fun _ _ => ?_) | (with_reducible refine run_withB Rk01.db__law_has Rk01.vl__law_has Rk01.hb__law_has fun _ _ => ?_) | (with_reducible refine run_withB Rk01.db__law_texts Rk01.vl__law_texts Rk01.hb__law_texts fun _ _ => ?_) | (with_reducible refine run_withB Rk01.db__law_needed Rk01.vl__law_needed Rk01.hb__law_needed fun _ _ => ?_) | (with_reducible refine run_withB Rk01.db__law_like Rk01.vl__law_like Rk01.hb__law_like fun _ _ => ?_) | (with_reducible refine run_withB Rk01.db__law_make Rk01.vl__law_make Rk01.hb__law_make fun _ _ => ?_) | (with_reducible refine run_withB Rk01.db__law_told Rk01.vl__law_told Rk01.hb__law_told fun _ _ => ?_) | (with_reducible refine run_withB Rk01.db__law_pairs Rk01.vl__law_pairs Rk01.hb__law_pairs fun _ _ => ?_) | (with_reducible refine run_withB Rk01.db__law_in Rk01.vl__law_in Rk01.hb__law_in fun _ _ => ?_) | (with_reducible refine run_withB Rk01.db__law_fewest Rk01.vl__law_fewest Rk01.hb__law_fewest fun _ _ => ?_) | (with_reducible refine run_withB Rk01.db__law_alike Rk01.vl__law_alike Rk01.hb__law_alike fun _ _ => ?_) | (with_reducible refine run_withB Rk01.db_law Rk01.vl_law Rk01.hb_law fun _ _ => ?_) | skip)
namespace Rk01
def top (i : Nat) : Stmt := PySem.Challenge.pw_repairscost_k01_whole_machines.main.body.getD i (.Pass ⟨0, 0, 0, 0⟩)
abbrev s_is_whole : Stmt := top 8
theorem db_is_whole : dbOk ["thing", "least", "most"] = true := by kernel_rfl
theorem vl_is_whole : visL (defScope s_is_whole) ["thing", "least", "most"] = true := by kernel_rfl
def is_whole_s_0 : Stmt := pL (defBody s_is_whole) 0
def is_whole_q_1 : List Stmt := []
def is_whole_q_0 : List Stmt := is_whole_s_0 :: is_whole_q_1
theorem hb_is_whole : defBody s_is_whole = is_whole_q_0 := by kernel_rfl
theorem sc_is_whole : FnScope ["thing", "least", "most"] ["thing", "least", "most"] (defScope s_is_whole) := ⟨rfl, rfl, rfl, by decide +kernel, rfl, by decide +kernel, by decide +kernel⟩
abbrev s_is_text : Stmt := top 9
theorem db_is_text : dbOk ["thing", "letter"] = true := by kernel_rfl
theorem vl_is_text : visL (defScope s_is_text) ["thing"] = true := by kernel_rfl
def is_text_s_0 : Stmt := pL (defBody s_is_text) 0
def is_text_q_1 : List Stmt := []
def is_text_q_0 : List Stmt := is_text_s_0 :: is_text_q_1
theorem hb_is_text : defBody s_is_text = is_text_q_0 := by kernel_rfl
theorem sc_is_text : FnScope ["thing", "letter"] ["thing"] (defScope s_is_text) := ⟨rfl, rfl, rfl, by decide +kernel, rfl, by decide +kernel, by decide +kernel⟩
abbrev s_is_letter : Stmt := top 10
theorem db_is_letter : dbOk ["thing"] = true := by kernel_rfl
theorem vl_is_letter : visL (defScope s_is_letter) ["thing"] = true := by kernel_rfl
def is_letter_s_0 : Stmt := pL (defBody s_is_letter) 0
def is_letter_q_1 : List Stmt := []
def is_letter_q_0 : List Stmt := is_letter_s_0 :: is_letter_q_1
theorem hb_is_letter : defBody s_is_letter = is_letter_q_0 := by kernel_rfl
theorem sc_is_letter : FnScope ["thing"] ["thing"] (defScope s_is_letter) := ⟨rfl, rfl, rfl, by decide +kernel, rfl, by decide +kernel, by decide +kernel⟩
abbrev s_is_row : Stmt := top 11
theorem db_is_row : dbOk ["thing", "many", "letter"] = true := by kernel_rfl
theorem vl_is_row : visL (defScope s_is_row) ["thing", "many"] = true := by kernel_rfl
def is_row_s_0a_0 : Stmt := pL (pA (pL (defBody s_is_row) 0)) 0
def is_row_q_0a_1 : List Stmt := []
def is_row_q_0a_0 : List Stmt := is_row_s_0a_0 :: is_row_q_0a_1
def is_row_q_0b_0 : List Stmt := []
def is_row_c_0 : Expr := pC (pL (defBody s_is_row) 0)
def is_row_s_0 : Stmt := .If is_row_c_0 is_row_q_0a_0 is_row_q_0b_0 (pP (pL (defBody s_is_row) 0))
def is_row_s_1 : Stmt := pL (defBody s_is_row) 1
def is_row_q_2 : List Stmt := []
def is_row_q_1 : List Stmt := is_row_s_1 :: is_row_q_2
def is_row_q_0 : List Stmt := is_row_s_0 :: is_row_q_1
theorem hb_is_row : defBody s_is_row = is_row_q_0 := by kernel_rfl
theorem sc_is_row : FnScope ["thing", "many", "letter"] ["thing", "many"] (defScope s_is_row) := ⟨rfl, rfl, rfl, by decide +kernel, rfl, by decide +kernel, by decide +kernel⟩
abbrev s_is_machine : Stmt := top 12
theorem db_is_machine : dbOk ["rows", "ends", "row", "end", "one", "other"] = true := by kernel_rfl
theorem vl_is_machine : visL (defScope s_is_machine) ["rows", "ends"] = true := by kernel_rfl
def is_machine_s_0a_0 : Stmt := pL (pA (pL (defBody s_is_machine) 0)) 0
def is_machine_q_0a_1 : List Stmt := []
def is_machine_q_0a_0 : List Stmt := is_machine_s_0a_0 :: is_machine_q_0a_1
def is_machine_q_0b_0 : List Stmt := []
def is_machine_c_0 : Expr := pC (pL (defBody s_is_machine) 0)
def is_machine_s_0 : Stmt := .If is_machine_c_0 is_machine_q_0a_0 is_machine_q_0b_0 (pP (pL (defBody s_is_machine) 0))
def is_machine_s_1a_0 : Stmt := pL (pA (pL (defBody s_is_machine) 1)) 0
def is_machine_q_1a_1 : List Stmt := []
def is_machine_q_1a_0 : List Stmt := is_machine_s_1a_0 :: is_machine_q_1a_1
def is_machine_q_1b_0 : List Stmt := []
def is_machine_c_1 : Expr := pC (pL (defBody s_is_machine) 1)
def is_machine_s_1 : Stmt := .If is_machine_c_1 is_machine_q_1a_0 is_machine_q_1b_0 (pP (pL (defBody s_is_machine) 1))
def is_machine_s_2 : Stmt := pL (defBody s_is_machine) 2
def is_machine_q_3 : List Stmt := []
def is_machine_q_2 : List Stmt := is_machine_s_2 :: is_machine_q_3
def is_machine_q_1 : List Stmt := is_machine_s_1 :: is_machine_q_2
def is_machine_q_0 : List Stmt := is_machine_s_0 :: is_machine_q_1
theorem hb_is_machine : defBody s_is_machine = is_machine_q_0 := by kernel_rfl
theorem sc_is_machine : FnScope ["rows", "ends", "row", "end", "one", "other"] ["rows", "ends"] (defScope s_is_machine) := ⟨rfl, rfl, rfl, by decide +kernel, rfl, by decide +kernel, by decide +kernel⟩
abbrev s_Reader_init : Stmt := inClass (top 13) 0
theorem db_Reader_init : dbOk ["self", "rows", "ends", "letter", "row"] = true := by kernel_rfl
theorem vl_Reader_init : visL (defScope s_Reader_init) ["self", "rows", "ends"] = true := by kernel_rfl
def Reader_init_s_0 : Stmt := pL (defBody s_Reader_init) 0
def Reader_init_s_1 : Stmt := pL (defBody s_Reader_init) 1
def Reader_init_q_2 : List Stmt := []
def Reader_init_q_1 : List Stmt := Reader_init_s_1 :: Reader_init_q_2
def Reader_init_q_0 : List Stmt := Reader_init_s_0 :: Reader_init_q_1
theorem hb_Reader_init : defBody s_Reader_init = Reader_init_q_0 := by kernel_rfl
theorem sc_Reader_init : FnScope ["self", "rows", "ends", "letter", "row"] ["self", "rows", "ends"] (defScope s_Reader_init) := ⟨rfl, rfl, rfl, by decide +kernel, rfl, by decide +kernel, by decide +kernel⟩
abbrev s_Reader_behind : Stmt := inClass (top 13) 1
theorem db_Reader_behind : dbOk ["self", "row", "letter"] = true := by kernel_rfl
theorem vl_Reader_behind : visL (defScope s_Reader_behind) ["self", "row", "letter"] = true := by kernel_rfl
def Reader_behind_s_0 : Stmt := pL (defBody s_Reader_behind) 0
def Reader_behind_q_1 : List Stmt := []
def Reader_behind_q_0 : List Stmt := Reader_behind_s_0 :: Reader_behind_q_1
theorem hb_Reader_behind : defBody s_Reader_behind = Reader_behind_q_0 := by kernel_rfl
theorem sc_Reader_behind : FnScope ["self", "row", "letter"] ["self", "row", "letter"] (defScope s_Reader_behind) := ⟨rfl, rfl, rfl, by decide +kernel, rfl, by decide +kernel, by decide +kernel⟩
abbrev s_Machine_init : Stmt := inClass (top 14) 0
theorem db_Machine_init : dbOk ["self", "rows", "ends"] = true := by kernel_rfl
theorem vl_Machine_init : visL (defScope s_Machine_init) ["self", "rows", "ends"] = true := by kernel_rfl
def Machine_init_s_0a_0 : Stmt := pL (pA (pL (defBody s_Machine_init) 0)) 0
def Machine_init_s_0a_1 : Stmt := pL (pA (pL (defBody s_Machine_init) 0)) 1
def Machine_init_q_0a_2 : List Stmt := []
def Machine_init_q_0a_1 : List Stmt := Machine_init_s_0a_1 :: Machine_init_q_0a_2
def Machine_init_q_0a_0 : List Stmt := Machine_init_s_0a_0 :: Machine_init_q_0a_1
def Machine_init_q_0b_0 : List Stmt := []
def Machine_init_c_0 : Expr := pC (pL (defBody s_Machine_init) 0)
def Machine_init_s_0 : Stmt := .If Machine_init_c_0 Machine_init_q_0a_0 Machine_init_q_0b_0 (pP (pL (defBody s_Machine_init) 0))
def Machine_init_s_1a_0 : Stmt := pL (pA (pL (defBody s_Machine_init) 1)) 0
def Machine_init_q_1a_1 : List Stmt := []
def Machine_init_q_1a_0 : List Stmt := Machine_init_s_1a_0 :: Machine_init_q_1a_1
def Machine_init_q_1b_0 : List Stmt := []
def Machine_init_c_1 : Expr := pC (pL (defBody s_Machine_init) 1)
def Machine_init_s_1 : Stmt := .If Machine_init_c_1 Machine_init_q_1a_0 Machine_init_q_1b_0 (pP (pL (defBody s_Machine_init) 1))
def Machine_init_s_2 : Stmt := pL (defBody s_Machine_init) 2
def Machine_init_q_3 : List Stmt := []
def Machine_init_q_2 : List Stmt := Machine_init_s_2 :: Machine_init_q_3
def Machine_init_q_1 : List Stmt := Machine_init_s_1 :: Machine_init_q_2
def Machine_init_q_0 : List Stmt := Machine_init_s_0 :: Machine_init_q_1
theorem hb_Machine_init : defBody s_Machine_init = Machine_init_q_0 := by kernel_rfl
theorem sc_Machine_init : FnScope ["self", "rows", "ends"] ["self", "rows", "ends"] (defScope s_Machine_init) := ⟨rfl, rfl, rfl, by decide +kernel, rfl, by decide +kernel, by decide +kernel⟩
abbrev s_Machine_rows : Stmt := inClass (top 14) 1
theorem db_Machine_rows : dbOk ["self", "row"] = true := by kernel_rfl
theorem vl_Machine_rows : visL (defScope s_Machine_rows) ["self"] = true := by kernel_rfl
def Machine_rows_s_0 : Stmt := pL (defBody s_Machine_rows) 0
def Machine_rows_q_1 : List Stmt := []
def Machine_rows_q_0 : List Stmt := Machine_rows_s_0 :: Machine_rows_q_1
theorem hb_Machine_rows : defBody s_Machine_rows = Machine_rows_q_0 := by kernel_rfl
theorem sc_Machine_rows : FnScope ["self", "row"] ["self"] (defScope s_Machine_rows) := ⟨rfl, rfl, rfl, by decide +kernel, rfl, by decide +kernel, by decide +kernel⟩
abbrev s_Machine_ends : Stmt := inClass (top 14) 2
theorem db_Machine_ends : dbOk ["self"] = true := by kernel_rfl
theorem vl_Machine_ends : visL (defScope s_Machine_ends) ["self"] = true := by kernel_rfl
def Machine_ends_s_0 : Stmt := pL (defBody s_Machine_ends) 0
def Machine_ends_q_1 : List Stmt := []
def Machine_ends_q_0 : List Stmt := Machine_ends_s_0 :: Machine_ends_q_1
theorem hb_Machine_ends : defBody s_Machine_ends = Machine_ends_q_0 := by kernel_rfl
abbrev s_Machine_has : Stmt := inClass (top 14) 3
theorem db_Machine_has : dbOk ["self", "text"] = true := by kernel_rfl
theorem vl_Machine_has : visL (defScope s_Machine_has) ["self", "text"] = true := by kernel_rfl
def Machine_has_s_0a_0 : Stmt := pL (pA (pL (defBody s_Machine_has) 0)) 0
def Machine_has_q_0a_1 : List Stmt := []
def Machine_has_q_0a_0 : List Stmt := Machine_has_s_0a_0 :: Machine_has_q_0a_1
def Machine_has_q_0b_0 : List Stmt := []
def Machine_has_c_0 : Expr := pC (pL (defBody s_Machine_has) 0)
def Machine_has_s_0 : Stmt := .If Machine_has_c_0 Machine_has_q_0a_0 Machine_has_q_0b_0 (pP (pL (defBody s_Machine_has) 0))
def Machine_has_s_1 : Stmt := pL (defBody s_Machine_has) 1
def Machine_has_q_2 : List Stmt := []
def Machine_has_q_1 : List Stmt := Machine_has_s_1 :: Machine_has_q_2
def Machine_has_q_0 : List Stmt := Machine_has_s_0 :: Machine_has_q_1
theorem hb_Machine_has : defBody s_Machine_has = Machine_has_q_0 := by kernel_rfl
theorem sc_Machine_has : FnScope ["self", "text"] ["self", "text"] (defScope s_Machine_has) := ⟨rfl, rfl, rfl, by decide +kernel, rfl, by decide +kernel, by decide +kernel⟩
abbrev s_Machine_needed : Stmt := inClass (top 14) 4
theorem db_Machine_needed : dbOk ["self"] = true := by kernel_rfl
theorem vl_Machine_needed : visL (defScope s_Machine_needed) ["self"] = true := by kernel_rfl
def Machine_needed_s_0 : Stmt := pL (defBody s_Machine_needed) 0
def Machine_needed_q_1 : List Stmt := []
def Machine_needed_q_0 : List Stmt := Machine_needed_s_0 :: Machine_needed_q_1
theorem hb_Machine_needed : defBody s_Machine_needed = Machine_needed_q_0 := by kernel_rfl
theorem sc_Machine_needed : FnScope ["self"] ["self"] (defScope s_Machine_needed) := ⟨rfl, rfl, rfl, by decide +kernel, rfl, by decide +kernel, by decide +kernel⟩
abbrev s_Machine_least : Stmt := inClass (top 14) 5
theorem db_Machine_least : dbOk ["self", "found"] = true := by kernel_rfl
theorem vl_Machine_least : visL (defScope s_Machine_least) ["self", "found"] = true := by kernel_rfl
def Machine_least_s_0 : Stmt := pL (defBody s_Machine_least) 0
def Machine_least_s_1a_0 : Stmt := pL (pA (pL (defBody s_Machine_least) 1)) 0
def Machine_least_q_1a_1 : List Stmt := []
def Machine_least_q_1a_0 : List Stmt := Machine_least_s_1a_0 :: Machine_least_q_1a_1
def Machine_least_q_1b_0 : List Stmt := []
def Machine_least_c_1 : Expr := pC (pL (defBody s_Machine_least) 1)
def Machine_least_s_1 : Stmt := .If Machine_least_c_1 Machine_least_q_1a_0 Machine_least_q_1b_0 (pP (pL (defBody s_Machine_least) 1))
def Machine_least_s_2 : Stmt := pL (defBody s_Machine_least) 2
def Machine_least_q_3 : List Stmt := []
def Machine_least_q_2 : List Stmt := Machine_least_s_2 :: Machine_least_q_3
def Machine_least_q_1 : List Stmt := Machine_least_s_1 :: Machine_least_q_2
def Machine_least_q_0 : List Stmt := Machine_least_s_0 :: Machine_least_q_1
theorem hb_Machine_least : defBody s_Machine_least = Machine_least_q_0 := by kernel_rfl
theorem sc_Machine_least : FnScope ["self", "found"] ["self"] (defScope s_Machine_least) := ⟨rfl, rfl, rfl, by decide +kernel, rfl, by decide +kernel, by decide +kernel⟩
abbrev s_Machine_and : Stmt := inClass (top 14) 6
theorem db_Machine_and : dbOk ["self", "other"] = true := by kernel_rfl
theorem vl_Machine_and : visL (defScope s_Machine_and) ["self", "other"] = true := by kernel_rfl
def Machine_and_s_0 : Stmt := pL (defBody s_Machine_and) 0
def Machine_and_q_1 : List Stmt := []
def Machine_and_q_0 : List Stmt := Machine_and_s_0 :: Machine_and_q_1
theorem hb_Machine_and : defBody s_Machine_and = Machine_and_q_0 := by kernel_rfl
theorem sc_Machine_and : FnScope ["self", "other"] ["self", "other"] (defScope s_Machine_and) := ⟨rfl, rfl, rfl, by decide +kernel, rfl, by decide +kernel, by decide +kernel⟩
abbrev s_Machine_or : Stmt := inClass (top 14) 7
theorem db_Machine_or : dbOk ["self", "other"] = true := by kernel_rfl
theorem vl_Machine_or : visL (defScope s_Machine_or) ["self", "other"] = true := by kernel_rfl
def Machine_or_s_0 : Stmt := pL (defBody s_Machine_or) 0
def Machine_or_q_1 : List Stmt := []
def Machine_or_q_0 : List Stmt := Machine_or_s_0 :: Machine_or_q_1
theorem hb_Machine_or : defBody s_Machine_or = Machine_or_q_0 := by kernel_rfl
theorem sc_Machine_or : FnScope ["self", "other"] ["self", "other"] (defScope s_Machine_or) := ⟨rfl, rfl, rfl, by decide +kernel, rfl, by decide +kernel, by decide +kernel⟩
abbrev s_Machine_sub : Stmt := inClass (top 14) 8
theorem db_Machine_sub : dbOk ["self", "other"] = true := by kernel_rfl
theorem vl_Machine_sub : visL (defScope s_Machine_sub) ["self", "other"] = true := by kernel_rfl
def Machine_sub_s_0 : Stmt := pL (defBody s_Machine_sub) 0
def Machine_sub_q_1 : List Stmt := []
def Machine_sub_q_0 : List Stmt := Machine_sub_s_0 :: Machine_sub_q_1
theorem hb_Machine_sub : defBody s_Machine_sub = Machine_sub_q_0 := by kernel_rfl
theorem sc_Machine_sub : FnScope ["self", "other"] ["self", "other"] (defScope s_Machine_sub) := ⟨rfl, rfl, rfl, by decide +kernel, rfl, by decide +kernel, by decide +kernel⟩
abbrev s_Machine_is_in : Stmt := inClass (top 14) 9
theorem db_Machine_is_in : dbOk ["self", "other"] = true := by kernel_rfl
theorem vl_Machine_is_in : visL (defScope s_Machine_is_in) ["self", "other"] = true := by kernel_rfl
def Machine_is_in_s_0 : Stmt := pL (defBody s_Machine_is_in) 0
def Machine_is_in_q_1 : List Stmt := []
def Machine_is_in_q_0 : List Stmt := Machine_is_in_s_0 :: Machine_is_in_q_1
theorem hb_Machine_is_in : defBody s_Machine_is_in = Machine_is_in_q_0 := by kernel_rfl
theorem sc_Machine_is_in : FnScope ["self", "other"] ["self", "other"] (defScope s_Machine_is_in) := ⟨rfl, rfl, rfl, by decide +kernel, rfl, by decide +kernel, by decide +kernel⟩
abbrev s_Machine_eq : Stmt := inClass (top 14) 10
theorem db_Machine_eq : dbOk ["self", "other", "one"] = true := by kernel_rfl
theorem vl_Machine_eq : visL (defScope s_Machine_eq) ["self", "other", "one"] = true := by kernel_rfl
def Machine_eq_s_0a_0 : Stmt := pL (pA (pL (defBody s_Machine_eq) 0)) 0
def Machine_eq_q_0a_1 : List Stmt := []
def Machine_eq_q_0a_0 : List Stmt := Machine_eq_s_0a_0 :: Machine_eq_q_0a_1
def Machine_eq_q_0b_0 : List Stmt := []
def Machine_eq_c_0 : Expr := pC (pL (defBody s_Machine_eq) 0)
def Machine_eq_s_0 : Stmt := .If Machine_eq_c_0 Machine_eq_q_0a_0 Machine_eq_q_0b_0 (pP (pL (defBody s_Machine_eq) 0))
def Machine_eq_s_1 : Stmt := pL (defBody s_Machine_eq) 1
def Machine_eq_s_2 : Stmt := pL (defBody s_Machine_eq) 2
def Machine_eq_q_3 : List Stmt := []
def Machine_eq_q_2 : List Stmt := Machine_eq_s_2 :: Machine_eq_q_3
def Machine_eq_q_1 : List Stmt := Machine_eq_s_1 :: Machine_eq_q_2
def Machine_eq_q_0 : List Stmt := Machine_eq_s_0 :: Machine_eq_q_1
theorem hb_Machine_eq : defBody s_Machine_eq = Machine_eq_q_0 := by kernel_rfl
theorem sc_Machine_eq : FnScope ["self", "other", "one"] ["self", "other"] (defScope s_Machine_eq) := ⟨rfl, rfl, rfl, by decide +kernel, rfl, by decide +kernel, by decide +kernel⟩
abbrev s_Machine_plain : Stmt := inClass (top 14) 11
theorem db_Machine_plain : dbOk ["self"] = true := by kernel_rfl
theorem vl_Machine_plain : visL (defScope s_Machine_plain) ["self"] = true := by kernel_rfl
def Machine_plain_s_0 : Stmt := pL (defBody s_Machine_plain) 0
def Machine_plain_q_1 : List Stmt := []
def Machine_plain_q_0 : List Stmt := Machine_plain_s_0 :: Machine_plain_q_1
theorem hb_Machine_plain : defBody s_Machine_plain = Machine_plain_q_0 := by kernel_rfl
theorem sc_Machine_plain : FnScope ["self"] ["self"] (defScope s_Machine_plain) := ⟨rfl, rfl, rfl, by decide +kernel, rfl, by decide +kernel, by decide +kernel⟩
abbrev s_row_behind : Stmt := top 15
theorem db_row_behind : dbOk ["reader", "row", "text", "letter"] = true := by kernel_rfl
theorem vl_row_behind : visL (defScope s_row_behind) ["reader", "row", "text", "letter"] = true := by kernel_rfl
def row_behind_s_0a_0 : Stmt := pL (pA (pL (defBody s_row_behind) 0)) 0
def row_behind_q_0a_1 : List Stmt := []
def row_behind_q_0a_0 : List Stmt := row_behind_s_0a_0 :: row_behind_q_0a_1
def row_behind_t_0 : Expr := pT (pL (defBody s_row_behind) 0)
def row_behind_i_0 : Expr := pI (pL (defBody s_row_behind) 0)
def row_behind_s_0 : Stmt := .For row_behind_t_0 row_behind_i_0 row_behind_q_0a_0 [] (pP (pL (defBody s_row_behind) 0))
def row_behind_s_1 : Stmt := pL (defBody s_row_behind) 1
def row_behind_q_2 : List Stmt := []
def row_behind_q_1 : List Stmt := row_behind_s_1 :: row_behind_q_2
def row_behind_q_0 : List Stmt := row_behind_s_0 :: row_behind_q_1
theorem hb_row_behind : defBody s_row_behind = row_behind_q_0 := by kernel_rfl
theorem sc_row_behind : FnScope ["reader", "row", "text", "letter"] ["reader", "row", "text"] (defScope s_row_behind) := ⟨rfl, rfl, rfl, by decide +kernel, rfl, by decide +kernel, by decide +kernel⟩
abbrev s_ways_of : Stmt := top 16
theorem db_ways_of : dbOk ["reader", "found", "waiting", "at", "row", "letter", "after"] = true := by kernel_rfl
theorem vl_ways_of : visL (defScope s_ways_of) ["reader", "found", "waiting", "at", "row", "letter", "after"] = true := by kernel_rfl
def ways_of_s_0 : Stmt := pL (defBody s_ways_of) 0
def ways_of_s_1 : Stmt := pL (defBody s_ways_of) 1
def ways_of_s_2 : Stmt := pL (defBody s_ways_of) 2
def ways_of_s_3a_0 : Stmt := pL (pA (pL (defBody s_ways_of) 3)) 0
def ways_of_s_3a_1 : Stmt := pL (pA (pL (defBody s_ways_of) 3)) 1
def ways_of_s_3a_2a_0 : Stmt := pL (pA (pL (pA (pL (defBody s_ways_of) 3)) 2)) 0
def ways_of_s_3a_2a_1a_0 : Stmt := pL (pA (pL (pA (pL (pA (pL (defBody s_ways_of) 3)) 2)) 1)) 0
def ways_of_s_3a_2a_1a_1 : Stmt := pL (pA (pL (pA (pL (pA (pL (defBody s_ways_of) 3)) 2)) 1)) 1
def ways_of_q_3a_2a_1a_2 : List Stmt := []
def ways_of_q_3a_2a_1a_1 : List Stmt := ways_of_s_3a_2a_1a_1 :: ways_of_q_3a_2a_1a_2
def ways_of_q_3a_2a_1a_0 : List Stmt := ways_of_s_3a_2a_1a_0 :: ways_of_q_3a_2a_1a_1
def ways_of_q_3a_2a_1b_0 : List Stmt := []
def ways_of_c_3a_2a_1 : Expr := pC (pL (pA (pL (pA (pL (defBody s_ways_of) 3)) 2)) 1)
def ways_of_s_3a_2a_1 : Stmt := .If ways_of_c_3a_2a_1 ways_of_q_3a_2a_1a_0 ways_of_q_3a_2a_1b_0 (pP (pL (pA (pL (pA (pL (defBody s_ways_of) 3)) 2)) 1))
def ways_of_q_3a_2a_2 : List Stmt := []
def ways_of_q_3a_2a_1 : List Stmt := ways_of_s_3a_2a_1 :: ways_of_q_3a_2a_2
def ways_of_q_3a_2a_0 : List Stmt := ways_of_s_3a_2a_0 :: ways_of_q_3a_2a_1
def ways_of_t_3a_2 : Expr := pT (pL (pA (pL (defBody s_ways_of) 3)) 2)
def ways_of_i_3a_2 : Expr := pI (pL (pA (pL (defBody s_ways_of) 3)) 2)
def ways_of_s_3a_2 : Stmt := .For ways_of_t_3a_2 ways_of_i_3a_2 ways_of_q_3a_2a_0 [] (pP (pL (pA (pL (defBody s_ways_of) 3)) 2))
def ways_of_q_3a_3 : List Stmt := []
def ways_of_q_3a_2 : List Stmt := ways_of_s_3a_2 :: ways_of_q_3a_3
def ways_of_q_3a_1 : List Stmt := ways_of_s_3a_1 :: ways_of_q_3a_2
def ways_of_q_3a_0 : List Stmt := ways_of_s_3a_0 :: ways_of_q_3a_1
def ways_of_c_3 : Expr := pC (pL (defBody s_ways_of) 3)
def ways_of_s_3 : Stmt := .While ways_of_c_3 ways_of_q_3a_0 [] (pP (pL (defBody s_ways_of) 3))
def ways_of_s_4 : Stmt := pL (defBody s_ways_of) 4
def ways_of_q_5 : List Stmt := []
def ways_of_q_4 : List Stmt := ways_of_s_4 :: ways_of_q_5
def ways_of_q_3 : List Stmt := ways_of_s_3 :: ways_of_q_4
def ways_of_q_2 : List Stmt := ways_of_s_2 :: ways_of_q_3
def ways_of_q_1 : List Stmt := ways_of_s_1 :: ways_of_q_2
def ways_of_q_0 : List Stmt := ways_of_s_0 :: ways_of_q_1
theorem hb_ways_of : defBody s_ways_of = ways_of_q_0 := by kernel_rfl
theorem sc_ways_of : FnScope ["reader", "found", "waiting", "at", "row", "letter", "after"] ["reader"] (defScope s_ways_of) := ⟨rfl, rfl, rfl, by decide +kernel, rfl, by decide +kernel, by decide +kernel⟩
abbrev s_leading_rows : Stmt := top 17
theorem db_leading_rows : dbOk ["reader", "found", "going", "row", "end", "letter"] = true := by kernel_rfl
theorem vl_leading_rows : visL (defScope s_leading_rows) ["reader", "found", "going", "row"] = true := by kernel_rfl
def leading_rows_s_0 : Stmt := pL (defBody s_leading_rows) 0
def leading_rows_s_1 : Stmt := pL (defBody s_leading_rows) 1
def leading_rows_s_2a_0 : Stmt := pL (pA (pL (defBody s_leading_rows) 2)) 0
def leading_rows_s_2a_1a_0a_0 : Stmt := pL (pA (pL (pA (pL (pA (pL (defBody s_leading_rows) 2)) 1)) 0)) 0
def leading_rows_s_2a_1a_0a_1 : Stmt := pL (pA (pL (pA (pL (pA (pL (defBody s_leading_rows) 2)) 1)) 0)) 1
def leading_rows_q_2a_1a_0a_2 : List Stmt := []
def leading_rows_q_2a_1a_0a_1 : List Stmt := leading_rows_s_2a_1a_0a_1 :: leading_rows_q_2a_1a_0a_2
def leading_rows_q_2a_1a_0a_0 : List Stmt := leading_rows_s_2a_1a_0a_0 :: leading_rows_q_2a_1a_0a_1
def leading_rows_q_2a_1a_0b_0 : List Stmt := []
def leading_rows_c_2a_1a_0 : Expr := pC (pL (pA (pL (pA (pL (defBody s_leading_rows) 2)) 1)) 0)
def leading_rows_s_2a_1a_0 : Stmt := .If leading_rows_c_2a_1a_0 leading_rows_q_2a_1a_0a_0 leading_rows_q_2a_1a_0b_0 (pP (pL (pA (pL (pA (pL (defBody s_leading_rows) 2)) 1)) 0))
def leading_rows_q_2a_1a_1 : List Stmt := []
def leading_rows_q_2a_1a_0 : List Stmt := leading_rows_s_2a_1a_0 :: leading_rows_q_2a_1a_1
def leading_rows_t_2a_1 : Expr := pT (pL (pA (pL (defBody s_leading_rows) 2)) 1)
def leading_rows_i_2a_1 : Expr := pI (pL (pA (pL (defBody s_leading_rows) 2)) 1)
def leading_rows_s_2a_1 : Stmt := .For leading_rows_t_2a_1 leading_rows_i_2a_1 leading_rows_q_2a_1a_0 [] (pP (pL (pA (pL (defBody s_leading_rows) 2)) 1))
def leading_rows_q_2a_2 : List Stmt := []
def leading_rows_q_2a_1 : List Stmt := leading_rows_s_2a_1 :: leading_rows_q_2a_2
def leading_rows_q_2a_0 : List Stmt := leading_rows_s_2a_0 :: leading_rows_q_2a_1
def leading_rows_c_2 : Expr := pC (pL (defBody s_leading_rows) 2)
def leading_rows_s_2 : Stmt := .While leading_rows_c_2 leading_rows_q_2a_0 [] (pP (pL (defBody s_leading_rows) 2))
def leading_rows_s_3 : Stmt := pL (defBody s_leading_rows) 3
def leading_rows_q_4 : List Stmt := []
def leading_rows_q_3 : List Stmt := leading_rows_s_3 :: leading_rows_q_4
def leading_rows_q_2 : List Stmt := leading_rows_s_2 :: leading_rows_q_3
def leading_rows_q_1 : List Stmt := leading_rows_s_1 :: leading_rows_q_2
def leading_rows_q_0 : List Stmt := leading_rows_s_0 :: leading_rows_q_1
theorem hb_leading_rows : defBody s_leading_rows = leading_rows_q_0 := by kernel_rfl
theorem sc_leading_rows : FnScope ["reader", "found", "going", "row", "end", "letter"] ["reader"] (defScope s_leading_rows) := ⟨rfl, rfl, rfl, by decide +kernel, rfl, by decide +kernel, by decide +kernel⟩
abbrev s_needed_rows : Stmt := top 18
theorem db_needed_rows : dbOk ["reader", "leading", "row"] = true := by kernel_rfl
theorem vl_needed_rows : visL (defScope s_needed_rows) ["reader", "leading"] = true := by kernel_rfl
def needed_rows_s_0 : Stmt := pL (defBody s_needed_rows) 0
def needed_rows_s_1 : Stmt := pL (defBody s_needed_rows) 1
def needed_rows_q_2 : List Stmt := []
def needed_rows_q_1 : List Stmt := needed_rows_s_1 :: needed_rows_q_2
def needed_rows_q_0 : List Stmt := needed_rows_s_0 :: needed_rows_q_1
theorem hb_needed_rows : defBody s_needed_rows = needed_rows_q_0 := by kernel_rfl
theorem sc_needed_rows : FnScope ["reader", "leading", "row"] ["reader"] (defScope s_needed_rows) := ⟨rfl, rfl, rfl, by decide +kernel, rfl, by decide +kernel, by decide +kernel⟩
abbrev s_least_text : Stmt := top 19
theorem db_least_text : dbOk ["reader", "ways", "row"] = true := by kernel_rfl
theorem vl_least_text : visL (defScope s_least_text) ["reader", "ways", "row"] = true := by kernel_rfl
def least_text_s_0 : Stmt := pL (defBody s_least_text) 0
def least_text_s_1a_0a_0 : Stmt := pL (pA (pL (pA (pL (defBody s_least_text) 1)) 0)) 0
def least_text_q_1a_0a_1 : List Stmt := []
def least_text_q_1a_0a_0 : List Stmt := least_text_s_1a_0a_0 :: least_text_q_1a_0a_1
def least_text_q_1a_0b_0 : List Stmt := []
def least_text_c_1a_0 : Expr := pC (pL (pA (pL (defBody s_least_text) 1)) 0)
def least_text_s_1a_0 : Stmt := .If least_text_c_1a_0 least_text_q_1a_0a_0 least_text_q_1a_0b_0 (pP (pL (pA (pL (defBody s_least_text) 1)) 0))
def least_text_q_1a_1 : List Stmt := []
def least_text_q_1a_0 : List Stmt := least_text_s_1a_0 :: least_text_q_1a_1
def least_text_t_1 : Expr := pT (pL (defBody s_least_text) 1)
def least_text_i_1 : Expr := pI (pL (defBody s_least_text) 1)
def least_text_s_1 : Stmt := .For least_text_t_1 least_text_i_1 least_text_q_1a_0 [] (pP (pL (defBody s_least_text) 1))
def least_text_s_2 : Stmt := pL (defBody s_least_text) 2
def least_text_q_3 : List Stmt := []
def least_text_q_2 : List Stmt := least_text_s_2 :: least_text_q_3
def least_text_q_1 : List Stmt := least_text_s_1 :: least_text_q_2
def least_text_q_0 : List Stmt := least_text_s_0 :: least_text_q_1
theorem hb_least_text : defBody s_least_text = least_text_q_0 := by kernel_rfl
theorem sc_least_text : FnScope ["reader", "ways", "row"] ["reader"] (defScope s_least_text) := ⟨rfl, rfl, rfl, by decide +kernel, rfl, by decide +kernel, by decide +kernel⟩
abbrev s_is_end : Stmt := top 20
theorem db_is_end : dbOk ["reader", "row"] = true := by kernel_rfl
theorem vl_is_end : visL (defScope s_is_end) ["reader", "row"] = true := by kernel_rfl
def is_end_s_0 : Stmt := pL (defBody s_is_end) 0
def is_end_q_1 : List Stmt := []
def is_end_q_0 : List Stmt := is_end_s_0 :: is_end_q_1
theorem hb_is_end : defBody s_is_end = is_end_q_0 := by kernel_rfl
theorem sc_is_end : FnScope ["reader", "row"] ["reader", "row"] (defScope s_is_end) := ⟨rfl, rfl, rfl, by decide +kernel, rfl, by decide +kernel, by decide +kernel⟩
abbrev s_is_wished : Stmt := top 21
theorem db_is_wished : dbOk ["word", "one", "other"] = true := by kernel_rfl
theorem vl_is_wished : visL (defScope s_is_wished) ["word", "one", "other"] = true := by kernel_rfl
def is_wished_s_0a_0 : Stmt := pL (pA (pL (defBody s_is_wished) 0)) 0
def is_wished_q_0a_1 : List Stmt := []
def is_wished_q_0a_0 : List Stmt := is_wished_s_0a_0 :: is_wished_q_0a_1
def is_wished_q_0b_0 : List Stmt := []
def is_wished_c_0 : Expr := pC (pL (defBody s_is_wished) 0)
def is_wished_s_0 : Stmt := .If is_wished_c_0 is_wished_q_0a_0 is_wished_q_0b_0 (pP (pL (defBody s_is_wished) 0))
def is_wished_s_1 : Stmt := pL (defBody s_is_wished) 1
def is_wished_q_2 : List Stmt := []
def is_wished_q_1 : List Stmt := is_wished_s_1 :: is_wished_q_2
def is_wished_q_0 : List Stmt := is_wished_s_0 :: is_wished_q_1
theorem hb_is_wished : defBody s_is_wished = is_wished_q_0 := by kernel_rfl
theorem sc_is_wished : FnScope ["word", "one", "other"] ["word", "one", "other"] (defScope s_is_wished) := ⟨rfl, rfl, rfl, by decide +kernel, rfl, by decide +kernel, by decide +kernel⟩
abbrev s_woven : Stmt := top 22
theorem db_woven : dbOk ["one", "other", "word", "pairs", "numbers", "rows", "at", "here", "there", "row", "letter", "pair", "ends", "number"] = true := by kernel_rfl
theorem vl_woven : visL (defScope s_woven) ["one", "other", "word", "pairs", "numbers", "rows", "at", "here", "there", "row", "letter", "pair", "ends", "number"] = true := by kernel_rfl
def woven_s_0 : Stmt := pL (defBody s_woven) 0
def woven_s_1 : Stmt := pL (defBody s_woven) 1
def woven_s_2 : Stmt := pL (defBody s_woven) 2
def woven_s_3 : Stmt := pL (defBody s_woven) 3
def woven_s_4a_0 : Stmt := pL (pA (pL (defBody s_woven) 4)) 0
def woven_s_4a_1 : Stmt := pL (pA (pL (defBody s_woven) 4)) 1
def woven_s_4a_2 : Stmt := pL (pA (pL (defBody s_woven) 4)) 2
def woven_s_4a_3a_0 : Stmt := pL (pA (pL (pA (pL (defBody s_woven) 4)) 3)) 0
def woven_s_4a_3a_1a_0a_0 : Stmt := pL (pA (pL (pA (pL (pA (pL (pA (pL (defBody s_woven) 4)) 3)) 1)) 0)) 0
def woven_s_4a_3a_1a_0a_1 : Stmt := pL (pA (pL (pA (pL (pA (pL (pA (pL (defBody s_woven) 4)) 3)) 1)) 0)) 1
def woven_q_4a_3a_1a_0a_2 : List Stmt := []
def woven_q_4a_3a_1a_0a_1 : List Stmt := woven_s_4a_3a_1a_0a_1 :: woven_q_4a_3a_1a_0a_2
def woven_q_4a_3a_1a_0a_0 : List Stmt := woven_s_4a_3a_1a_0a_0 :: woven_q_4a_3a_1a_0a_1
def woven_q_4a_3a_1a_0b_0 : List Stmt := []
def woven_c_4a_3a_1a_0 : Expr := pC (pL (pA (pL (pA (pL (pA (pL (defBody s_woven) 4)) 3)) 1)) 0)
def woven_s_4a_3a_1a_0 : Stmt := .If woven_c_4a_3a_1a_0 woven_q_4a_3a_1a_0a_0 woven_q_4a_3a_1a_0b_0 (pP (pL (pA (pL (pA (pL (pA (pL (defBody s_woven) 4)) 3)) 1)) 0))
def woven_s_4a_3a_1a_1 : Stmt := pL (pA (pL (pA (pL (pA (pL (defBody s_woven) 4)) 3)) 1)) 1
def woven_q_4a_3a_1a_2 : List Stmt := []
def woven_q_4a_3a_1a_1 : List Stmt := woven_s_4a_3a_1a_1 :: woven_q_4a_3a_1a_2
def woven_q_4a_3a_1a_0 : List Stmt := woven_s_4a_3a_1a_0 :: woven_q_4a_3a_1a_1
def woven_q_4a_3a_1b_0 : List Stmt := []
def woven_c_4a_3a_1 : Expr := pC (pL (pA (pL (pA (pL (defBody s_woven) 4)) 3)) 1)
def woven_s_4a_3a_1 : Stmt := .If woven_c_4a_3a_1 woven_q_4a_3a_1a_0 woven_q_4a_3a_1b_0 (pP (pL (pA (pL (pA (pL (defBody s_woven) 4)) 3)) 1))
def woven_q_4a_3a_2 : List Stmt := []
def woven_q_4a_3a_1 : List Stmt := woven_s_4a_3a_1 :: woven_q_4a_3a_2
def woven_q_4a_3a_0 : List Stmt := woven_s_4a_3a_0 :: woven_q_4a_3a_1
def woven_t_4a_3 : Expr := pT (pL (pA (pL (defBody s_woven) 4)) 3)
def woven_i_4a_3 : Expr := pI (pL (pA (pL (defBody s_woven) 4)) 3)
def woven_s_4a_3 : Stmt := .For woven_t_4a_3 woven_i_4a_3 woven_q_4a_3a_0 [] (pP (pL (pA (pL (defBody s_woven) 4)) 3))
def woven_s_4a_4 : Stmt := pL (pA (pL (defBody s_woven) 4)) 4
def woven_q_4a_5 : List Stmt := []
def woven_q_4a_4 : List Stmt := woven_s_4a_4 :: woven_q_4a_5
def woven_q_4a_3 : List Stmt := woven_s_4a_3 :: woven_q_4a_4
def woven_q_4a_2 : List Stmt := woven_s_4a_2 :: woven_q_4a_3
def woven_q_4a_1 : List Stmt := woven_s_4a_1 :: woven_q_4a_2
def woven_q_4a_0 : List Stmt := woven_s_4a_0 :: woven_q_4a_1
def woven_c_4 : Expr := pC (pL (defBody s_woven) 4)
def woven_s_4 : Stmt := .While woven_c_4 woven_q_4a_0 [] (pP (pL (defBody s_woven) 4))
def woven_s_5 : Stmt := pL (defBody s_woven) 5
def woven_s_6a_0a_0 : Stmt := pL (pA (pL (pA (pL (defBody s_woven) 6)) 0)) 0
def woven_q_6a_0a_1 : List Stmt := []
def woven_q_6a_0a_0 : List Stmt := woven_s_6a_0a_0 :: woven_q_6a_0a_1
def woven_q_6a_0b_0 : List Stmt := []
def woven_c_6a_0 : Expr := pC (pL (pA (pL (defBody s_woven) 6)) 0)
def woven_s_6a_0 : Stmt := .If woven_c_6a_0 woven_q_6a_0a_0 woven_q_6a_0b_0 (pP (pL (pA (pL (defBody s_woven) 6)) 0))
def woven_q_6a_1 : List Stmt := []
def woven_q_6a_0 : List Stmt := woven_s_6a_0 :: woven_q_6a_1
def woven_t_6 : Expr := pT (pL (defBody s_woven) 6)
def woven_i_6 : Expr := pI (pL (defBody s_woven) 6)
def woven_s_6 : Stmt := .For woven_t_6 woven_i_6 woven_q_6a_0 [] (pP (pL (defBody s_woven) 6))
def woven_s_7 : Stmt := pL (defBody s_woven) 7
def woven_q_8 : List Stmt := []
def woven_q_7 : List Stmt := woven_s_7 :: woven_q_8
def woven_q_6 : List Stmt := woven_s_6 :: woven_q_7
def woven_q_5 : List Stmt := woven_s_5 :: woven_q_6
def woven_q_4 : List Stmt := woven_s_4 :: woven_q_5
def woven_q_3 : List Stmt := woven_s_3 :: woven_q_4
def woven_q_2 : List Stmt := woven_s_2 :: woven_q_3
def woven_q_1 : List Stmt := woven_s_1 :: woven_q_2
def woven_q_0 : List Stmt := woven_s_0 :: woven_q_1
theorem hb_woven : defBody s_woven = woven_q_0 := by kernel_rfl
theorem sc_woven : FnScope ["one", "other", "word", "pairs", "numbers", "rows", "at", "here", "there", "row", "letter", "pair", "ends", "number"] ["one", "other", "word"] (defScope s_woven) := ⟨rfl, rfl, rfl, by decide +kernel, rfl, by decide +kernel, by decide +kernel⟩
abbrev s_sign_of : Stmt := top 23
theorem db_sign_of : dbOk ["reader", "groups", "row", "found", "letter", "after"] = true := by kernel_rfl
theorem vl_sign_of : visL (defScope s_sign_of) ["reader", "groups", "row", "found", "letter", "after"] = true := by kernel_rfl
def sign_of_s_0 : Stmt := pL (defBody s_sign_of) 0
def sign_of_s_1a_0 : Stmt := pL (pA (pL (defBody s_sign_of) 1)) 0
def sign_of_s_1a_1 : Stmt := pL (pA (pL (defBody s_sign_of) 1)) 1
def sign_of_q_1a_2 : List Stmt := []
def sign_of_q_1a_1 : List Stmt := sign_of_s_1a_1 :: sign_of_q_1a_2
def sign_of_q_1a_0 : List Stmt := sign_of_s_1a_0 :: sign_of_q_1a_1
def sign_of_t_1 : Expr := pT (pL (defBody s_sign_of) 1)
def sign_of_i_1 : Expr := pI (pL (defBody s_sign_of) 1)
def sign_of_s_1 : Stmt := .For sign_of_t_1 sign_of_i_1 sign_of_q_1a_0 [] (pP (pL (defBody s_sign_of) 1))
def sign_of_s_2 : Stmt := pL (defBody s_sign_of) 2
def sign_of_q_3 : List Stmt := []
def sign_of_q_2 : List Stmt := sign_of_s_2 :: sign_of_q_3
def sign_of_q_1 : List Stmt := sign_of_s_1 :: sign_of_q_2
def sign_of_q_0 : List Stmt := sign_of_s_0 :: sign_of_q_1
theorem hb_sign_of : defBody s_sign_of = sign_of_q_0 := by kernel_rfl
theorem sc_sign_of : FnScope ["reader", "groups", "row", "found", "letter", "after"] ["reader", "groups", "row"] (defScope s_sign_of) := ⟨rfl, rfl, rfl, by decide +kernel, rfl, by decide +kernel, by decide +kernel⟩
abbrev s_grouped : Stmt := top 24
theorem db_grouped : dbOk ["reader", "rows", "groups", "many", "signs", "order", "row"] = true := by kernel_rfl
theorem vl_grouped : visL (defScope s_grouped) ["reader", "rows", "groups", "many", "signs", "order"] = true := by kernel_rfl
def grouped_s_0 : Stmt := pL (defBody s_grouped) 0
def grouped_s_1 : Stmt := pL (defBody s_grouped) 1
def grouped_s_2a_0 : Stmt := pL (pA (pL (defBody s_grouped) 2)) 0
def grouped_s_2a_1 : Stmt := pL (pA (pL (defBody s_grouped) 2)) 1
def grouped_s_2a_2 : Stmt := pL (pA (pL (defBody s_grouped) 2)) 2
def grouped_s_2a_3 : Stmt := pL (pA (pL (defBody s_grouped) 2)) 3
def grouped_q_2a_4 : List Stmt := []
def grouped_q_2a_3 : List Stmt := grouped_s_2a_3 :: grouped_q_2a_4
def grouped_q_2a_2 : List Stmt := grouped_s_2a_2 :: grouped_q_2a_3
def grouped_q_2a_1 : List Stmt := grouped_s_2a_1 :: grouped_q_2a_2
def grouped_q_2a_0 : List Stmt := grouped_s_2a_0 :: grouped_q_2a_1
def grouped_c_2 : Expr := pC (pL (defBody s_grouped) 2)
def grouped_s_2 : Stmt := .While grouped_c_2 grouped_q_2a_0 [] (pP (pL (defBody s_grouped) 2))
def grouped_s_3 : Stmt := pL (defBody s_grouped) 3
def grouped_q_4 : List Stmt := []
def grouped_q_3 : List Stmt := grouped_s_3 :: grouped_q_4
def grouped_q_2 : List Stmt := grouped_s_2 :: grouped_q_3
def grouped_q_1 : List Stmt := grouped_s_1 :: grouped_q_2
def grouped_q_0 : List Stmt := grouped_s_0 :: grouped_q_1
theorem hb_grouped : defBody s_grouped = grouped_q_0 := by kernel_rfl
theorem sc_grouped : FnScope ["reader", "rows", "groups", "many", "signs", "order", "row"] ["reader", "rows"] (defScope s_grouped) := ⟨rfl, rfl, rfl, by decide +kernel, rfl, by decide +kernel, by decide +kernel⟩
abbrev s_plain_reader : Stmt := top 25
theorem db_plain_reader : dbOk ["reader", "rows", "groups", "order", "row", "found", "group", "behind", "ends", "one", "letter"] = true := by kernel_rfl
theorem vl_plain_reader : visL (defScope s_plain_reader) ["reader", "rows", "groups", "order", "row", "found", "group", "behind", "ends"] = true := by kernel_rfl
def plain_reader_s_0 : Stmt := pL (defBody s_plain_reader) 0
def plain_reader_s_1a_0 : Stmt := pL (pA (pL (defBody s_plain_reader) 1)) 0
def plain_reader_q_1a_1 : List Stmt := []
def plain_reader_q_1a_0 : List Stmt := plain_reader_s_1a_0 :: plain_reader_q_1a_1
def plain_reader_q_1b_0 : List Stmt := []
def plain_reader_c_1 : Expr := pC (pL (defBody s_plain_reader) 1)
def plain_reader_s_1 : Stmt := .If plain_reader_c_1 plain_reader_q_1a_0 plain_reader_q_1b_0 (pP (pL (defBody s_plain_reader) 1))
def plain_reader_s_2 : Stmt := pL (defBody s_plain_reader) 2
def plain_reader_s_3 : Stmt := pL (defBody s_plain_reader) 3
def plain_reader_s_4a_0a_0 : Stmt := pL (pA (pL (pA (pL (defBody s_plain_reader) 4)) 0)) 0
def plain_reader_q_4a_0a_1 : List Stmt := []
def plain_reader_q_4a_0a_0 : List Stmt := plain_reader_s_4a_0a_0 :: plain_reader_q_4a_0a_1
def plain_reader_q_4a_0b_0 : List Stmt := []
def plain_reader_c_4a_0 : Expr := pC (pL (pA (pL (defBody s_plain_reader) 4)) 0)
def plain_reader_s_4a_0 : Stmt := .If plain_reader_c_4a_0 plain_reader_q_4a_0a_0 plain_reader_q_4a_0b_0 (pP (pL (pA (pL (defBody s_plain_reader) 4)) 0))
def plain_reader_q_4a_1 : List Stmt := []
def plain_reader_q_4a_0 : List Stmt := plain_reader_s_4a_0 :: plain_reader_q_4a_1
def plain_reader_t_4 : Expr := pT (pL (defBody s_plain_reader) 4)
def plain_reader_i_4 : Expr := pI (pL (defBody s_plain_reader) 4)
def plain_reader_s_4 : Stmt := .For plain_reader_t_4 plain_reader_i_4 plain_reader_q_4a_0 [] (pP (pL (defBody s_plain_reader) 4))
def plain_reader_s_5 : Stmt := pL (defBody s_plain_reader) 5
def plain_reader_s_6a_0 : Stmt := pL (pA (pL (defBody s_plain_reader) 6)) 0
def plain_reader_s_6a_1 : Stmt := pL (pA (pL (defBody s_plain_reader) 6)) 1
def plain_reader_s_6a_2 : Stmt := pL (pA (pL (defBody s_plain_reader) 6)) 2
def plain_reader_q_6a_3 : List Stmt := []
def plain_reader_q_6a_2 : List Stmt := plain_reader_s_6a_2 :: plain_reader_q_6a_3
def plain_reader_q_6a_1 : List Stmt := plain_reader_s_6a_1 :: plain_reader_q_6a_2
def plain_reader_q_6a_0 : List Stmt := plain_reader_s_6a_0 :: plain_reader_q_6a_1
def plain_reader_t_6 : Expr := pT (pL (defBody s_plain_reader) 6)
def plain_reader_i_6 : Expr := pI (pL (defBody s_plain_reader) 6)
def plain_reader_s_6 : Stmt := .For plain_reader_t_6 plain_reader_i_6 plain_reader_q_6a_0 [] (pP (pL (defBody s_plain_reader) 6))
def plain_reader_s_7 : Stmt := pL (defBody s_plain_reader) 7
def plain_reader_s_8 : Stmt := pL (defBody s_plain_reader) 8
def plain_reader_q_9 : List Stmt := []
def plain_reader_q_8 : List Stmt := plain_reader_s_8 :: plain_reader_q_9
def plain_reader_q_7 : List Stmt := plain_reader_s_7 :: plain_reader_q_8
def plain_reader_q_6 : List Stmt := plain_reader_s_6 :: plain_reader_q_7
def plain_reader_q_5 : List Stmt := plain_reader_s_5 :: plain_reader_q_6
def plain_reader_q_4 : List Stmt := plain_reader_s_4 :: plain_reader_q_5
def plain_reader_q_3 : List Stmt := plain_reader_s_3 :: plain_reader_q_4
def plain_reader_q_2 : List Stmt := plain_reader_s_2 :: plain_reader_q_3
def plain_reader_q_1 : List Stmt := plain_reader_s_1 :: plain_reader_q_2
def plain_reader_q_0 : List Stmt := plain_reader_s_0 :: plain_reader_q_1
theorem hb_plain_reader : defBody s_plain_reader = plain_reader_q_0 := by kernel_rfl
theorem sc_plain_reader : FnScope ["reader", "rows", "groups", "order", "row", "found", "group", "behind", "ends", "one", "letter"] ["reader"] (defScope s_plain_reader) := ⟨rfl, rfl, rfl, by decide +kernel, rfl, by decide +kernel, by decide +kernel⟩
abbrev s__law_begin : Stmt := top 27
theorem db__law_begin : dbOk ["_law_script"] = true := by kernel_rfl
theorem vl__law_begin : visL (defScope s__law_begin) ["_law_script"] = true := by kernel_rfl
def _law_begin_s_0 : Stmt := pL (defBody s__law_begin) 0
def _law_begin_q_1 : List Stmt := []
def _law_begin_q_0 : List Stmt := _law_begin_s_0 :: _law_begin_q_1
theorem hb__law_begin : defBody s__law_begin = _law_begin_q_0 := by kernel_rfl
theorem sc__law_begin : FnScope ["_law_script"] ["_law_script"] (defScope s__law_begin) := ⟨rfl, rfl, rfl, by decide +kernel, rfl, by decide +kernel, by decide +kernel⟩
abbrev s__law_draw : Stmt := top 28
theorem db__law_draw : dbOk ["_law_draws", "_law_size", "_law_cell", "_law_found"] = true := by kernel_rfl
theorem vl__law_draw : visL (defScope s__law_draw) ["_law_draws", "_law_size", "_law_cell", "_law_found"] = true := by kernel_rfl
def _law_draw_s_0a_0a_0 : Stmt := pL (pA (pL (pA (pL (defBody s__law_draw) 0)) 0)) 0
def _law_draw_s_0a_0a_1 : Stmt := pL (pA (pL (pA (pL (defBody s__law_draw) 0)) 0)) 1
def _law_draw_s_0a_0a_2a_0 : Stmt := pL (pA (pL (pA (pL (pA (pL (defBody s__law_draw) 0)) 0)) 2)) 0
def _law_draw_q_0a_0a_2a_1 : List Stmt := []
def _law_draw_q_0a_0a_2a_0 : List Stmt := _law_draw_s_0a_0a_2a_0 :: _law_draw_q_0a_0a_2a_1
def _law_draw_s_0a_0a_2b_0 : Stmt := pL (pB (pL (pA (pL (pA (pL (defBody s__law_draw) 0)) 0)) 2)) 0
def _law_draw_q_0a_0a_2b_1 : List Stmt := []
def _law_draw_q_0a_0a_2b_0 : List Stmt := _law_draw_s_0a_0a_2b_0 :: _law_draw_q_0a_0a_2b_1
def _law_draw_c_0a_0a_2 : Expr := pC (pL (pA (pL (pA (pL (defBody s__law_draw) 0)) 0)) 2)
def _law_draw_s_0a_0a_2 : Stmt := .If _law_draw_c_0a_0a_2 _law_draw_q_0a_0a_2a_0 _law_draw_q_0a_0a_2b_0 (pP (pL (pA (pL (pA (pL (defBody s__law_draw) 0)) 0)) 2))
def _law_draw_q_0a_0a_3 : List Stmt := []
def _law_draw_q_0a_0a_2 : List Stmt := _law_draw_s_0a_0a_2 :: _law_draw_q_0a_0a_3
def _law_draw_q_0a_0a_1 : List Stmt := _law_draw_s_0a_0a_1 :: _law_draw_q_0a_0a_2
def _law_draw_q_0a_0a_0 : List Stmt := _law_draw_s_0a_0a_0 :: _law_draw_q_0a_0a_1
def _law_draw_s_0a_0b_0 : Stmt := pL (pB (pL (pA (pL (defBody s__law_draw) 0)) 0)) 0
def _law_draw_q_0a_0b_1 : List Stmt := []
def _law_draw_q_0a_0b_0 : List Stmt := _law_draw_s_0a_0b_0 :: _law_draw_q_0a_0b_1
def _law_draw_c_0a_0 : Expr := pC (pL (pA (pL (defBody s__law_draw) 0)) 0)
def _law_draw_s_0a_0 : Stmt := .If _law_draw_c_0a_0 _law_draw_q_0a_0a_0 _law_draw_q_0a_0b_0 (pP (pL (pA (pL (defBody s__law_draw) 0)) 0))
def _law_draw_q_0a_1 : List Stmt := []
def _law_draw_q_0a_0 : List Stmt := _law_draw_s_0a_0 :: _law_draw_q_0a_1
def _law_draw_q_0b_0 : List Stmt := []
def _law_draw_c_0 : Expr := pC (pL (defBody s__law_draw) 0)
def _law_draw_s_0 : Stmt := .If _law_draw_c_0 _law_draw_q_0a_0 _law_draw_q_0b_0 (pP (pL (defBody s__law_draw) 0))
def _law_draw_s_1a_0 : Stmt := pL (pA (pL (defBody s__law_draw) 1)) 0
def _law_draw_s_1a_1 : Stmt := pL (pA (pL (defBody s__law_draw) 1)) 1
def _law_draw_s_1a_2 : Stmt := pL (pA (pL (defBody s__law_draw) 1)) 2
def _law_draw_q_1a_3 : List Stmt := []
def _law_draw_q_1a_2 : List Stmt := _law_draw_s_1a_2 :: _law_draw_q_1a_3
def _law_draw_q_1a_1 : List Stmt := _law_draw_s_1a_1 :: _law_draw_q_1a_2
def _law_draw_q_1a_0 : List Stmt := _law_draw_s_1a_0 :: _law_draw_q_1a_1
def _law_draw_q_1b_0 : List Stmt := []
def _law_draw_c_1 : Expr := pC (pL (defBody s__law_draw) 1)
def _law_draw_s_1 : Stmt := .If _law_draw_c_1 _law_draw_q_1a_0 _law_draw_q_1b_0 (pP (pL (defBody s__law_draw) 1))
def _law_draw_s_2 : Stmt := pL (defBody s__law_draw) 2
def _law_draw_q_3 : List Stmt := []
def _law_draw_q_2 : List Stmt := _law_draw_s_2 :: _law_draw_q_3
def _law_draw_q_1 : List Stmt := _law_draw_s_1 :: _law_draw_q_2
def _law_draw_q_0 : List Stmt := _law_draw_s_0 :: _law_draw_q_1
theorem hb__law_draw : defBody s__law_draw = _law_draw_q_0 := by kernel_rfl
theorem sc__law_draw : FnScope ["_law_draws", "_law_size", "_law_cell", "_law_found"] ["_law_draws", "_law_size"] (defScope s__law_draw) := ⟨rfl, rfl, rfl, by decide +kernel, rfl, by decide +kernel, by decide +kernel⟩
abbrev s__law_machine : Stmt := top 29
theorem db__law_machine : dbOk ["_law_draws", "_law_many", "_law_letters", "_law_rows", "_law_k", "_law_row_here", "_law_letter", "_law_ends"] = true := by kernel_rfl
theorem vl__law_machine : visL (defScope s__law_machine) ["_law_draws", "_law_many", "_law_letters", "_law_rows", "_law_k", "_law_row_here", "_law_letter", "_law_ends"] = true := by kernel_rfl
def _law_machine_s_0 : Stmt := pL (defBody s__law_machine) 0
def _law_machine_s_1a_0 : Stmt := pL (pA (pL (defBody s__law_machine) 1)) 0
def _law_machine_s_1a_1a_0a_0 : Stmt := pL (pA (pL (pA (pL (pA (pL (defBody s__law_machine) 1)) 1)) 0)) 0
def _law_machine_q_1a_1a_0a_1 : List Stmt := []
def _law_machine_q_1a_1a_0a_0 : List Stmt := _law_machine_s_1a_1a_0a_0 :: _law_machine_q_1a_1a_0a_1
def _law_machine_q_1a_1a_0b_0 : List Stmt := []
def _law_machine_c_1a_1a_0 : Expr := pC (pL (pA (pL (pA (pL (defBody s__law_machine) 1)) 1)) 0)
def _law_machine_s_1a_1a_0 : Stmt := .If _law_machine_c_1a_1a_0 _law_machine_q_1a_1a_0a_0 _law_machine_q_1a_1a_0b_0 (pP (pL (pA (pL (pA (pL (defBody s__law_machine) 1)) 1)) 0))
def _law_machine_q_1a_1a_1 : List Stmt := []
def _law_machine_q_1a_1a_0 : List Stmt := _law_machine_s_1a_1a_0 :: _law_machine_q_1a_1a_1
def _law_machine_t_1a_1 : Expr := pT (pL (pA (pL (defBody s__law_machine) 1)) 1)
def _law_machine_i_1a_1 : Expr := pI (pL (pA (pL (defBody s__law_machine) 1)) 1)
def _law_machine_s_1a_1 : Stmt := .For _law_machine_t_1a_1 _law_machine_i_1a_1 _law_machine_q_1a_1a_0 [] (pP (pL (pA (pL (defBody s__law_machine) 1)) 1))
def _law_machine_s_1a_2 : Stmt := pL (pA (pL (defBody s__law_machine) 1)) 2
def _law_machine_q_1a_3 : List Stmt := []
def _law_machine_q_1a_2 : List Stmt := _law_machine_s_1a_2 :: _law_machine_q_1a_3
def _law_machine_q_1a_1 : List Stmt := _law_machine_s_1a_1 :: _law_machine_q_1a_2
def _law_machine_q_1a_0 : List Stmt := _law_machine_s_1a_0 :: _law_machine_q_1a_1
def _law_machine_t_1 : Expr := pT (pL (defBody s__law_machine) 1)
def _law_machine_i_1 : Expr := pI (pL (defBody s__law_machine) 1)
def _law_machine_s_1 : Stmt := .For _law_machine_t_1 _law_machine_i_1 _law_machine_q_1a_0 [] (pP (pL (defBody s__law_machine) 1))
def _law_machine_s_2 : Stmt := pL (defBody s__law_machine) 2
def _law_machine_s_3a_0 : Stmt := pL (pA (pL (defBody s__law_machine) 3)) 0
def _law_machine_q_3a_1 : List Stmt := []
def _law_machine_q_3a_0 : List Stmt := _law_machine_s_3a_0 :: _law_machine_q_3a_1
def _law_machine_q_3b_0 : List Stmt := []
def _law_machine_c_3 : Expr := pC (pL (defBody s__law_machine) 3)
def _law_machine_s_3 : Stmt := .If _law_machine_c_3 _law_machine_q_3a_0 _law_machine_q_3b_0 (pP (pL (defBody s__law_machine) 3))
def _law_machine_s_4 : Stmt := pL (defBody s__law_machine) 4
def _law_machine_q_5 : List Stmt := []
def _law_machine_q_4 : List Stmt := _law_machine_s_4 :: _law_machine_q_5
def _law_machine_q_3 : List Stmt := _law_machine_s_3 :: _law_machine_q_4
def _law_machine_q_2 : List Stmt := _law_machine_s_2 :: _law_machine_q_3
def _law_machine_q_1 : List Stmt := _law_machine_s_1 :: _law_machine_q_2
def _law_machine_q_0 : List Stmt := _law_machine_s_0 :: _law_machine_q_1
theorem hb__law_machine : defBody s__law_machine = _law_machine_q_0 := by kernel_rfl
theorem sc__law_machine : FnScope ["_law_draws", "_law_many", "_law_letters", "_law_rows", "_law_k", "_law_row_here", "_law_letter", "_law_ends"] ["_law_draws", "_law_many", "_law_letters"] (defScope s__law_machine) := ⟨rfl, rfl, rfl, by decide +kernel, rfl, by decide +kernel, by decide +kernel⟩
abbrev s__law_after : Stmt := top 30
theorem db__law_after : dbOk ["_law_machine_here", "_law_row_here", "_law_letter"] = true := by kernel_rfl
theorem vl__law_after : visL (defScope s__law_after) ["_law_machine_here", "_law_row_here", "_law_letter"] = true := by kernel_rfl
def _law_after_s_0a_0 : Stmt := pL (pA (pL (defBody s__law_after) 0)) 0
def _law_after_q_0a_1 : List Stmt := []
def _law_after_q_0a_0 : List Stmt := _law_after_s_0a_0 :: _law_after_q_0a_1
def _law_after_q_0b_0 : List Stmt := []
def _law_after_c_0 : Expr := pC (pL (defBody s__law_after) 0)
def _law_after_s_0 : Stmt := .If _law_after_c_0 _law_after_q_0a_0 _law_after_q_0b_0 (pP (pL (defBody s__law_after) 0))
def _law_after_s_1 : Stmt := pL (defBody s__law_after) 1
def _law_after_q_2 : List Stmt := []
def _law_after_q_1 : List Stmt := _law_after_s_1 :: _law_after_q_2
def _law_after_q_0 : List Stmt := _law_after_s_0 :: _law_after_q_1
theorem hb__law_after : defBody s__law_after = _law_after_q_0 := by kernel_rfl
theorem sc__law_after : FnScope ["_law_machine_here", "_law_row_here", "_law_letter"] ["_law_machine_here", "_law_row_here", "_law_letter"] (defScope s__law_after) := ⟨rfl, rfl, rfl, by decide +kernel, rfl, by decide +kernel, by decide +kernel⟩
abbrev s__law_row : Stmt := top 31
theorem db__law_row : dbOk ["_law_machine_here", "_law_text", "_law_row_here", "_law_letter"] = true := by kernel_rfl
theorem vl__law_row : visL (defScope s__law_row) ["_law_machine_here", "_law_text", "_law_row_here", "_law_letter"] = true := by kernel_rfl
def _law_row_s_0 : Stmt := pL (defBody s__law_row) 0
def _law_row_s_1a_0 : Stmt := pL (pA (pL (defBody s__law_row) 1)) 0
def _law_row_q_1a_1 : List Stmt := []
def _law_row_q_1a_0 : List Stmt := _law_row_s_1a_0 :: _law_row_q_1a_1
def _law_row_t_1 : Expr := pT (pL (defBody s__law_row) 1)
def _law_row_i_1 : Expr := pI (pL (defBody s__law_row) 1)
def _law_row_s_1 : Stmt := .For _law_row_t_1 _law_row_i_1 _law_row_q_1a_0 [] (pP (pL (defBody s__law_row) 1))
def _law_row_s_2 : Stmt := pL (defBody s__law_row) 2
def _law_row_q_3 : List Stmt := []
def _law_row_q_2 : List Stmt := _law_row_s_2 :: _law_row_q_3
def _law_row_q_1 : List Stmt := _law_row_s_1 :: _law_row_q_2
def _law_row_q_0 : List Stmt := _law_row_s_0 :: _law_row_q_1
theorem hb__law_row : defBody s__law_row = _law_row_q_0 := by kernel_rfl
theorem sc__law_row : FnScope ["_law_machine_here", "_law_text", "_law_row_here", "_law_letter"] ["_law_machine_here", "_law_text"] (defScope s__law_row) := ⟨rfl, rfl, rfl, by decide +kernel, rfl, by decide +kernel, by decide +kernel⟩
abbrev s__law_has : Stmt := top 32
theorem db__law_has : dbOk ["_law_machine_here", "_law_text", "_law_row_here"] = true := by kernel_rfl
theorem vl__law_has : visL (defScope s__law_has) ["_law_machine_here", "_law_text", "_law_row_here"] = true := by kernel_rfl
def _law_has_s_0 : Stmt := pL (defBody s__law_has) 0
def _law_has_s_1 : Stmt := pL (defBody s__law_has) 1
def _law_has_q_2 : List Stmt := []
def _law_has_q_1 : List Stmt := _law_has_s_1 :: _law_has_q_2
def _law_has_q_0 : List Stmt := _law_has_s_0 :: _law_has_q_1
theorem hb__law_has : defBody s__law_has = _law_has_q_0 := by kernel_rfl
theorem sc__law_has : FnScope ["_law_machine_here", "_law_text", "_law_row_here"] ["_law_machine_here", "_law_text"] (defScope s__law_has) := ⟨rfl, rfl, rfl, by decide +kernel, rfl, by decide +kernel, by decide +kernel⟩
abbrev s__law_texts : Stmt := top 33
theorem db__law_texts : dbOk ["_law_letters", "_law_size", "_law_found", "_law_layer", "_law_k", "_law_longer", "_law_text", "_law_letter"] = true := by kernel_rfl
theorem vl__law_texts : visL (defScope s__law_texts) ["_law_letters", "_law_size", "_law_found", "_law_layer", "_law_k", "_law_longer", "_law_text"] = true := by kernel_rfl
def _law_texts_s_0 : Stmt := pL (defBody s__law_texts) 0
def _law_texts_s_1 : Stmt := pL (defBody s__law_texts) 1
def _law_texts_s_2a_0 : Stmt := pL (pA (pL (defBody s__law_texts) 2)) 0
def _law_texts_s_2a_1a_0 : Stmt := pL (pA (pL (pA (pL (defBody s__law_texts) 2)) 1)) 0
def _law_texts_q_2a_1a_1 : List Stmt := []
def _law_texts_q_2a_1a_0 : List Stmt := _law_texts_s_2a_1a_0 :: _law_texts_q_2a_1a_1
def _law_texts_t_2a_1 : Expr := pT (pL (pA (pL (defBody s__law_texts) 2)) 1)
def _law_texts_i_2a_1 : Expr := pI (pL (pA (pL (defBody s__law_texts) 2)) 1)
def _law_texts_s_2a_1 : Stmt := .For _law_texts_t_2a_1 _law_texts_i_2a_1 _law_texts_q_2a_1a_0 [] (pP (pL (pA (pL (defBody s__law_texts) 2)) 1))
def _law_texts_s_2a_2 : Stmt := pL (pA (pL (defBody s__law_texts) 2)) 2
def _law_texts_s_2a_3 : Stmt := pL (pA (pL (defBody s__law_texts) 2)) 3
def _law_texts_q_2a_4 : List Stmt := []
def _law_texts_q_2a_3 : List Stmt := _law_texts_s_2a_3 :: _law_texts_q_2a_4
def _law_texts_q_2a_2 : List Stmt := _law_texts_s_2a_2 :: _law_texts_q_2a_3
def _law_texts_q_2a_1 : List Stmt := _law_texts_s_2a_1 :: _law_texts_q_2a_2
def _law_texts_q_2a_0 : List Stmt := _law_texts_s_2a_0 :: _law_texts_q_2a_1
def _law_texts_t_2 : Expr := pT (pL (defBody s__law_texts) 2)
def _law_texts_i_2 : Expr := pI (pL (defBody s__law_texts) 2)
def _law_texts_s_2 : Stmt := .For _law_texts_t_2 _law_texts_i_2 _law_texts_q_2a_0 [] (pP (pL (defBody s__law_texts) 2))
def _law_texts_s_3 : Stmt := pL (defBody s__law_texts) 3
def _law_texts_q_4 : List Stmt := []
def _law_texts_q_3 : List Stmt := _law_texts_s_3 :: _law_texts_q_4
def _law_texts_q_2 : List Stmt := _law_texts_s_2 :: _law_texts_q_3
def _law_texts_q_1 : List Stmt := _law_texts_s_1 :: _law_texts_q_2
def _law_texts_q_0 : List Stmt := _law_texts_s_0 :: _law_texts_q_1
theorem hb__law_texts : defBody s__law_texts = _law_texts_q_0 := by kernel_rfl
theorem sc__law_texts : FnScope ["_law_letters", "_law_size", "_law_found", "_law_layer", "_law_k", "_law_longer", "_law_text", "_law_letter"] ["_law_letters", "_law_size"] (defScope s__law_texts) := ⟨rfl, rfl, rfl, by decide +kernel, rfl, by decide +kernel, by decide +kernel⟩
abbrev s__law_needed : Stmt := top 34
theorem db__law_needed : dbOk ["_law_machine_here", "_law_reached", "_law_at", "_law_letter", "_law_again", "_law_good", "_law_row_here", "_law_to", "_law_ways"] = true := by kernel_rfl
theorem vl__law_needed : visL (defScope s__law_needed) ["_law_machine_here", "_law_reached", "_law_at", "_law_letter", "_law_again", "_law_good", "_law_row_here", "_law_to", "_law_ways"] = true := by kernel_rfl
def _law_needed_s_0 : Stmt := pL (defBody s__law_needed) 0
def _law_needed_s_1 : Stmt := pL (defBody s__law_needed) 1
def _law_needed_s_2a_0a_0a_0 : Stmt := pL (pA (pL (pA (pL (pA (pL (defBody s__law_needed) 2)) 0)) 0)) 0
def _law_needed_q_2a_0a_0a_1 : List Stmt := []
def _law_needed_q_2a_0a_0a_0 : List Stmt := _law_needed_s_2a_0a_0a_0 :: _law_needed_q_2a_0a_0a_1
def _law_needed_q_2a_0a_0b_0 : List Stmt := []
def _law_needed_c_2a_0a_0 : Expr := pC (pL (pA (pL (pA (pL (defBody s__law_needed) 2)) 0)) 0)
def _law_needed_s_2a_0a_0 : Stmt := .If _law_needed_c_2a_0a_0 _law_needed_q_2a_0a_0a_0 _law_needed_q_2a_0a_0b_0 (pP (pL (pA (pL (pA (pL (defBody s__law_needed) 2)) 0)) 0))
def _law_needed_q_2a_0a_1 : List Stmt := []
def _law_needed_q_2a_0a_0 : List Stmt := _law_needed_s_2a_0a_0 :: _law_needed_q_2a_0a_1
def _law_needed_t_2a_0 : Expr := pT (pL (pA (pL (defBody s__law_needed) 2)) 0)
def _law_needed_i_2a_0 : Expr := pI (pL (pA (pL (defBody s__law_needed) 2)) 0)
def _law_needed_s_2a_0 : Stmt := .For _law_needed_t_2a_0 _law_needed_i_2a_0 _law_needed_q_2a_0a_0 [] (pP (pL (pA (pL (defBody s__law_needed) 2)) 0))
def _law_needed_s_2a_1 : Stmt := pL (pA (pL (defBody s__law_needed) 2)) 1
def _law_needed_q_2a_2 : List Stmt := []
def _law_needed_q_2a_1 : List Stmt := _law_needed_s_2a_1 :: _law_needed_q_2a_2
def _law_needed_q_2a_0 : List Stmt := _law_needed_s_2a_0 :: _law_needed_q_2a_1
def _law_needed_c_2 : Expr := pC (pL (defBody s__law_needed) 2)
def _law_needed_s_2 : Stmt := .While _law_needed_c_2 _law_needed_q_2a_0 [] (pP (pL (defBody s__law_needed) 2))
def _law_needed_s_3 : Stmt := pL (defBody s__law_needed) 3
def _law_needed_s_4 : Stmt := pL (defBody s__law_needed) 4
def _law_needed_s_5a_0 : Stmt := pL (pA (pL (defBody s__law_needed) 5)) 0
def _law_needed_s_5a_1a_0 : Stmt := pL (pA (pL (pA (pL (defBody s__law_needed) 5)) 1)) 0
def _law_needed_s_5a_1a_1 : Stmt := pL (pA (pL (pA (pL (defBody s__law_needed) 5)) 1)) 1
def _law_needed_s_5a_1a_2a_0 : Stmt := pL (pA (pL (pA (pL (pA (pL (defBody s__law_needed) 5)) 1)) 2)) 0
def _law_needed_s_5a_1a_2a_1 : Stmt := pL (pA (pL (pA (pL (pA (pL (defBody s__law_needed) 5)) 1)) 2)) 1
def _law_needed_q_5a_1a_2a_2 : List Stmt := []
def _law_needed_q_5a_1a_2a_1 : List Stmt := _law_needed_s_5a_1a_2a_1 :: _law_needed_q_5a_1a_2a_2
def _law_needed_q_5a_1a_2a_0 : List Stmt := _law_needed_s_5a_1a_2a_0 :: _law_needed_q_5a_1a_2a_1
def _law_needed_q_5a_1a_2b_0 : List Stmt := []
def _law_needed_c_5a_1a_2 : Expr := pC (pL (pA (pL (pA (pL (defBody s__law_needed) 5)) 1)) 2)
def _law_needed_s_5a_1a_2 : Stmt := .If _law_needed_c_5a_1a_2 _law_needed_q_5a_1a_2a_0 _law_needed_q_5a_1a_2b_0 (pP (pL (pA (pL (pA (pL (defBody s__law_needed) 5)) 1)) 2))
def _law_needed_q_5a_1a_3 : List Stmt := []
def _law_needed_q_5a_1a_2 : List Stmt := _law_needed_s_5a_1a_2 :: _law_needed_q_5a_1a_3
def _law_needed_q_5a_1a_1 : List Stmt := _law_needed_s_5a_1a_1 :: _law_needed_q_5a_1a_2
def _law_needed_q_5a_1a_0 : List Stmt := _law_needed_s_5a_1a_0 :: _law_needed_q_5a_1a_1
def _law_needed_t_5a_1 : Expr := pT (pL (pA (pL (defBody s__law_needed) 5)) 1)
def _law_needed_i_5a_1 : Expr := pI (pL (pA (pL (defBody s__law_needed) 5)) 1)
def _law_needed_s_5a_1 : Stmt := .For _law_needed_t_5a_1 _law_needed_i_5a_1 _law_needed_q_5a_1a_0 [] (pP (pL (pA (pL (defBody s__law_needed) 5)) 1))
def _law_needed_q_5a_2 : List Stmt := []
def _law_needed_q_5a_1 : List Stmt := _law_needed_s_5a_1 :: _law_needed_q_5a_2
def _law_needed_q_5a_0 : List Stmt := _law_needed_s_5a_0 :: _law_needed_q_5a_1
def _law_needed_c_5 : Expr := pC (pL (defBody s__law_needed) 5)
def _law_needed_s_5 : Stmt := .While _law_needed_c_5 _law_needed_q_5a_0 [] (pP (pL (defBody s__law_needed) 5))
def _law_needed_s_6 : Stmt := pL (defBody s__law_needed) 6
def _law_needed_q_7 : List Stmt := []
def _law_needed_q_6 : List Stmt := _law_needed_s_6 :: _law_needed_q_7
def _law_needed_q_5 : List Stmt := _law_needed_s_5 :: _law_needed_q_6
def _law_needed_q_4 : List Stmt := _law_needed_s_4 :: _law_needed_q_5
def _law_needed_q_3 : List Stmt := _law_needed_s_3 :: _law_needed_q_4
def _law_needed_q_2 : List Stmt := _law_needed_s_2 :: _law_needed_q_3
def _law_needed_q_1 : List Stmt := _law_needed_s_1 :: _law_needed_q_2
def _law_needed_q_0 : List Stmt := _law_needed_s_0 :: _law_needed_q_1
theorem hb__law_needed : defBody s__law_needed = _law_needed_q_0 := by kernel_rfl
theorem sc__law_needed : FnScope ["_law_machine_here", "_law_reached", "_law_at", "_law_letter", "_law_again", "_law_good", "_law_row_here", "_law_to", "_law_ways"] ["_law_machine_here"] (defScope s__law_needed) := ⟨rfl, rfl, rfl, by decide +kernel, rfl, by decide +kernel, by decide +kernel⟩
abbrev s__law_like : Stmt := top 35
theorem db__law_like : dbOk ["_law_actual", "_law_due", "_law_k", "_law_key"] = true := by kernel_rfl
theorem vl__law_like : visL (defScope s__law_like) ["_law_actual", "_law_due", "_law_k"] = true := by kernel_rfl
def _law_like_s_0a_0a_0 : Stmt := pL (pA (pL (pA (pL (defBody s__law_like) 0)) 0)) 0
def _law_like_q_0a_0a_1 : List Stmt := []
def _law_like_q_0a_0a_0 : List Stmt := _law_like_s_0a_0a_0 :: _law_like_q_0a_0a_1
def _law_like_q_0a_0b_0 : List Stmt := []
def _law_like_c_0a_0 : Expr := pC (pL (pA (pL (defBody s__law_like) 0)) 0)
def _law_like_s_0a_0 : Stmt := .If _law_like_c_0a_0 _law_like_q_0a_0a_0 _law_like_q_0a_0b_0 (pP (pL (pA (pL (defBody s__law_like) 0)) 0))
def _law_like_s_0a_1 : Stmt := pL (pA (pL (defBody s__law_like) 0)) 1
def _law_like_q_0a_2 : List Stmt := []
def _law_like_q_0a_1 : List Stmt := _law_like_s_0a_1 :: _law_like_q_0a_2
def _law_like_q_0a_0 : List Stmt := _law_like_s_0a_0 :: _law_like_q_0a_1
def _law_like_q_0b_0 : List Stmt := []
def _law_like_c_0 : Expr := pC (pL (defBody s__law_like) 0)
def _law_like_s_0 : Stmt := .If _law_like_c_0 _law_like_q_0a_0 _law_like_q_0b_0 (pP (pL (defBody s__law_like) 0))
def _law_like_s_1a_0 : Stmt := pL (pA (pL (defBody s__law_like) 1)) 0
def _law_like_q_1a_1 : List Stmt := []
def _law_like_q_1a_0 : List Stmt := _law_like_s_1a_0 :: _law_like_q_1a_1
def _law_like_q_1b_0 : List Stmt := []
def _law_like_c_1 : Expr := pC (pL (defBody s__law_like) 1)
def _law_like_s_1 : Stmt := .If _law_like_c_1 _law_like_q_1a_0 _law_like_q_1b_0 (pP (pL (defBody s__law_like) 1))
def _law_like_s_2a_0 : Stmt := pL (pA (pL (defBody s__law_like) 2)) 0
def _law_like_q_2a_1 : List Stmt := []
def _law_like_q_2a_0 : List Stmt := _law_like_s_2a_0 :: _law_like_q_2a_1
def _law_like_q_2b_0 : List Stmt := []
def _law_like_c_2 : Expr := pC (pL (defBody s__law_like) 2)
def _law_like_s_2 : Stmt := .If _law_like_c_2 _law_like_q_2a_0 _law_like_q_2b_0 (pP (pL (defBody s__law_like) 2))
def _law_like_s_3a_0 : Stmt := pL (pA (pL (defBody s__law_like) 3)) 0
def _law_like_q_3a_1 : List Stmt := []
def _law_like_q_3a_0 : List Stmt := _law_like_s_3a_0 :: _law_like_q_3a_1
def _law_like_q_3b_0 : List Stmt := []
def _law_like_c_3 : Expr := pC (pL (defBody s__law_like) 3)
def _law_like_s_3 : Stmt := .If _law_like_c_3 _law_like_q_3a_0 _law_like_q_3b_0 (pP (pL (defBody s__law_like) 3))
def _law_like_s_4a_0 : Stmt := pL (pA (pL (defBody s__law_like) 4)) 0
def _law_like_q_4a_1 : List Stmt := []
def _law_like_q_4a_0 : List Stmt := _law_like_s_4a_0 :: _law_like_q_4a_1
def _law_like_q_4b_0 : List Stmt := []
def _law_like_c_4 : Expr := pC (pL (defBody s__law_like) 4)
def _law_like_s_4 : Stmt := .If _law_like_c_4 _law_like_q_4a_0 _law_like_q_4b_0 (pP (pL (defBody s__law_like) 4))
def _law_like_s_5a_0a_0 : Stmt := pL (pA (pL (pA (pL (defBody s__law_like) 5)) 0)) 0
def _law_like_q_5a_0a_1 : List Stmt := []
def _law_like_q_5a_0a_0 : List Stmt := _law_like_s_5a_0a_0 :: _law_like_q_5a_0a_1
def _law_like_q_5a_0b_0 : List Stmt := []
def _law_like_c_5a_0 : Expr := pC (pL (pA (pL (defBody s__law_like) 5)) 0)
def _law_like_s_5a_0 : Stmt := .If _law_like_c_5a_0 _law_like_q_5a_0a_0 _law_like_q_5a_0b_0 (pP (pL (pA (pL (defBody s__law_like) 5)) 0))
def _law_like_q_5a_1 : List Stmt := []
def _law_like_q_5a_0 : List Stmt := _law_like_s_5a_0 :: _law_like_q_5a_1
def _law_like_s_5b_0a_0 : Stmt := pL (pA (pL (pB (pL (defBody s__law_like) 5)) 0)) 0
def _law_like_q_5b_0a_1 : List Stmt := []
def _law_like_q_5b_0a_0 : List Stmt := _law_like_s_5b_0a_0 :: _law_like_q_5b_0a_1
def _law_like_q_5b_0b_0 : List Stmt := []
def _law_like_c_5b_0 : Expr := pC (pL (pB (pL (defBody s__law_like) 5)) 0)
def _law_like_s_5b_0 : Stmt := .If _law_like_c_5b_0 _law_like_q_5b_0a_0 _law_like_q_5b_0b_0 (pP (pL (pB (pL (defBody s__law_like) 5)) 0))
def _law_like_q_5b_1 : List Stmt := []
def _law_like_q_5b_0 : List Stmt := _law_like_s_5b_0 :: _law_like_q_5b_1
def _law_like_c_5 : Expr := pC (pL (defBody s__law_like) 5)
def _law_like_s_5 : Stmt := .If _law_like_c_5 _law_like_q_5a_0 _law_like_q_5b_0 (pP (pL (defBody s__law_like) 5))
def _law_like_s_6a_0a_0 : Stmt := pL (pA (pL (pA (pL (defBody s__law_like) 6)) 0)) 0
def _law_like_q_6a_0a_1 : List Stmt := []
def _law_like_q_6a_0a_0 : List Stmt := _law_like_s_6a_0a_0 :: _law_like_q_6a_0a_1
def _law_like_q_6a_0b_0 : List Stmt := []
def _law_like_c_6a_0 : Expr := pC (pL (pA (pL (defBody s__law_like) 6)) 0)
def _law_like_s_6a_0 : Stmt := .If _law_like_c_6a_0 _law_like_q_6a_0a_0 _law_like_q_6a_0b_0 (pP (pL (pA (pL (defBody s__law_like) 6)) 0))
def _law_like_q_6a_1 : List Stmt := []
def _law_like_q_6a_0 : List Stmt := _law_like_s_6a_0 :: _law_like_q_6a_1
def _law_like_t_6 : Expr := pT (pL (defBody s__law_like) 6)
def _law_like_i_6 : Expr := pI (pL (defBody s__law_like) 6)
def _law_like_s_6 : Stmt := .For _law_like_t_6 _law_like_i_6 _law_like_q_6a_0 [] (pP (pL (defBody s__law_like) 6))
def _law_like_s_7 : Stmt := pL (defBody s__law_like) 7
def _law_like_q_8 : List Stmt := []
def _law_like_q_7 : List Stmt := _law_like_s_7 :: _law_like_q_8
def _law_like_q_6 : List Stmt := _law_like_s_6 :: _law_like_q_7
def _law_like_q_5 : List Stmt := _law_like_s_5 :: _law_like_q_6
def _law_like_q_4 : List Stmt := _law_like_s_4 :: _law_like_q_5
def _law_like_q_3 : List Stmt := _law_like_s_3 :: _law_like_q_4
def _law_like_q_2 : List Stmt := _law_like_s_2 :: _law_like_q_3
def _law_like_q_1 : List Stmt := _law_like_s_1 :: _law_like_q_2
def _law_like_q_0 : List Stmt := _law_like_s_0 :: _law_like_q_1
theorem hb__law_like : defBody s__law_like = _law_like_q_0 := by kernel_rfl
theorem sc__law_like : FnScope ["_law_actual", "_law_due", "_law_k", "_law_key"] ["_law_actual", "_law_due"] (defScope s__law_like) := ⟨rfl, rfl, rfl, by decide +kernel, rfl, by decide +kernel, by decide +kernel⟩
abbrev s__law_make : Stmt := top 36
theorem db__law_make : dbOk ["_law_machine_here"] = true := by kernel_rfl
theorem vl__law_make : visL (defScope s__law_make) ["_law_machine_here"] = true := by kernel_rfl
def _law_make_s_0 : Stmt := pL (defBody s__law_make) 0
def _law_make_q_1 : List Stmt := []
def _law_make_q_0 : List Stmt := _law_make_s_0 :: _law_make_q_1
theorem hb__law_make : defBody s__law_make = _law_make_q_0 := by kernel_rfl
theorem sc__law_make : FnScope ["_law_machine_here"] ["_law_machine_here"] (defScope s__law_make) := ⟨rfl, rfl, rfl, by decide +kernel, rfl, by decide +kernel, by decide +kernel⟩
abbrev s__law_told : Stmt := top 37
theorem db__law_told : dbOk ["_law_machine_here", "_law_told_here"] = true := by kernel_rfl
theorem vl__law_told : visL (defScope s__law_told) ["_law_machine_here", "_law_told_here"] = true := by kernel_rfl
def _law_told_s_0 : Stmt := pL (defBody s__law_told) 0
def _law_told_s_1a_0 : Stmt := pL (pA (pL (defBody s__law_told) 1)) 0
def _law_told_q_1a_1 : List Stmt := []
def _law_told_q_1a_0 : List Stmt := _law_told_s_1a_0 :: _law_told_q_1a_1
def _law_told_s_1 : Stmt := .Try _law_told_q_1a_0 (pH (pL (defBody s__law_told) 1)) [] [] (pP (pL (defBody s__law_told) 1))
def _law_told_s_2 : Stmt := pL (defBody s__law_told) 2
def _law_told_q_3 : List Stmt := []
def _law_told_q_2 : List Stmt := _law_told_s_2 :: _law_told_q_3
def _law_told_q_1 : List Stmt := _law_told_s_1 :: _law_told_q_2
def _law_told_q_0 : List Stmt := _law_told_s_0 :: _law_told_q_1
theorem hb__law_told : defBody s__law_told = _law_told_q_0 := by kernel_rfl
theorem sc__law_told : FnScope ["_law_machine_here", "_law_told_here"] ["_law_machine_here"] (defScope s__law_told) := ⟨rfl, rfl, rfl, by decide +kernel, rfl, by decide +kernel, by decide +kernel⟩
abbrev s__law_pairs : Stmt := top 38
theorem db__law_pairs : dbOk ["_law_one", "_law_two", "_law_found", "_law_at", "_law_letter", "_law_here", "_law_there", "_law_pair"] = true := by kernel_rfl
theorem vl__law_pairs : visL (defScope s__law_pairs) ["_law_one", "_law_two", "_law_found", "_law_at", "_law_letter", "_law_here", "_law_there", "_law_pair"] = true := by kernel_rfl
def _law_pairs_s_0 : Stmt := pL (defBody s__law_pairs) 0
def _law_pairs_s_1 : Stmt := pL (defBody s__law_pairs) 1
def _law_pairs_s_2a_0a_0 : Stmt := pL (pA (pL (pA (pL (defBody s__law_pairs) 2)) 0)) 0
def _law_pairs_s_2a_0a_1 : Stmt := pL (pA (pL (pA (pL (defBody s__law_pairs) 2)) 0)) 1
def _law_pairs_s_2a_0a_2a_0 : Stmt := pL (pA (pL (pA (pL (pA (pL (defBody s__law_pairs) 2)) 0)) 2)) 0
def _law_pairs_q_2a_0a_2a_1 : List Stmt := []
def _law_pairs_q_2a_0a_2a_0 : List Stmt := _law_pairs_s_2a_0a_2a_0 :: _law_pairs_q_2a_0a_2a_1
def _law_pairs_q_2a_0a_2b_0 : List Stmt := []
def _law_pairs_c_2a_0a_2 : Expr := pC (pL (pA (pL (pA (pL (defBody s__law_pairs) 2)) 0)) 2)
def _law_pairs_s_2a_0a_2 : Stmt := .If _law_pairs_c_2a_0a_2 _law_pairs_q_2a_0a_2a_0 _law_pairs_q_2a_0a_2b_0 (pP (pL (pA (pL (pA (pL (defBody s__law_pairs) 2)) 0)) 2))
def _law_pairs_q_2a_0a_3 : List Stmt := []
def _law_pairs_q_2a_0a_2 : List Stmt := _law_pairs_s_2a_0a_2 :: _law_pairs_q_2a_0a_3
def _law_pairs_q_2a_0a_1 : List Stmt := _law_pairs_s_2a_0a_1 :: _law_pairs_q_2a_0a_2
def _law_pairs_q_2a_0a_0 : List Stmt := _law_pairs_s_2a_0a_0 :: _law_pairs_q_2a_0a_1
def _law_pairs_t_2a_0 : Expr := pT (pL (pA (pL (defBody s__law_pairs) 2)) 0)
def _law_pairs_i_2a_0 : Expr := pI (pL (pA (pL (defBody s__law_pairs) 2)) 0)
def _law_pairs_s_2a_0 : Stmt := .For _law_pairs_t_2a_0 _law_pairs_i_2a_0 _law_pairs_q_2a_0a_0 [] (pP (pL (pA (pL (defBody s__law_pairs) 2)) 0))
def _law_pairs_s_2a_1 : Stmt := pL (pA (pL (defBody s__law_pairs) 2)) 1
def _law_pairs_q_2a_2 : List Stmt := []
def _law_pairs_q_2a_1 : List Stmt := _law_pairs_s_2a_1 :: _law_pairs_q_2a_2
def _law_pairs_q_2a_0 : List Stmt := _law_pairs_s_2a_0 :: _law_pairs_q_2a_1
def _law_pairs_c_2 : Expr := pC (pL (defBody s__law_pairs) 2)
def _law_pairs_s_2 : Stmt := .While _law_pairs_c_2 _law_pairs_q_2a_0 [] (pP (pL (defBody s__law_pairs) 2))
def _law_pairs_s_3 : Stmt := pL (defBody s__law_pairs) 3
def _law_pairs_q_4 : List Stmt := []
def _law_pairs_q_3 : List Stmt := _law_pairs_s_3 :: _law_pairs_q_4
def _law_pairs_q_2 : List Stmt := _law_pairs_s_2 :: _law_pairs_q_3
def _law_pairs_q_1 : List Stmt := _law_pairs_s_1 :: _law_pairs_q_2
def _law_pairs_q_0 : List Stmt := _law_pairs_s_0 :: _law_pairs_q_1
theorem hb__law_pairs : defBody s__law_pairs = _law_pairs_q_0 := by kernel_rfl
theorem sc__law_pairs : FnScope ["_law_one", "_law_two", "_law_found", "_law_at", "_law_letter", "_law_here", "_law_there", "_law_pair"] ["_law_one", "_law_two"] (defScope s__law_pairs) := ⟨rfl, rfl, rfl, by decide +kernel, rfl, by decide +kernel, by decide +kernel⟩
abbrev s__law_in : Stmt := top 39
theorem db__law_in : dbOk ["_law_one", "_law_two", "_law_here", "_law_there"] = true := by kernel_rfl
theorem vl__law_in : visL (defScope s__law_in) ["_law_one", "_law_two", "_law_here", "_law_there"] = true := by kernel_rfl
def _law_in_s_0a_0a_0 : Stmt := pL (pA (pL (pA (pL (defBody s__law_in) 0)) 0)) 0
def _law_in_q_0a_0a_1 : List Stmt := []
def _law_in_q_0a_0a_0 : List Stmt := _law_in_s_0a_0a_0 :: _law_in_q_0a_0a_1
def _law_in_q_0a_0b_0 : List Stmt := []
def _law_in_c_0a_0 : Expr := pC (pL (pA (pL (defBody s__law_in) 0)) 0)
def _law_in_s_0a_0 : Stmt := .If _law_in_c_0a_0 _law_in_q_0a_0a_0 _law_in_q_0a_0b_0 (pP (pL (pA (pL (defBody s__law_in) 0)) 0))
def _law_in_q_0a_1 : List Stmt := []
def _law_in_q_0a_0 : List Stmt := _law_in_s_0a_0 :: _law_in_q_0a_1
def _law_in_t_0 : Expr := pT (pL (defBody s__law_in) 0)
def _law_in_i_0 : Expr := pI (pL (defBody s__law_in) 0)
def _law_in_s_0 : Stmt := .For _law_in_t_0 _law_in_i_0 _law_in_q_0a_0 [] (pP (pL (defBody s__law_in) 0))
def _law_in_s_1 : Stmt := pL (defBody s__law_in) 1
def _law_in_q_2 : List Stmt := []
def _law_in_q_1 : List Stmt := _law_in_s_1 :: _law_in_q_2
def _law_in_q_0 : List Stmt := _law_in_s_0 :: _law_in_q_1
theorem hb__law_in : defBody s__law_in = _law_in_q_0 := by kernel_rfl
theorem sc__law_in : FnScope ["_law_one", "_law_two", "_law_here", "_law_there"] ["_law_one", "_law_two"] (defScope s__law_in) := ⟨rfl, rfl, rfl, by decide +kernel, rfl, by decide +kernel, by decide +kernel⟩
abbrev s__law_fewest : Stmt := top 40
theorem db__law_fewest : dbOk ["_law_machine_here", "_law_rows", "_law_found", "_law_row_here", "_law_same", "_law_one"] = true := by kernel_rfl
theorem vl__law_fewest : visL (defScope s__law_fewest) ["_law_machine_here", "_law_rows", "_law_found", "_law_row_here", "_law_same", "_law_one"] = true := by kernel_rfl
def _law_fewest_s_0 : Stmt := pL (defBody s__law_fewest) 0
def _law_fewest_s_1 : Stmt := pL (defBody s__law_fewest) 1
def _law_fewest_s_2a_0 : Stmt := pL (pA (pL (defBody s__law_fewest) 2)) 0
def _law_fewest_s_2a_1a_0a_0 : Stmt := pL (pA (pL (pA (pL (pA (pL (defBody s__law_fewest) 2)) 1)) 0)) 0
def _law_fewest_q_2a_1a_0a_1 : List Stmt := []
def _law_fewest_q_2a_1a_0a_0 : List Stmt := _law_fewest_s_2a_1a_0a_0 :: _law_fewest_q_2a_1a_0a_1
def _law_fewest_q_2a_1a_0b_0 : List Stmt := []
def _law_fewest_c_2a_1a_0 : Expr := pC (pL (pA (pL (pA (pL (defBody s__law_fewest) 2)) 1)) 0)
def _law_fewest_s_2a_1a_0 : Stmt := .If _law_fewest_c_2a_1a_0 _law_fewest_q_2a_1a_0a_0 _law_fewest_q_2a_1a_0b_0 (pP (pL (pA (pL (pA (pL (defBody s__law_fewest) 2)) 1)) 0))
def _law_fewest_q_2a_1a_1 : List Stmt := []
def _law_fewest_q_2a_1a_0 : List Stmt := _law_fewest_s_2a_1a_0 :: _law_fewest_q_2a_1a_1
def _law_fewest_t_2a_1 : Expr := pT (pL (pA (pL (defBody s__law_fewest) 2)) 1)
def _law_fewest_i_2a_1 : Expr := pI (pL (pA (pL (defBody s__law_fewest) 2)) 1)
def _law_fewest_s_2a_1 : Stmt := .For _law_fewest_t_2a_1 _law_fewest_i_2a_1 _law_fewest_q_2a_1a_0 [] (pP (pL (pA (pL (defBody s__law_fewest) 2)) 1))
def _law_fewest_s_2a_2a_0 : Stmt := pL (pA (pL (pA (pL (defBody s__law_fewest) 2)) 2)) 0
def _law_fewest_q_2a_2a_1 : List Stmt := []
def _law_fewest_q_2a_2a_0 : List Stmt := _law_fewest_s_2a_2a_0 :: _law_fewest_q_2a_2a_1
def _law_fewest_q_2a_2b_0 : List Stmt := []
def _law_fewest_c_2a_2 : Expr := pC (pL (pA (pL (defBody s__law_fewest) 2)) 2)
def _law_fewest_s_2a_2 : Stmt := .If _law_fewest_c_2a_2 _law_fewest_q_2a_2a_0 _law_fewest_q_2a_2b_0 (pP (pL (pA (pL (defBody s__law_fewest) 2)) 2))
def _law_fewest_q_2a_3 : List Stmt := []
def _law_fewest_q_2a_2 : List Stmt := _law_fewest_s_2a_2 :: _law_fewest_q_2a_3
def _law_fewest_q_2a_1 : List Stmt := _law_fewest_s_2a_1 :: _law_fewest_q_2a_2
def _law_fewest_q_2a_0 : List Stmt := _law_fewest_s_2a_0 :: _law_fewest_q_2a_1
def _law_fewest_t_2 : Expr := pT (pL (defBody s__law_fewest) 2)
def _law_fewest_i_2 : Expr := pI (pL (defBody s__law_fewest) 2)
def _law_fewest_s_2 : Stmt := .For _law_fewest_t_2 _law_fewest_i_2 _law_fewest_q_2a_0 [] (pP (pL (defBody s__law_fewest) 2))
def _law_fewest_s_3 : Stmt := pL (defBody s__law_fewest) 3
def _law_fewest_q_4 : List Stmt := []
def _law_fewest_q_3 : List Stmt := _law_fewest_s_3 :: _law_fewest_q_4
def _law_fewest_q_2 : List Stmt := _law_fewest_s_2 :: _law_fewest_q_3
def _law_fewest_q_1 : List Stmt := _law_fewest_s_1 :: _law_fewest_q_2
def _law_fewest_q_0 : List Stmt := _law_fewest_s_0 :: _law_fewest_q_1
theorem hb__law_fewest : defBody s__law_fewest = _law_fewest_q_0 := by kernel_rfl
theorem sc__law_fewest : FnScope ["_law_machine_here", "_law_rows", "_law_found", "_law_row_here", "_law_same", "_law_one"] ["_law_machine_here"] (defScope s__law_fewest) := ⟨rfl, rfl, rfl, by decide +kernel, rfl, by decide +kernel, by decide +kernel⟩
abbrev s__law_alike : Stmt := top 41
theorem db__law_alike : dbOk ["_law_machine_here", "_law_row_here", "_law_other", "_law_pairs_here", "_law_at", "_law_here", "_law_there", "_law_letter", "_law_pair"] = true := by kernel_rfl
theorem vl__law_alike : visL (defScope s__law_alike) ["_law_machine_here", "_law_row_here", "_law_other", "_law_pairs_here", "_law_at", "_law_here", "_law_there", "_law_letter", "_law_pair"] = true := by kernel_rfl
def _law_alike_s_0 : Stmt := pL (defBody s__law_alike) 0
def _law_alike_s_1 : Stmt := pL (defBody s__law_alike) 1
def _law_alike_s_2a_0 : Stmt := pL (pA (pL (defBody s__law_alike) 2)) 0
def _law_alike_s_2a_1a_0 : Stmt := pL (pA (pL (pA (pL (defBody s__law_alike) 2)) 1)) 0
def _law_alike_q_2a_1a_1 : List Stmt := []
def _law_alike_q_2a_1a_0 : List Stmt := _law_alike_s_2a_1a_0 :: _law_alike_q_2a_1a_1
def _law_alike_q_2a_1b_0 : List Stmt := []
def _law_alike_c_2a_1 : Expr := pC (pL (pA (pL (defBody s__law_alike) 2)) 1)
def _law_alike_s_2a_1 : Stmt := .If _law_alike_c_2a_1 _law_alike_q_2a_1a_0 _law_alike_q_2a_1b_0 (pP (pL (pA (pL (defBody s__law_alike) 2)) 1))
def _law_alike_s_2a_2a_0 : Stmt := pL (pA (pL (pA (pL (defBody s__law_alike) 2)) 2)) 0
def _law_alike_s_2a_2a_1a_0 : Stmt := pL (pA (pL (pA (pL (pA (pL (defBody s__law_alike) 2)) 2)) 1)) 0
def _law_alike_q_2a_2a_1a_1 : List Stmt := []
def _law_alike_q_2a_2a_1a_0 : List Stmt := _law_alike_s_2a_2a_1a_0 :: _law_alike_q_2a_2a_1a_1
def _law_alike_q_2a_2a_1b_0 : List Stmt := []
def _law_alike_c_2a_2a_1 : Expr := pC (pL (pA (pL (pA (pL (defBody s__law_alike) 2)) 2)) 1)
def _law_alike_s_2a_2a_1 : Stmt := .If _law_alike_c_2a_2a_1 _law_alike_q_2a_2a_1a_0 _law_alike_q_2a_2a_1b_0 (pP (pL (pA (pL (pA (pL (defBody s__law_alike) 2)) 2)) 1))
def _law_alike_q_2a_2a_2 : List Stmt := []
def _law_alike_q_2a_2a_1 : List Stmt := _law_alike_s_2a_2a_1 :: _law_alike_q_2a_2a_2
def _law_alike_q_2a_2a_0 : List Stmt := _law_alike_s_2a_2a_0 :: _law_alike_q_2a_2a_1
def _law_alike_t_2a_2 : Expr := pT (pL (pA (pL (defBody s__law_alike) 2)) 2)
def _law_alike_i_2a_2 : Expr := pI (pL (pA (pL (defBody s__law_alike) 2)) 2)
def _law_alike_s_2a_2 : Stmt := .For _law_alike_t_2a_2 _law_alike_i_2a_2 _law_alike_q_2a_2a_0 [] (pP (pL (pA (pL (defBody s__law_alike) 2)) 2))
def _law_alike_s_2a_3 : Stmt := pL (pA (pL (defBody s__law_alike) 2)) 3
def _law_alike_q_2a_4 : List Stmt := []
def _law_alike_q_2a_3 : List Stmt := _law_alike_s_2a_3 :: _law_alike_q_2a_4
def _law_alike_q_2a_2 : List Stmt := _law_alike_s_2a_2 :: _law_alike_q_2a_3
def _law_alike_q_2a_1 : List Stmt := _law_alike_s_2a_1 :: _law_alike_q_2a_2
def _law_alike_q_2a_0 : List Stmt := _law_alike_s_2a_0 :: _law_alike_q_2a_1
def _law_alike_c_2 : Expr := pC (pL (defBody s__law_alike) 2)
def _law_alike_s_2 : Stmt := .While _law_alike_c_2 _law_alike_q_2a_0 [] (pP (pL (defBody s__law_alike) 2))
def _law_alike_s_3 : Stmt := pL (defBody s__law_alike) 3
def _law_alike_q_4 : List Stmt := []
def _law_alike_q_3 : List Stmt := _law_alike_s_3 :: _law_alike_q_4
def _law_alike_q_2 : List Stmt := _law_alike_s_2 :: _law_alike_q_3
def _law_alike_q_1 : List Stmt := _law_alike_s_1 :: _law_alike_q_2
def _law_alike_q_0 : List Stmt := _law_alike_s_0 :: _law_alike_q_1
theorem hb__law_alike : defBody s__law_alike = _law_alike_q_0 := by kernel_rfl
theorem sc__law_alike : FnScope ["_law_machine_here", "_law_row_here", "_law_other", "_law_pairs_here", "_law_at", "_law_here", "_law_there", "_law_letter", "_law_pair"] ["_law_machine_here", "_law_row_here", "_law_other"] (defScope s__law_alike) := ⟨rfl, rfl, rfl, by decide +kernel, rfl, by decide +kernel, by decide +kernel⟩
abbrev s_law : Stmt := top 42
theorem db_law : dbOk ["_law_script", "_law_draws", "_law_letters", "_law_one", "_law_two", "_law_first", "_law_second", "_law_both", "_law_some", "_law_less", "_law_plain", "_law_least", "_law_text", "_law_here", "_law_there", "_law_told_here"] = true := by kernel_rfl
theorem vl_law : visL (defScope s_law) ["_law_script", "_law_draws", "_law_letters", "_law_one", "_law_two", "_law_first", "_law_second", "_law_both", "_law_some", "_law_less", "_law_plain", "_law_least", "_law_text", "_law_here", "_law_there", "_law_told_here"] = true := by kernel_rfl
def law_s_0 : Stmt := pL (defBody s_law) 0
def law_s_1 : Stmt := pL (defBody s_law) 1
def law_s_2 : Stmt := pL (defBody s_law) 2
def law_s_3 : Stmt := pL (defBody s_law) 3
def law_s_4 : Stmt := pL (defBody s_law) 4
def law_s_5 : Stmt := pL (defBody s_law) 5
def law_s_6 : Stmt := pL (defBody s_law) 6
def law_s_7 : Stmt := pL (defBody s_law) 7
def law_s_8a_0 : Stmt := pL (pA (pL (defBody s_law) 8)) 0
def law_s_8a_1 : Stmt := pL (pA (pL (defBody s_law) 8)) 1
def law_s_8a_2a_0 : Stmt := pL (pA (pL (pA (pL (defBody s_law) 8)) 2)) 0
def law_q_8a_2a_1 : List Stmt := []
def law_q_8a_2a_0 : List Stmt := law_s_8a_2a_0 :: law_q_8a_2a_1
def law_q_8a_2b_0 : List Stmt := []
def law_c_8a_2 : Expr := pC (pL (pA (pL (defBody s_law) 8)) 2)
def law_s_8a_2 : Stmt := .If law_c_8a_2 law_q_8a_2a_0 law_q_8a_2b_0 (pP (pL (pA (pL (defBody s_law) 8)) 2))
def law_s_8a_3a_0 : Stmt := pL (pA (pL (pA (pL (defBody s_law) 8)) 3)) 0
def law_q_8a_3a_1 : List Stmt := []
def law_q_8a_3a_0 : List Stmt := law_s_8a_3a_0 :: law_q_8a_3a_1
def law_q_8a_3b_0 : List Stmt := []
def law_c_8a_3 : Expr := pC (pL (pA (pL (defBody s_law) 8)) 3)
def law_s_8a_3 : Stmt := .If law_c_8a_3 law_q_8a_3a_0 law_q_8a_3b_0 (pP (pL (pA (pL (defBody s_law) 8)) 3))
def law_q_8a_4 : List Stmt := []
def law_q_8a_3 : List Stmt := law_s_8a_3 :: law_q_8a_4
def law_q_8a_2 : List Stmt := law_s_8a_2 :: law_q_8a_3
def law_q_8a_1 : List Stmt := law_s_8a_1 :: law_q_8a_2
def law_q_8a_0 : List Stmt := law_s_8a_0 :: law_q_8a_1
def law_t_8 : Expr := pT (pL (defBody s_law) 8)
def law_i_8 : Expr := pI (pL (defBody s_law) 8)
def law_s_8 : Stmt := .For law_t_8 law_i_8 law_q_8a_0 [] (pP (pL (defBody s_law) 8))
def law_s_9a_0 : Stmt := pL (pA (pL (defBody s_law) 9)) 0
def law_q_9a_1 : List Stmt := []
def law_q_9a_0 : List Stmt := law_s_9a_0 :: law_q_9a_1
def law_q_9b_0 : List Stmt := []
def law_c_9 : Expr := pC (pL (defBody s_law) 9)
def law_s_9 : Stmt := .If law_c_9 law_q_9a_0 law_q_9b_0 (pP (pL (defBody s_law) 9))
def law_s_10a_0 : Stmt := pL (pA (pL (defBody s_law) 10)) 0
def law_q_10a_1 : List Stmt := []
def law_q_10a_0 : List Stmt := law_s_10a_0 :: law_q_10a_1
def law_q_10b_0 : List Stmt := []
def law_c_10 : Expr := pC (pL (defBody s_law) 10)
def law_s_10 : Stmt := .If law_c_10 law_q_10a_0 law_q_10b_0 (pP (pL (defBody s_law) 10))
def law_s_11a_0 : Stmt := pL (pA (pL (defBody s_law) 11)) 0
def law_q_11a_1 : List Stmt := []
def law_q_11a_0 : List Stmt := law_s_11a_0 :: law_q_11a_1
def law_q_11b_0 : List Stmt := []
def law_c_11 : Expr := pC (pL (defBody s_law) 11)
def law_s_11 : Stmt := .If law_c_11 law_q_11a_0 law_q_11b_0 (pP (pL (defBody s_law) 11))
def law_s_12 : Stmt := pL (defBody s_law) 12
def law_q_13 : List Stmt := []
def law_q_12 : List Stmt := law_s_12 :: law_q_13
def law_q_11 : List Stmt := law_s_11 :: law_q_12
def law_q_10 : List Stmt := law_s_10 :: law_q_11
def law_q_9 : List Stmt := law_s_9 :: law_q_10
def law_q_8 : List Stmt := law_s_8 :: law_q_9
def law_q_7 : List Stmt := law_s_7 :: law_q_8
def law_q_6 : List Stmt := law_s_6 :: law_q_7
def law_q_5 : List Stmt := law_s_5 :: law_q_6
def law_q_4 : List Stmt := law_s_4 :: law_q_5
def law_q_3 : List Stmt := law_s_3 :: law_q_4
def law_q_2 : List Stmt := law_s_2 :: law_q_3
def law_q_1 : List Stmt := law_s_1 :: law_q_2
def law_q_0 : List Stmt := law_s_0 :: law_q_1
theorem hb_law : defBody s_law = law_q_0 := by kernel_rfl
theorem sc_law : FnScope ["_law_script", "_law_draws", "_law_letters", "_law_one", "_law_two", "_law_first", "_law_second", "_law_both", "_law_some", "_law_less", "_law_plain", "_law_least", "_law_text", "_law_here", "_law_there", "_law_told_here"] ["_law_script"] (defScope s_law) := ⟨rfl, rfl, rfl, by decide +kernel, rfl, by decide +kernel, by decide +kernel⟩
section
variable {P : Program} {w : World} {K : PySem.W.Frag} {mg : Str → Option Value} {base : Heap}
/-- is_whole -/
def isWhole (x : V) (a b : Int) : Bool := match x with
  | .int i => decide (a ≤ i) && decide (i ≤ b)
  | _ => false
def spWhole : Prm := fun ds L KK KE => ∃ (x : V) (a b : Int), ds = [.v x, .int a, .int b] ∧ scalV x = true ∧ L = [] ∧ KK (.bl (isWhole x a b)) []
theorem ok_whole {f : Addr} {fd : FuncData} (FF : Fun K "is_whole" "is_whole" s_is_whole f fd) (B : Bi mg) : Def P w K mg base 1 f fd ["thing", "least", "most"] spWhole := by
  refine def_ok FF sc_is_whole ?_ ?_
  · rintro ds L KK KE ⟨x, a, b, rfl, _⟩
    rfl
  · rintro ds L KK KE ⟨x, a, b, rfl, hx, rfl, hk⟩ H0 F0
    refine run_ret ?_
    wtm_at "bg"
    rcases scal_cases hx with ⟨i, rfl⟩ | ⟨k, rfl⟩ | ⟨z, rfl⟩ | rfl
    all_goals wtm_at "go"
    all_goals simp_all [isWhole]
def letV : List V := [.str "a", .str "b", .str "c"]
def isLetter (x : V) : Bool := match x with
  | .str z => inD (.str z) (letV.map D.v)
  | _ => false
def spLetter : Prm := fun ds L KK KE => ∃ (x : V), ds = [.v x] ∧ scalV x = true ∧ L = [] ∧ KK (.bl (isLetter x)) []
theorem ok_letter {f : Addr} {fd : FuncData} (FF : Fun K "is_letter" "is_letter" s_is_letter f fd) (B : Bi mg) (gL : GTup K mg "LETTERS" letV) : Def P w K mg base 1 f fd ["thing"] spLetter := by
  refine def_ok FF sc_is_letter ?_ ?_
  · rintro ds L KK KE ⟨x, rfl, _⟩
    rfl
  · rintro ds L KK KE ⟨x, rfl, hx, rfl, hk⟩ H0 F0
    refine run_ret ?_
    wtm_at "bg"
    rcases scal_cases hx with ⟨i, rfl⟩ | ⟨k, rfl⟩ | ⟨z, rfl⟩ | rfl
    all_goals wtm_at "go"
    all_goals first | exact hk | skip
    refine op_inQ .ctup rfl rfl ?_
    exact hk
abbrev rowV (kvs : List (Key × V)) : D := .dK (kvs.map fun kv => (kv.1, .v kv.2))
def isRow (kvs : List (Key × V)) (many : Int) : Bool := kvs.all fun kv => isLetter (kV kv.1) && isWhole ((valV kvs kv.1).getD .non) 0 (many - 1)
def spRow : Prm := fun ds L KK KE => ∃ (kvs : List (Key × V)) (many : Int), ds = [rowV kvs, .int many] ∧ (∀ kv ∈ kvs, scalV kv.2 = true) ∧ kvs.length < 1000 ∧ L = [] ∧ KK (.bl (isRow kvs many)) []
theorem ok_row {f : Addr} {fd : FuncData} (FF : Fun K "is_row" "is_row" s_is_row f fd) (B : Bi mg) (g1 : Glob P w K mg base "is_letter" ["thing"] spLetter 1) (g2 : Glob P w K mg base "is_whole" ["thing", "least", "most"] spWhole 1) : Def P w K mg base 2 f fd ["thing", "many"] spRow := by
  refine def_ok FF sc_is_row ?_ ?_
  · rintro ds L KK KE ⟨x, m, rfl, _⟩
    rfl
  · rintro ds L KK KE ⟨kvs, many, rfl, hv, hl, rfl, hk⟩ H0 F0
    wtm_at "bg"
    wtm_at "go"
    refine ev_lcK [("letter", 2)] rfl (by kernel_rfl) (path_name (by wtm_at "lk") (by wtm_at "vis")) ?_
    intro H0 F0
    refine lc_pure (fun _ => true) (fun d => match d with | .v x => .bl (isLetter x && isWhole ((valV kvs (keyOf x)).getD .non) 0 (many - 1)) | _ => .non) ?_ (by intro s hs; cases hs) ?_ ?_
    · unfold keysD
      rw [List.length_map, List.length_map]
      exact sz_lt (by omega)
    · intro F1 Dl d acc hd
      unfold keysD at hd
      rw [List.map_map] at hd
      obtain ⟨kv, hkv, rfl⟩ := List.mem_map.mp hd
      refine tn_name (i := 2) (by wtm_at "loc") rfl (List.mem_singleton.mpr rfl) ?_
      refine ⟨rfl, List.Sublist.refl _, fun _ => ?_⟩
      show Ev _ [some (rowV kvs), some (.int many), some (.v (kV kv.1))] _ _ _
      have hs : scalV (kV kv.1) = true := by cases kv.1 <;> rfl
      wtm_at "go"
      refine calls0 ⟨_, rfl, hs, rfl, ?_⟩
      wtm_at "go"
      · obtain ⟨v, hv1, hv2⟩ : ∃ v, valV kvs kv.1 = some v ∧ scalV v = true := by
          unfold valV
          cases e : kvs.find? fun a => decide (a.1 = kv.1) with
          | none => exact absurd (List.find?_eq_none.mp e kv hkv) (by simp)
          | some b => exact ⟨b.2, rfl, hv b (List.mem_of_find?_eq_some e)⟩
        refine ix_K rfl .frz (by rw [valD_map, hv1]; rfl) ?_
        wtm_at "go"
        refine calls0 ⟨_, _, _, rfl, hv2, rfl, ?_, List.Sublist.refl _⟩
        rename_i hb
        show _ = D.bl (isLetter (kV kv.1) && isWhole ((valV kvs (keyOf (kV kv.1))).getD .non) 0 (many - 1))
        rw [keyOf_kV, hv1, hb]
        rfl
      · rename_i hb
        show _ = D.bl (isLetter (kV kv.1) && isWhole ((valV kvs (keyOf (kV kv.1))).getD .non) 0 (many - 1))
        rw [hb]
        rfl
    · intro Dl
      have e : ∀ l : List (Key × V), (keysD (l.map fun kv => (kv.1, D.v kv.2))).map (fun d => match d with | .v x => D.bl (isLetter x && isWhole ((valV kvs (keyOf x)).getD .non) 0 (many - 1)) | _ => .non) =
          l.map fun kv => D.bl (isLetter (kV kv.1) && isWhole ((valV kvs kv.1).getD .non) 0 (many - 1)) := by
        intro l
        unfold keysD
        rw [List.map_map, List.map_map]
        refine List.map_congr_left fun kv _ => ?_
        show D.bl (isLetter (kV kv.1) && isWhole ((valV kvs (keyOf (kV kv.1))).getD .non) 0 (many - 1)) = _
        rw [keyOf_kV]
      have f : (keysD (kvs.map fun kv => (kv.1, D.v kv.2))).filter (fun _ => true) = keysD (kvs.map fun kv => (kv.1, D.v kv.2)) := List.filter_eq_self.mpr fun _ _ => rfl
      rw [f, e]
      wtm_at "go"
def natV : V → Int
  | .int i => i
  | _ => 0
def risesI : List Int → Bool
  | a :: b :: r => decide (a < b) && risesI (b :: r)
  | _ => true
def isMach (rs : List (List (Key × V))) (es : List V) : Bool := !rs.isEmpty && rs.all (fun r => isRow r rs.length) && es.all (fun x => isWhole x 0 (rs.length - 1)) && risesI (es.map natV)
def RowsOk (rs : List (List (Key × V))) : Prop := rs.length < 1000 ∧ ∀ r ∈ rs, (∀ kv ∈ r, scalV kv.2 = true) ∧ r.length < 1000
inductive MachD : D → D → Bool → Prop
  | norow {rows ends : D} (h : rows = .non ∨ ∃ ds, rows = .lst ds) : MachD rows ends false
  | noend {rs : List (List (Key × V))} (h : RowsOk rs) : MachD (.tup (rs.map rowV)) .non false
  | ok {rs : List (List (Key × V))} {es : List V} (h : RowsOk rs) (h2 : ∀ x ∈ es, scalV x = true) (h3 : es.length < 1000) : MachD (.tup (rs.map rowV)) (.tup (es.map .v)) (isMach rs es)
def spMach : Prm := fun ds L KK KE => ∃ rows ends b, ds = [rows, ends] ∧ L = [] ∧ MachD rows ends b ∧ KK (.bl b) []
theorem risesI_zip : ∀ l : List Int, risesI l = (l.zip (l.drop 1)).all fun p => decide (p.1 < p.2)
  | [] => rfl
  | [_] => rfl
  | a :: b :: r => by
    show (decide (a < b) && risesI (b :: r)) = _
    rw [risesI_zip (b :: r)]
    rfl
theorem ok_machine {f : Addr} {fd : FuncData} (FF : Fun K "is_machine" "is_machine" s_is_machine f fd) (B : Bi mg) (g1 : Glob P w K mg base "is_row" ["thing", "many"] spRow 2) (g2 : Glob P w K mg base "is_whole" ["thing", "least", "most"] spWhole 1) : Def P w K mg base 3 f fd ["rows", "ends"] spMach := by
  refine def_ok FF sc_is_machine ?_ ?_
  · rintro ds L KK KE ⟨x, m, b, rfl, _⟩
    rfl
  · rintro ds L KK KE ⟨rows, ends, b, rfl, rfl, hm, hk⟩ H0 F0
    wtm_at "bg"
    cases hm with
    | norow h =>
      rcases h with rfl | ⟨ds, rfl⟩
      all_goals wtm_at "go"
    | @noend rs h =>
      wtm_at "go"
      · refine ev_lc [("row", 2)] rfl (by kernel_rfl) (ei_tup ?_)
        wtm_at "ev"
        refine ⟨_, rfl, ?_⟩
        refine lc_all rs rowV (fun r => .bl (isRow r rs.length)) rfl (sz_lt (by have := h.1; omega)) (by intro s hs; cases hs) ?_ ?_
        · intro F1 Dl r acc hr
          refine tn_name (i := 2) (by wtm_at "loc") rfl (List.mem_singleton.mpr rfl) ?_
          wtm_at "wz"
          wtm_at "go"
          refine calls0 ⟨_, _, rfl, (h.2 r hr).1, (h.2 r hr).2, rfl, ?_, List.Sublist.refl _⟩
          rw [List.length_map]
        · intro Dl
          wtm_at "go"
    | @ok rs es h h2 h3 =>
      wtm_at "go"
      · refine ev_lc [("row", 2)] rfl (by kernel_rfl) (ei_tup ?_)
        wtm_at "ev"
        refine ⟨_, rfl, ?_⟩
        refine lc_all rs rowV (fun r => .bl (isRow r rs.length)) rfl (sz_lt (by have := h.1; omega)) (by intro s hs; cases hs) ?_ ?_
        · intro F1 Dl r acc hr
          refine tn_name (i := 2) (by wtm_at "loc") rfl (List.mem_singleton.mpr rfl) ?_
          wtm_at "wz"
          wtm_at "go"
          refine calls0 ⟨_, _, rfl, (h.2 r hr).1, (h.2 r hr).2, rfl, ?_, List.Sublist.refl _⟩
          rw [List.length_map]
        · intro Dl
          wtm_at "go"
          · rename_i q
            have e : isMach rs es = false := by
              have q' : rs.all (fun r => isRow r rs.length) = false := by simpa using q
              unfold isMach
              rw [q']
              simp
            rw [← e]; exact hk
          · refine ev_lc [("end", 3)] rfl (by kernel_rfl) (ei_tup ?_)
            wtm_at "ev"
            refine ⟨_, rfl, ?_⟩
            refine lc_all es D.v (fun x => .bl (isWhole x 0 (rs.length - 1))) rfl (sz_lt (by omega)) (by intro s hs; cases hs) ?_ ?_
            · intro F1 Dl x acc hx
              refine tn_name (i := 3) (by wtm_at "loc") rfl (List.mem_singleton.mpr rfl) ?_
              wtm_at "wz"
              wtm_at "go"
              refine calls0 ⟨_, _, _, rfl, h2 x hx, rfl, ?_, List.Sublist.refl _⟩
              rw [List.length_map]
            · intro Dl
              wtm_at "go"
              · rename_i q
                have e : isMach rs es = false := by
                  have q' : es.all (fun x => isWhole x 0 (rs.length - 1)) = false := by simpa using q
                  unfold isMach
                  rw [q']
                  simp
                rw [← e]; exact hk
              · rename_i q0 q1 q2 q3
                obtain ⟨ns, rfl⟩ : ∃ ns : List Int, es = ns.map V.int := by
                  have q' : es.all (fun x => isWhole x 0 (rs.length - 1)) = true := by simpa using q3
                  refine ⟨es.map natV, ?_⟩
                  rw [List.map_map]
                  refine (List.map_id _).symm.trans (List.map_congr_left fun x hx => ?_)
                  have := List.all_eq_true.mp q' x hx
                  cases x with
                  | int i => rfl
                  | _ => cases this
                refine ev_lc [("one", 4), ("other", 5)] rfl (by kernel_rfl) (ei_zip (by wtm_at "gl") (by wtm_at "bi") ?_)
                wtm_at "ev"
                wtm_at "ev"
                wtm_at "ev"
                refine ev_int ⟨_, rfl, ?_⟩
                refine sl_T (.inr ⟨_, _, rfl, rfl, ?_⟩)
                have e1 : cutD ((ns.map V.int).map D.v) (some 1) none = ((ns.drop 1).map D.int) := by
                  rw [show ((1 : Int)) = ((1 : Nat) : Int) from rfl, cut_from, List.map_map, ← List.map_drop]
                  rfl
                rw [e1, List.map_map]
                refine lc_all (ns.zip (ns.drop 1)) (fun p => .tup [.int p.1, .int p.2]) (fun p => .bl (decide (p.1 < p.2))) (zipD_map ns (ns.drop 1) D.int D.int) (sz_lt ?_) (by intro s hs; cases hs) ?_ ?_
                · rw [List.length_zip]
                  rw [List.length_map] at h3
                  omega
                · intro F1 Dl x acc hx
                  refine tn_two (i := 4) (j := 5) rfl (by wtm_at "loc") rfl (List.mem_cons_self) (by wtm_at "loc") rfl (List.mem_cons_of_mem _ List.mem_cons_self) ?_
                  wtm_at "wz"
                  wtm_at "go"
                · intro Dl
                  wtm_at "go"
                  have e : isMach rs (ns.map V.int) = (ns.zip (ns.drop 1)).all fun p => decide (p.1 < p.2) := by
                    have q2' : rs.all (fun r => isRow r rs.length) = true := by simpa using q2
                    have q3' : (ns.map V.int).all (fun x => isWhole x 0 (rs.length - 1)) = true := by simpa using q3
                    have q0' : (!rs.isEmpty) = true := by simpa using q0
                    have e2 : (ns.map V.int).map natV = ns := by
                      rw [List.map_map]
                      exact List.map_id _
                    unfold isMach
                    rw [q2', q3', q0', e2, risesI_zip]
                    rfl
                  rw [← e]; exact hk
      · rename_i q
        have e : isMach rs es = false := by
          have q' : rs.isEmpty = true := by simpa using q
          unfold isMach
          rw [q']
          simp
        rw [← e]; exact hk
def letK : List Key := [Sum.inr "a", Sum.inr "b", Sum.inr "c"]
def normRow (kvs : List (Key × V)) : List (Key × V) := (letK.filter fun l => (valV kvs l).isSome).map fun l => (l, (valV kvs l).getD .non)
def rdrD (Cr : Addr) (rs : List (List (Key × V))) (es : List V) : D := .ob Cr [("table", .tup (rs.map fun r => rowV (normRow r))), ("last", .tup (es.map .v))]
/-- rows a tuple or a list of dicts, ends a tuple -/
def spRInit (Cr : Addr) : Prm := fun ds L KK KE => ∃ (l : Addr) (rows : D) (rs : List (List (Key × V))) (es : List V), ds = [.ref l, rows, .tup (es.map .v)] ∧ (rows = .tup (rs.map rowV) ∨ rows = .lst (rs.map rowV)) ∧ rs.length < 1000 ∧ L = [(l, .ins Cr [])] ∧
  KK .non [(l, .ins Cr [("table", .tup (rs.map fun r => rowV (normRow r))), ("last", .tup (es.map .v))])]
theorem norm_disp (r : List (Key × V)) : dispE ((letK.filter fun l => (valV r l).isSome).map fun l => (l, D.v ((valV r l).getD .non))) = (normRow r).map fun kv => (kv.1, D.v kv.2) := by
  have nd : letK.Nodup := by decide +kernel
  rw [dispE_nodup]
  · unfold normRow
    rw [List.map_map]
    rfl
  · rw [List.map_map]
    refine (List.Nodup.sublist ?_ nd)
    have : (List.filter (fun l => (valV r l).isSome) letK).map ((fun x : Key × D => x.1) ∘ fun l => (l, D.v ((valV r l).getD V.non))) = List.filter (fun l => (valV r l).isSome) letK := List.map_id _
    rw [this]
    exact List.filter_sublist
theorem ok_reader_init {f Cr : Addr} {fd : FuncData} (FF : Fun K "__init__" "Reader.__init__" s_Reader_init f fd) (B : Bi mg) (gL : GTup K mg "LETTERS" letV) (c : Cls K Cr) (n1 : NoAttr K Cr "table") (n2 : NoAttr K Cr "last") : Def P w K mg base 1 f fd ["self", "rows", "ends"] (spRInit Cr) := by
  refine def_ok FF sc_Reader_init ?_ ?_
  · rintro ds L KK KE ⟨l, rows, rs, es, rfl, _⟩
    rfl
  · rintro ds L KK KE ⟨l, rows, rs, es, rfl, hr, hlen, rfl, hk⟩ H0 F0
    wtm_at "bg"
    rcases hr with rfl | rfl
    · refine run_fld c n1 ?_
      wtm_at "go"
      refine ev_lc [("row", 4)] rfl (by kernel_rfl) (ei_tup ?_)
      wtm_at "ev"
      refine ⟨_, rfl, ?_⟩
      refine lc_all rs rowV (fun r => rowV (normRow r)) rfl (sz_lt (by omega)) (by intro s hs; cases hs) ?_ ?_
      · intro F1 Dl r acc hr
        refine tn_name (i := 4) (by wtm_at "loc") rfl (List.mem_singleton.mpr rfl) ?_
        wtm_at "wz"
        refine ev_frz (ev_dc [("letter", 3)] rfl (by kernel_rfl) (ei_tup ?_))
        wtm_at "ev"
        refine ⟨_, rfl, ?_⟩
        refine dc_map letK (fun k => .v (kV k)) (fun k => (k, .v ((valV r k).getD .non))) (fun k => (valV r k).isSome) rfl (by decide +kernel) (by intro s hs; cases hs) ?_ ?_
        · intro F2 Dm k acc2 hk2
          refine tn_name (i := 3) (by wtm_at "loc") rfl (List.mem_singleton.mpr rfl) ?_
          wtm_at "wz"
          show TL.Tst _ _ _ _ _
          wtm_at "go"
          refine op_inK rfl .frz ⟨_, rfl, by rw [valD_map]; cases valV r k <;> rfl, List.Sublist.refl _, fun hs => ?_⟩
          obtain ⟨v, hv⟩ := Option.isSome_iff_exists.mp hs
          wtm_at "go"
          exact ix_K rfl .frz (by rw [valD_map, hv]; rfl) ⟨rfl, by rw [hv]; rfl, List.Sublist.refl _⟩
        · intro Dm
          refine ⟨_, _, _, rfl, .here, ?_, List.Sublist.refl _⟩
          show D.dK (dispE _) = D.dK _
          rw [norm_disp]
      · intro Dl
        wtm_at "go"
        refine ⟨_, _, _, rfl, .there .here, by simp [putD], ?_⟩
        refine run_fld c n2 ?_
        wtm_at "go"
        refine ⟨_, _, _, rfl, .there .here, by simp [putD], ?_⟩
        refine run_drop (List.sublist_cons_self _ _) ?_
        wtm_at "go"
    · refine run_fld c n1 ?_
      wtm_at "go"
      refine ev_lc [("row", 4)] rfl (by kernel_rfl) (ei_lst ?_)
      wtm_at "ev"
      refine ⟨_, .frz, ?_⟩
      refine lc_all rs rowV (fun r => rowV (normRow r)) rfl (sz_lt (by omega)) (by intro s hs; cases hs) ?_ ?_
      · intro F1 Dl r acc hr
        refine tn_name (i := 4) (by wtm_at "loc") rfl (List.mem_singleton.mpr rfl) ?_
        wtm_at "wz"
        refine ev_frz (ev_dc [("letter", 3)] rfl (by kernel_rfl) (ei_tup ?_))
        wtm_at "ev"
        refine ⟨_, rfl, ?_⟩
        refine dc_map letK (fun k => .v (kV k)) (fun k => (k, .v ((valV r k).getD .non))) (fun k => (valV r k).isSome) rfl (by decide +kernel) (by intro s hs; cases hs) ?_ ?_
        · intro F2 Dm k acc2 hk2
          refine tn_name (i := 3) (by wtm_at "loc") rfl (List.mem_singleton.mpr rfl) ?_
          wtm_at "wz"
          show TL.Tst _ _ _ _ _
          wtm_at "go"
          refine op_inK rfl .frz ⟨_, rfl, by rw [valD_map]; cases valV r k <;> rfl, List.Sublist.refl _, fun hs => ?_⟩
          obtain ⟨v, hv⟩ := Option.isSome_iff_exists.mp hs
          wtm_at "go"
          exact ix_K rfl .frz (by rw [valD_map, hv]; rfl) ⟨rfl, by rw [hv]; rfl, List.Sublist.refl _⟩
        · intro Dm
          refine ⟨_, _, _, rfl, .here, ?_, List.Sublist.refl _⟩
          show D.dK (dispE _) = D.dK _
          rw [norm_disp]
      · intro Dl
        wtm_at "go"
        refine ⟨_, _, _, rfl, .there .here, by simp [putD], ?_⟩
        refine run_fld c n2 ?_
        wtm_at "go"
        refine ⟨_, _, _, rfl, .there .here, by simp [putD], ?_⟩
        refine run_drop (List.sublist_cons_self _ _) ?_
        wtm_at "go"
def spMInit (Cm Cr CB : Addr) : Prm := fun ds L KK KE => ∃ (l : Addr) (rows ends : D), ds = [.ref l, rows, ends] ∧ L = [(l, .ins Cm [])] ∧
  ((∃ fs, rows = .ob Cr fs ∧ KK .non [(l, .ins Cm [("inner", rows)])]) ∨
    (∃ (rs : List (List (Key × V))) (es : List V), rows = .tup (rs.map rowV) ∧ ends = .tup (es.map D.v) ∧ RowsOk rs ∧ (∀ x ∈ es, scalV x = true) ∧ es.length < 1000 ∧ isMach rs es = true ∧ rs.length ≤ 6 ∧ KK .non [(l, .ins Cm [("inner", rdrD Cr rs es)])]) ∨
    (∃ b, MachD rows ends b ∧ (b = false ∨ ∃ rs : List (List (Key × V)), rows = .tup (rs.map rowV) ∧ 6 < rs.length) ∧ KE (.own CB) []))
theorem ok_machine_init {f Cm Cr CB : Addr} {fd : FuncData} (FF : Fun K "__init__" "Machine.__init__" s_Machine_init f fd) (B : Bi mg) (gR : GVal mg "Reader" (.ref Cr)) (gM : GVal mg "MOST_ROWS" (.int 6)) (c : Cls K Cm) (n1 : NoAttr K Cm "inner")
    (k1 : PySem.W.kitOne K (.type "tuple") (.ref Cr) = some false) (k2 : PySem.W.kitOne K (.type "NoneType") (.ref Cr) = some false) (k3 : PySem.W.kitOne K (.type "list") (.ref Cr) = some false) (k4 : PySem.W.kitOne K (.ref Cr) (.ref Cr) = some true) (ci : ClsI K Cr)
    (eB : ExcC K mg "BadMachine" CB) (g1 : Glob P w K mg base "is_machine" ["rows", "ends"] spMach 3) (g2 : Cla P w K mg base "Reader" Cr ["self", "rows", "ends"] (spRInit Cr) 1) : Def P w K mg base 4 f fd ["self", "rows", "ends"] (spMInit Cm Cr CB) := by
  refine def_ok FF sc_Machine_init ?_ ?_
  · rintro ds L KK KE ⟨l, rows, ends, rfl, _⟩
    rfl
  · rintro ds L KK KE ⟨l, rows, ends, rfl, rfl, hd⟩ H0 F0
    wtm_at "bg"
    rcases hd with ⟨fs, rfl, hk⟩ | ⟨rs, es, rfl, rfl, h1, h2, h3, h4, h5, hk⟩ | ⟨b, hm, hb, hk⟩
    · wtm_at "gk"
      refine run_fld c n1 ?_
      wtm_at "gk"
      refine ⟨_, _, _, rfl, .here, by simp [putD], ?_⟩
      wtm_at "gk"
    · wtm_at "gk"
      refine calls0 ⟨_, _, _, rfl, rfl, .ok h1 h2 h3, ?_⟩
      rw [h4]
      wtm_at "gk"
      · rename_i hb
        have hb' := of_decide_eq_true hb
        rw [List.length_map] at hb'
        omega
      · refine run_fld c n1 ?_
        refine ev_frz ?_
        wtm_at "gk"
        intro l2
        refine ⟨[(l2, .ins Cr [])], [(l, .ins Cm [])], List.Perm.refl _, _, fun _ => List.Perm.refl _, l2, _, rs, es, rfl, .inl rfl, (by omega), rfl, ?_⟩
        refine ⟨rfl, _, _, _, rfl, .here, ?_⟩
        wtm_at "gk"
        refine ⟨_, _, _, rfl, .here, by simp [putD], ?_⟩
        wtm_at "gk"
    · cases hm with
      | norow h =>
        rcases h with rfl | ⟨ds, rfl⟩
        all_goals
          wtm_at "gk"
          refine calls0 ⟨_, _, _, rfl, rfl, .norow ?_, ?_⟩
          · first | exact .inl rfl | exact .inr ⟨_, rfl⟩
          refine ⟨_, tr_bl, ?_⟩
          wtm_at "gk"
      | noend h =>
        wtm_at "gk"
        refine calls0 ⟨_, _, _, rfl, rfl, .noend h, ?_⟩
        wtm_at "gk"
      | @ok rs es h h2 h3 =>
        wtm_at "gk"
        refine calls0 ⟨_, _, _, rfl, rfl, .ok h h2 h3, ?_⟩
        wtm_at "gk"
        rename_i q1 q2
        exfalso
        have q2' := of_decide_eq_false q2
        rw [List.length_map] at q2'
        rcases hb with hb | ⟨rs', e, hb⟩
        · rw [hb] at q1; cases q1
        · have e2 : rs.length = rs'.length := by
            have := congrArg (fun d => match d with | D.tup ds => ds.length | _ => 0) e
            simpa using this
          omega
end
end Rk01
open PySem L2 TL
namespace Rk01
section
variable {P : Program} {w : World} {K : PySem.W.Frag} {mg : Str → Option Value} {base : Heap}
def cellD (ns : List Int) (pos w s : Int) : List D := [.lst (ns.map D.int), .int pos, .int w, .int s]
def spBegin : Prm := fun ds L KK KE => ∃ ns : List Int, ds = [.sq (ns.map D.int)] ∧ ns.length ≤ 63 ∧ L = [] ∧ ∀ p, KK (.ref p) [(p, .lst (cellD ns 0 0 7))]
def spDraw : Prm := fun ds L KK KE => ∃ (p : Addr) (ns : List Int) (pos w s size : Int), ds = [.ref p, .int size] ∧ L = [(p, .lst (cellD ns pos w s))] ∧ 0 ≤ pos ∧ 0 ≤ w ∧ 0 < size ∧ size < 1000 ∧
  ∀ r pos' w' s', 0 ≤ r → r < size → 0 ≤ pos' → 0 ≤ w' → KK (.int r) [(p, .lst (cellD ns pos' w' s'))]
theorem ok_begin {f : Addr} {fd : FuncData} (FF : Fun K "_law_begin" "_law_begin" s__law_begin f fd) (B : Bi mg) : Def P w K mg base 1 f fd ["_law_script"] spBegin := by
  refine def_ok FF sc__law_begin ?_ ?_
  · rintro ds L KK KE ⟨ns, rfl, _⟩
    rfl
  · rintro ds L KK KE ⟨ns, rfl, hn, rfl, hk⟩ H0 F0
    wtm_at "bg"
    refine run_ret (ev_lst (ea_cons (ev_frz (ev_blty (by wtm_at "gl") (by wtm_at "bi") (by wtm_at "bty") ?_))))
    wtm_at "go"
    refine cv_listQ fun p => ⟨_, _, _, rfl, .here, ?_⟩
    wtm_at "go"
    exact (by decide +kernel : 4 ≤ sizeLine)
def DrawQ (p : Addr) (ns : List Int) (size : Int) (G' : List (Option D)) (L' : Led) : Prop := ∃ (a b : Option D) (pos wv s : Int), 0 ≤ pos ∧ 0 ≤ wv ∧ G' = [some (.ref p), some (.int size), a, b] ∧ L' = [(p, .lst (cellD ns pos wv s))]
theorem ok_draw {f : Addr} {fd : FuncData} (FF : Fun K "_law_draw" "_law_draw" s__law_draw f fd) (B : Bi mg) : Def P w K mg base 1 f fd ["_law_draws", "_law_size"] spDraw := by
  refine def_ok FF sc__law_draw ?_ ?_
  · rintro ds L KK KE ⟨p, ns, pos, w, s, size, rfl, _⟩
    rfl
  · rintro ds L KK KE ⟨p, ns, pos, wv, s, size, rfl, rfl, hp, hw, hs, hs2, hk⟩ H0 F0
    wtm_at "bg"
    have IX : ∀ {M : Mode} {G : List (Option D)} {K2 : D → Led → Prop} (ns : List Int) (pos wv s : Int) (j : Nat) {d : D}, (cellD ns pos wv s)[j]? = some d → K2 d [(p, .lst (cellD ns pos wv s))] → IxV M G [(p, .lst (cellD ns pos wv s))] (.ref p) (.int j) K2 := fun ns pos wv s j d h1 h2 => ix_L (.own (.head _)) (at_nat rfl h1) h2
    have tail : ∀ (a b : Option D) (pos wv s : Int), 0 ≤ pos → 0 ≤ wv → Run ⟨ctxOf P w K mg base ["_law_draws", "_law_size", "_law_cell", "_law_found"] s__law_draw 0, H0, F0, fun ex _ L' => KE ex L'⟩ [some (.ref p), some (.int size), a, b] [(p, .lst (cellD ns pos wv s))] ((defBody s__law_draw).drop 1) ⟨fun _ L' => KK .non L', KK, fun _ _ => False, fun _ _ => False⟩ := by
      intro a b pos wv s hp hw
      wtm_at "gk"
      refine IX ns pos wv s 2 rfl ?_
      wtm_at "gk"
      · rename_i q
        have q' : 0 < wv := of_decide_eq_true q
        refine IX ns pos wv s 2 rfl ?_
        wtm_at "gk"
        refine op_modI hs ?_
        refine ⟨_, by wtm_at "pt", ?_⟩
        refine run_asg ?_
        wtm_at "gk"
        refine IX ns pos wv s 2 rfl ?_
        wtm_at "gk"
        refine op_fdivI ⟨hs, by omega⟩ ?_
        refine tgt_sub ?_
        wtm_at "gk"
        refine ⟨p, _, _, 2, _, rfl, rfl, rfl, .here, ?_⟩
        wtm_at "gk"
        exact hk _ pos (wv / size) s (Int.emod_nonneg _ (by omega)) (Int.emod_lt_of_pos _ hs) hp (Int.ediv_nonneg hw (by omega))
      · refine IX ns pos wv s 3 rfl ?_
        wtm_at "gk"
        refine op_mulI (.inr ⟨by decide, by decide⟩) ?_
        wtm_at "gk"
        refine op_modI (by decide) ?_
        wtm_at "gk"
        refine op_modI hs ?_
        exact hk _ pos wv s (Int.emod_nonneg _ (by omega)) (Int.emod_lt_of_pos _ hs) hp hw
    refine run_ifQ (DrawQ p ns size) ?_ (fun G' L' ⟨a, b, pos, wv, s, h1, h2, e1, e2⟩ => by rw [e1, e2]; exact tail a b pos wv s h1 h2)
    wtm_at "gk"
    refine IX ns pos wv s 2 rfl ?_
    wtm_at "gk"
    · refine IX ns pos wv s 1 rfl ?_
      wtm_at "gk"
      refine IX ns pos wv s 0 rfl ?_
      wtm_at "gk"
      · rename_i q1 q2
        have q2' := of_decide_eq_true q2
        rw [List.length_map] at q2'
        obtain ⟨c, hc⟩ : ∃ c, ns[pos.toNat]? = some c := ⟨ns[pos.toNat]'(by omega), List.getElem?_eq_getElem (by omega)⟩
        refine IX ns pos wv s 0 rfl ?_
        wtm_at "gk"
        refine IX ns pos wv s 1 rfl ?_
        refine ix_L .frz (at_nat (j := pos.toNat) (by omega) (by rw [List.getElem?_map, hc]; rfl)) ?_
        refine ⟨_, by wtm_at "pt", ?_⟩
        refine run_asg ?_
        wtm_at "gk"
        refine IX ns pos wv s 1 rfl ?_
        wtm_at "gk"
        refine tgt_sub ?_
        wtm_at "gk"
        refine ⟨p, _, _, 1, _, rfl, rfl, rfl, .here, ?_⟩
        show TL.Run _ _ [(p, .lst (cellD ns (pos + 1) wv s))] _ _
        wtm_at "gk"
        refine op_powI ⟨by decide, by decide, by decide⟩ ?_
        wtm_at "gk"
        · rename_i q3
          have q3' : (10 : Int) ^ (18 : Int).toNat ≤ c := of_decide_eq_true q3
          have q4 : (0 : Int) ≤ c := Int.le_trans (by decide) q3'
          refine run_asg ?_
          wtm_at "gk"
          refine tgt_sub ?_
          wtm_at "gk"
          refine ⟨p, _, _, 2, _, rfl, rfl, rfl, .here, ?_⟩
          wtm_at "gk"
          exact ⟨_, _, pos + 1, c, s, by omega, q4, rfl, rfl⟩
        · refine run_asg ?_
          wtm_at "gk"
          refine IX ns (pos + 1) wv s 3 rfl ?_
          wtm_at "gk"
          refine op_mulI (.inr ⟨by decide, by decide⟩) ?_
          wtm_at "gk"
          refine op_mulI (.inr ⟨by decide, by decide⟩) ?_
          wtm_at "gk"
          refine op_modI (by decide) ?_
          refine tgt_sub ?_
          wtm_at "gk"
          refine ⟨p, _, _, 3, _, rfl, rfl, rfl, .here, ?_⟩
          wtm_at "gk"
          exact ⟨_, _, pos + 1, wv, _, by omega, hw, rfl, rfl⟩
      · refine run_asg ?_
        wtm_at "gk"
        refine IX ns pos wv s 3 rfl ?_
        wtm_at "gk"
        refine op_mulI (.inr ⟨by decide, by decide⟩) ?_
        wtm_at "gk"
        refine op_modI (by decide) ?_
        refine tgt_sub ?_
        wtm_at "gk"
        refine ⟨p, _, _, 3, _, rfl, rfl, rfl, .here, ?_⟩
        wtm_at "gk"
        exact ⟨_, _, pos, wv, _, hp, hw, rfl, rfl⟩
    · exact ⟨_, _, pos, wv, s, hp, hw, rfl, rfl⟩
def letS : Nat → Str
  | 0 => "a"
  | 1 => "b"
  | _ => "c"
abbrev lkey (l : Nat) : Key := Sum.inr (letS l)
abbrev Row := List (Option Nat)
def rowKf : Nat → Row → List (Key × V)
  | _, [] => []
  | i, some x :: r => (lkey i, .int (x : Nat)) :: rowKf (i + 1) r
  | i, none :: r => rowKf (i + 1) r
abbrev rowK (r : Row) : List (Key × V) := rowKf 0 r
structure Mac where
  tab : List Row
  last : List Nat
structure Mac.Ok (m : Mac) : Prop where
  pos : 0 < m.tab.length
  len : ∀ r ∈ m.tab, r.length ≤ 3
  lt : ∀ r ∈ m.tab, ∀ x, some x ∈ r → x < m.tab.length
  ends : ∀ e ∈ m.last, e < m.tab.length
  up : m.last.Pairwise (· < ·)
abbrev nV (n : Nat) : V := .int (n : Nat)
abbrev nD (n : Nat) : D := .v (nV n)
abbrev rowD (r : Row) : D := rowV (rowK r)
abbrev macR (Cr : Addr) (m : Mac) : D := .ob Cr [("table", .tup (m.tab.map rowD)), ("last", .tup (m.last.map nD))]
abbrev macD (Cm Cr : Addr) (m : Mac) : D := .ob Cm [("inner", macR Cr m)]
theorem rowKf_app : ∀ (r s : Row) (i : Nat), rowKf i (r ++ s) = rowKf i r ++ rowKf (i + r.length) s
  | [], s, i => rfl
  | some x :: r, s, i => by
    show (lkey i, _) :: rowKf (i + 1) (r ++ s) = (lkey i, _) :: rowKf (i + 1) r ++ _
    rw [rowKf_app r s (i + 1), List.length_cons, Nat.add_right_comm, Nat.add_assoc]
    rfl
  | none :: r, s, i => by
    show rowKf (i + 1) (r ++ s) = rowKf (i + 1) r ++ _
    rw [rowKf_app r s (i + 1), List.length_cons, Nat.add_right_comm, Nat.add_assoc]
/-- rows of at most three cells, one by one -/
theorem row_cases {P : Row → Prop} (h0 : P []) (h1 : ∀ a, P [a]) (h2 : ∀ a b, P [a, b]) (h3 : ∀ a b c, P [a, b, c]) {r : Row} (hl : r.length ≤ 3) : P r := by
  match r, hl with
  | [], _ => exact h0
  | [a], _ => exact h1 a
  | [a, b], _ => exact h2 a b
  | [a, b, c], _ => exact h3 a b c
  | _ :: _ :: _ :: _ :: _, h => simp at h
theorem lkey_dec : ∀ i j : Fin 3, decide (lkey i.val = lkey j.val) = decide (i.val = j.val) := by decide +kernel
theorem valV_cons (k k' : Key) (v : V) (l : List (Key × V)) : valV ((k', v) :: l) k = if decide (k' = k) = true then some v else valV l k := by
  unfold valV
  rw [List.find?_cons]
  cases decide (k' = k) <;> rfl
theorem valV_row {r : Row} (hl : r.length ≤ 3) {l : Nat} (h : l < 3) : valV (rowK r) (lkey l) = (r.getD l none).map nV := by
  have d := fun (i : Nat) (hi : i < 3) => lkey_dec ⟨i, hi⟩ ⟨l, h⟩
  have d0 := d 0 (by decide); have d1 := d 1 (by decide); have d2 := d 2 (by decide)
  simp only at d0 d1 d2
  have e : l = 0 ∨ l = 1 ∨ l = 2 := by omega
  refine row_cases (P := fun r => valV (rowK r) (lkey l) = (r.getD l none).map nV) ?_ ?_ ?_ ?_ hl
  · rfl
  · rintro (_ | a) <;> simp only [rowK, rowKf, valV_cons, d0] <;> rcases e with rfl | rfl | rfl <;> rfl
  · rintro (_ | a) (_ | b) <;> simp only [rowK, rowKf, valV_cons, d0, d1] <;> rcases e with rfl | rfl | rfl <;> rfl
  · rintro (_ | a) (_ | b) (_ | c) <;> simp only [rowK, rowKf, valV_cons, d0, d1, d2] <;> rcases e with rfl | rfl | rfl <;> rfl
theorem norm_row {r : Row} (hl : r.length ≤ 3) : normRow (rowK r) = rowK r := by
  refine row_cases (P := fun r => normRow (rowK r) = rowK r) ?_ ?_ ?_ ?_ hl
  · kernel_rfl
  · rintro (_ | a) <;> kernel_rfl
  · rintro (_ | a) (_ | b) <;> kernel_rfl
  · rintro (_ | a) (_ | b) (_ | c) <;> kernel_rfl
def rowLt (r : Row) (n : Nat) : Bool := r.all fun o => match o with | some x => decide (x < n) | none => true
theorem isLetter_l : isLetter (kV (lkey 0)) = true ∧ isLetter (kV (lkey 1)) = true ∧ isLetter (kV (lkey 2)) = true := by decide +kernel
theorem isWhole_n (x n : Nat) : isWhole (.int (x : Nat)) 0 ((n : Int) - 1) = decide (x < n) := by
  show (decide ((0 : Int) ≤ (x : Nat)) && decide (((x : Nat) : Int) ≤ (n : Int) - 1)) = _
  rw [decide_eq_true (show (0 : Int) ≤ (x : Nat) by omega), Bool.true_and]
  exact decide_eq_decide.mpr (by omega)
theorem lk_decs : (decide (lkey 0 = lkey 0) = true ∧ decide (lkey 0 = lkey 1) = false ∧ decide (lkey 0 = lkey 2) = false) ∧ (decide (lkey 1 = lkey 0) = false ∧ decide (lkey 1 = lkey 1) = true ∧ decide (lkey 1 = lkey 2) = false) ∧
    (decide (lkey 2 = lkey 0) = false ∧ decide (lkey 2 = lkey 1) = false ∧ decide (lkey 2 = lkey 2) = true) := by decide +kernel
theorem isRow_row {r : Row} (hl : r.length ≤ 3) (n : Nat) : isRow (rowK r) n = rowLt r n := by
  obtain ⟨l0, l1, l2⟩ := isLetter_l
  obtain ⟨⟨a0, a1, a2⟩, ⟨b0, b1, b2⟩, c0, c1, c2⟩ := lk_decs
  refine row_cases (P := fun r => isRow (rowK r) n = rowLt r n) ?_ ?_ ?_ ?_ hl
  · rfl
  · rintro (_ | a) <;> simp only [isRow, rowLt, rowK, rowKf, List.all_cons, List.all_nil, valV_cons, a0, a1, a2, b0, b1, b2, c0, c1, c2, l0, l1, l2, Bool.true_and, Bool.and_true, Bool.false_eq_true, ↓reduceIte, Option.getD_some, isWhole_n, decide_true, Nat.reduceAdd, Nat.zero_add]
  · rintro (_ | a) (_ | b) <;> simp only [isRow, rowLt, rowK, rowKf, List.all_cons, List.all_nil, valV_cons, a0, a1, a2, b0, b1, b2, c0, c1, c2, l0, l1, l2, Bool.true_and, Bool.and_true, Bool.false_eq_true, ↓reduceIte, Option.getD_some, isWhole_n, decide_true, Nat.reduceAdd, Nat.zero_add]
  · rintro (_ | a) (_ | b) (_ | c) <;> simp only [isRow, rowLt, rowK, rowKf, List.all_cons, List.all_nil, valV_cons, a0, a1, a2, b0, b1, b2, c0, c1, c2, l0, l1, l2, Bool.true_and, Bool.and_true, Bool.false_eq_true, ↓reduceIte, Option.getD_some, isWhole_n, decide_true, Nat.reduceAdd, Nat.zero_add]
theorem row_scal (r : Row) : ∀ (i : Nat), ∀ kv ∈ rowKf i r, scalV kv.2 = true := by
  induction r with
  | nil => intro i kv h; cases h
  | cons o r ih =>
    intro i kv h
    cases o with
    | none => exact ih (i + 1) kv h
    | some x =>
      rcases List.mem_cons.mp h with rfl | h
      · rfl
      · exact ih (i + 1) kv h
theorem row_len (r : Row) : ∀ i : Nat, (rowKf i r).length ≤ r.length := by
  induction r with
  | nil => intro i; exact Nat.le_refl _
  | cons o r ih =>
    intro i
    have := ih (i + 1)
    cases o with
    | none => exact Nat.le_trans this (Nat.le_succ _)
    | some x => exact Nat.succ_le_succ this
def spRows (Cm Cr : Addr) : Prm := fun ds L KK KE => ∃ m : Mac, ds = [macD Cm Cr m] ∧ m.tab.length < 1000 ∧ L = [] ∧ KK (.tup (m.tab.map rowD)) []
theorem ok_rows {f Cm Cr : Addr} {fd : FuncData} (FF : Fun K "rows" "Machine.rows" s_Machine_rows f fd) (B : Bi mg) (cM : Cls K Cm) (cR : Cls K Cr) (nI : NoAttr K Cm "inner") (nT : NoAttr K Cr "table") : Def P w K mg base 1 f fd ["self"] (spRows Cm Cr) := by
  refine def_ok FF sc_Machine_rows ?_ ?_
  · rintro ds L KK KE ⟨m, rfl, _⟩
    rfl
  · rintro ds L KK KE ⟨m, rfl, hl, rfl, hk⟩ H0 F0
    wtm_at "bg"
    wtm_at "go"
    refine ev_lc [("row", 1)] rfl (by kernel_rfl) (ei_tup ?_)
    wtm_at "go"
    refine lc_all m.tab rowD rowD rfl (sz_lt (by omega)) (fun _ h => nomatch h) ?_ ?_
    · intro F1 Dl r acc hr
      refine tn_name (i := 1) (by wtm_at "loc") rfl (List.mem_singleton.mpr rfl) ?_
      wtm_at "wz"
      refine ev_frz ?_
      wtm_at "go"
      exact fun p => ⟨_, _, _, rfl, .here, rfl, List.Sublist.refl _⟩
    · intro Dl
      wtm_at "go"
theorem rises_pw : ∀ l : List Nat, l.Pairwise (· < ·) → risesI (l.map fun n => ((n : Nat) : Int)) = true
  | [], _ => rfl
  | [_], _ => rfl
  | a :: b :: r, h => by
    show (decide (((a : Nat) : Int) < ((b : Nat) : Int)) && risesI ((b :: r).map fun n => ((n : Nat) : Int))) = true
    rw [rises_pw (b :: r) (List.Pairwise.of_cons h), Bool.and_true]
    have := List.rel_of_pairwise_cons h (List.mem_cons_self (a := b))
    exact decide_eq_true (by omega)
theorem ok_isMach {m : Mac} (h : m.Ok) : isMach (m.tab.map rowK) (m.last.map nV) = true := by
  unfold isMach
  simp only [Bool.and_eq_true]
  have hl : (m.tab.map rowK).length = m.tab.length := List.length_map _
  refine ⟨⟨⟨?_, ?_⟩, ?_⟩, ?_⟩
  · cases e : m.tab with
    | nil => have := h.pos; rw [e] at this; cases this
    | cons r rs => rfl
  · rw [hl, List.all_map]
    refine List.all_eq_true.mpr fun r hr => ?_
    show isRow (rowK r) _ = true
    rw [isRow_row (h.len r hr)]
    unfold rowLt
    refine List.all_eq_true.mpr fun o ho => ?_
    cases o with
    | none => rfl
    | some x => exact decide_eq_true (h.lt r hr x ho)
  · rw [hl, List.all_map]
    refine List.all_eq_true.mpr fun e he => ?_
    show isWhole (.int (e : Nat)) 0 ((m.tab.length : Int) - 1) = true
    rw [isWhole_n]
    exact decide_eq_true (h.ends e he)
  · have e : (m.last.map nV).map natV = m.last.map fun n => ((n : Nat) : Int) := by
      rw [List.map_map]
      rfl
    rw [e]
    exact rises_pw _ h.up
theorem ok_rowsOk {m : Mac} (h : m.Ok) (hl : m.tab.length < 1000) : RowsOk (m.tab.map rowK) := by
  refine ⟨by rw [List.length_map]; exact hl, fun r hr => ?_⟩
  obtain ⟨q, hq, rfl⟩ := List.mem_map.mp hr
  have h1 : (rowK q).length ≤ q.length := row_len q 0
  have h2 := h.len q hq
  exact ⟨row_scal q 0, by omega⟩
theorem norm_tab {m : Mac} (h : ∀ r ∈ m.tab, r.length ≤ 3) : (m.tab.map rowK).map (fun r => rowV (normRow r)) = m.tab.map rowD := by
  rw [List.map_map]
  refine List.map_congr_left fun r hr => ?_
  show rowV (normRow (rowK r)) = rowV (rowK r)
  rw [norm_row (h r hr)]
theorem rdr_mac (Cr : Addr) {m : Mac} (h : ∀ r ∈ m.tab, r.length ≤ 3) : rdrD Cr (m.tab.map rowK) (m.last.map nV) = macR Cr m := by
  unfold rdrD
  rw [norm_tab h, List.map_map]
  rfl
theorem last_len {m : Mac} (h : m.Ok) : m.last.length ≤ m.tab.length := by
  have go : ∀ (n : Nat) (l : List Nat) (k : Nat), l.Pairwise (· < ·) → (∀ e ∈ l, k ≤ e ∧ e < k + n) → l.length ≤ n := by
    intro n
    induction n with
    | zero =>
      intro l k _ hb
      cases l with
      | nil => exact Nat.le_refl _
      | cons a r => have := hb a List.mem_cons_self; omega
    | succ n ih =>
      intro l k hp hb
      cases l with
      | nil => exact Nat.zero_le _
      | cons a r =>
        have ha := hb a List.mem_cons_self
        refine Nat.succ_le_succ (ih r (k + 1) (List.Pairwise.of_cons hp) fun e he => ?_)
        have h1 := List.rel_of_pairwise_cons hp he
        have h2 := hb e (List.mem_cons_of_mem _ he)
        omega
  refine go m.tab.length m.last 0 h.up fun e he => ⟨Nat.zero_le _, ?_⟩
  rw [Nat.zero_add]
  exact h.ends e he
/-- Machine(rows, ends) of a typed machine -/
theorem minit_mac {Cm Cr CB l : Addr} {m : Mac} (h : m.Ok) (h6 : m.tab.length ≤ 6) {KK : D → Led → Prop} {KE : EX → Led → Prop} (hk : KK .non [(l, .ins Cm [("inner", macR Cr m)])]) :
    spMInit Cm Cr CB [.ref l, .tup (m.tab.map rowD), .tup (m.last.map nD)] [(l, .ins Cm [])] KK KE := by
  have hl := last_len h
  refine ⟨l, _, _, rfl, rfl, .inr (.inl ⟨m.tab.map rowK, m.last.map nV, by rw [List.map_map]; rfl, by rw [List.map_map]; rfl, ok_rowsOk h (by omega), ?_, by rw [List.length_map]; omega, ok_isMach h, by rw [List.length_map]; exact h6, ?_⟩)⟩
  · intro x hx
    obtain ⟨n, _, rfl⟩ := List.mem_map.mp hx
    rfl
  · rw [rdr_mac Cr h.len]
    exact hk
theorem letS_len (l : Nat) : (letS l).length = 1 := by
  match l with
  | 0 => rfl
  | 1 => rfl
  | n + 2 => rfl
theorem let_range : letV.map D.v = (List.range 3).map fun l => D.str (letS l) := rfl
theorem draw_sp {KK : D → Led → Prop} {KE : EX → Led → Prop} (ns : List Int) (p : Addr) (pos wv s : Int) (size : Int) (h1 : 0 ≤ pos) (h2 : 0 ≤ wv) (h3 : 0 < size) (h4 : size < 1000) (h5 : ∀ r pos' wv' s', 0 ≤ r → r < size → 0 ≤ pos' → 0 ≤ wv' → KK (.int r) [(p, .lst (cellD ns pos' wv' s'))]) :
    spDraw [.ref p, .int size] [(p, .lst (cellD ns pos wv s))] KK KE := ⟨p, ns, pos, wv, s, size, rfl, rfl, h1, h2, h3, h4, h5⟩
abbrev optN (o : Option Nat) : D := match o with
  | none => .non
  | some n => nD n
def beh (m : Mac) (r l : Nat) : Option Nat := (m.tab.getD r []).getD l none
def Len3 (m : Mac) : Prop := ∀ r ∈ m.tab, r.length ≤ 3
def spBehind (Cr : Addr) : Prm := fun ds L KK KE => ∃ (m : Mac) (row : Option Nat) (l : Nat), ds = [macR Cr m, optN row, .str (letS l)] ∧ l < 3 ∧ Len3 m ∧ (∀ r, row = some r → r < m.tab.length) ∧ L = [] ∧ KK (optN (row.bind fun r => beh m r l)) []
theorem ok_behind {f Cr : Addr} {fd : FuncData} (FF : Fun K "behind" "Reader.behind" s_Reader_behind f fd) (B : Bi mg) (cR : Cls K Cr) (nT : NoAttr K Cr "table") : Def P w K mg base 1 f fd ["self", "row", "letter"] (spBehind Cr) := by
  refine def_ok FF sc_Reader_behind ?_ ?_
  · rintro ds L KK KE ⟨m, row, l, rfl, _⟩
    rfl
  · rintro ds L KK KE ⟨m, row, l, rfl, hl, h3, hr, rfl, hk⟩ H0 F0
    wtm_at "bg"
    cases row with
    | none =>
      wtm_at "go"
    | some r =>
      have hrt := hr r rfl
      have hg : m.tab[r]? = some m.tab[r] := List.getElem?_eq_getElem hrt
      refine run_ret0 (ev_if ?_)
      wtm_at "go"
      refine ev_get1 rfl ?_ (fun _ => ⟨rfl, rfl, rfl, rfl⟩)
      wtm_at "go"
      refine ix_T (at_nat (j := r) rfl (by rw [List.getElem?_map, hg]; rfl)) ?_
      refine ⟨_, .frz, ?_⟩
      wtm_at "go"
      refine ⟨lkey l, .frz, rfl, ?_⟩
      have hk' : KK (optN (beh m r l)) [] := hk
      have e : beh m r l = (m.tab[r]).getD l none := by
        have e2 : m.tab.getD r [] = m.tab[r] := by
          rw [List.getD_eq_getElem?_getD, hg]
          rfl
        unfold beh
        rw [e2]
      rw [valD_map, valV_row (h3 _ (List.getElem_mem hrt)) hl, ← e]
      cases h : beh m r l with
      | none => rw [h] at hk'; exact hk'
      | some x => rw [h] at hk'; exact hk'
abbrev WayL := List (Nat × Str)
def wayStep1 (m : Mac) (e : Nat × Str) (f : WayL) (l : Nat) : WayL := match beh m e.1 l with
  | some a => if a ∈ f.map (·.1) then f else f ++ [(a, e.2 ++ letS l)]
  | none => f
def wayStep (m : Mac) (f : WayL) (i : Nat) : WayL := (List.range 3).foldl (wayStep1 m (f.getD i (0, Str.empty))) f
def waysLoop (m : Mac) : Nat → Nat → WayL → WayL
  | 0, _, f => f
  | n + 1, i, f => if i < f.length then waysLoop m n (i + 1) (wayStep m f i) else f
def way0 : WayL := [(0, "")]
def ways (m : Mac) : WayL := waysLoop m (m.tab.length + 1) 0 way0
abbrev wayD (f : WayL) : List (Key × D) := f.map fun e => ((Sum.inl ((e.1 : Nat) : Int) : Key), D.str e.2)
structure WayOk (m : Mac) (f : WayL) : Prop where
  nd : (f.map (·.1)).Nodup
  lt : ∀ e ∈ f, e.1 < m.tab.length
  len : ∀ (i : Nat) (e : Nat × Str), f[i]? = some e → e.2.length ≤ i
theorem nodup_bd : ∀ (n : Nat) (l : List Nat), l.Nodup → (∀ x ∈ l, x < n) → l.length ≤ n
  | 0, l, _, h => by
    cases l with
    | nil => exact Nat.le_refl _
    | cons a r => have := h a List.mem_cons_self; omega
  | n + 1, l, nd, h => by
    have h1 := nodup_bd n (l.erase n) (nd.erase n) fun x hx => by
      have h2 := h x (List.mem_of_mem_erase hx)
      have h3 : x ≠ n := fun e => (nd.not_mem_erase (a := n)) (e ▸ hx)
      omega
    have h4 := List.length_erase (a := n) (l := l)
    split at h4 <;> omega
theorem WayOk.bd {m : Mac} {f : WayL} (h : WayOk m f) : f.length ≤ m.tab.length := by
  have := nodup_bd m.tab.length (f.map (·.1)) h.nd fun x hx => by
    obtain ⟨e, he, rfl⟩ := List.mem_map.mp hx
    exact h.lt e he
  rwa [List.length_map] at this
theorem beh_lt {m : Mac} (h : m.Ok) {r l a : Nat} (e : beh m r l = some a) : a < m.tab.length := by
  unfold beh at e
  by_cases hr : r < m.tab.length
  · have hg : m.tab.getD r [] = m.tab[r] := by rw [List.getD_eq_getElem?_getD, List.getElem?_eq_getElem hr]; rfl
    rw [hg] at e
    exact h.lt _ (List.getElem_mem hr) a (by
      rw [List.getD_eq_getElem?_getD] at e
      cases q : m.tab[r][l]? with
      | none => rw [q] at e; cases e
      | some o =>
        rw [q] at e
        have : o = some a := e
        rw [← this]
        exact List.mem_of_getElem? q)
  · have hg : m.tab.getD r [] = [] := by rw [List.getD_eq_getElem?_getD, List.getElem?_eq_none (by omega)]; rfl
    rw [hg] at e
    simp at e
theorem WayOk.step1 {m : Mac} (h : m.Ok) {f : WayL} (w : WayOk m f) {e : Nat × Str} (he : e.2.length + 1 ≤ f.length) (l : Nat) : WayOk m (wayStep1 m e f l) ∧ f.length ≤ (wayStep1 m e f l).length := by
  unfold wayStep1
  split
  · rename_i a ha
    split
    · exact ⟨w, Nat.le_refl _⟩
    · rename_i hn
      refine ⟨⟨?_, ?_, ?_⟩, by rw [List.length_append]; omega⟩
      · rw [List.map_append]
        refine List.nodup_append.mpr ⟨w.nd, List.nodup_cons.mpr ⟨(fun q => nomatch q), List.nodup_nil⟩, fun x hx y hy => ?_⟩
        rw [List.mem_singleton.mp hy]
        intro q
        have q2 : x = a := q
        exact hn (q2 ▸ hx)
      · intro x hx
        rcases List.mem_append.mp hx with hx | hx
        · exact w.lt x hx
        · rw [List.mem_singleton.mp hx]
          exact beh_lt h ha
      · intro i x hx
        by_cases hi : i < f.length
        · rw [List.getElem?_append_left hi] at hx
          exact w.len i x hx
        · rw [List.getElem?_append_right (by omega)] at hx
          have e0 : i - f.length = 0 := by
            cases q : i - f.length with
            | zero => rfl
            | succ j => rw [q] at hx; simp at hx
          rw [e0] at hx
          cases hx
          rw [app_len]
          have := letS_len l
          omega
  · exact ⟨w, Nat.le_refl _⟩
theorem valD_cons {k k' : Key} {d : D} {l : List (Key × D)} : valD ((k', d) :: l) k = if decide (k' = k) = true then some d else valD l k := by
  unfold valD
  rw [List.find?_cons]
  cases decide (k' = k) <;> rfl
theorem ikey_dec (a b : Nat) : decide ((Sum.inl ((a : Nat) : Int) : Key) = Sum.inl ((b : Nat) : Int)) = decide (a = b) :=
  decide_eq_decide.mpr ⟨fun q => by injection q with q; omega, fun q => by rw [q]⟩
abbrev ikD {α : Type} (g : α → D) (f : List (Nat × α)) : List (Key × D) := f.map fun e => ((Sum.inl ((e.1 : Nat) : Int) : Key), g e.2)
/-- a dict with numbers for keys: what stands at one -/
theorem valD_ik {α : Type} (g : α → D) (f : List (Nat × α)) (a : Nat) : valD (ikD g f) (Sum.inl ((a : Nat) : Int)) = (f.lookup a).map g := by
  induction f with
  | nil => rfl
  | cons x f ih =>
    rw [show ikD g (x :: f) = ((Sum.inl ((x.1 : Nat) : Int) : Key), g x.2) :: ikD g f from rfl, valD_cons, ikey_dec, ih]
    obtain ⟨k, v⟩ := x
    rw [List.lookup_cons]
    by_cases q : k = a
    · subst q; simp
    · have q2 : (a == k) = false := by simpa using fun z => q z.symm
      simp [q, q2]
theorem lookup_none {α : Type} {f : List (Nat × α)} {a : Nat} : f.lookup a = none ↔ a ∉ f.map (·.1) := by
  induction f with
  | nil => simp
  | cons x f ih =>
    obtain ⟨k, v⟩ := x
    rw [List.lookup_cons]
    by_cases q : a = k
    · subst q; simp
    · have q2 : (a == k) = false := by simpa using q
      rw [q2]
      simp [ih, q]
theorem lookup_mem {α : Type} {f : List (Nat × α)} (nd : (f.map (·.1)).Nodup) {e : Nat × α} (he : e ∈ f) : f.lookup e.1 = some e.2 := by
  induction f with
  | nil => cases he
  | cons x f ih =>
    rw [List.map_cons] at nd
    obtain ⟨n1, n2⟩ := List.nodup_cons.mp nd
    obtain ⟨k, v⟩ := x
    rw [List.lookup_cons]
    rcases List.mem_cons.mp he with rfl | he
    · simp
    · have ne : (e.1 == k) = false := by
        have : e.1 ≠ k := fun q => n1 (q ▸ List.mem_map.mpr ⟨e, he, rfl⟩)
        simpa using this
      rw [ne]
      exact ih n2 he
theorem isSome_ik {α : Type} (g : α → D) (f : List (Nat × α)) (a : Nat) : (valD (ikD g f) (Sum.inl ((a : Nat) : Int))).isSome = decide (a ∈ f.map (·.1)) := by
  rw [valD_ik, Option.isSome_map]
  cases e : f.lookup a with
  | none =>
    have := lookup_none.mp e
    simp [this]
  | some v =>
    have h : ¬ a ∉ f.map (·.1) := fun q => by rw [lookup_none.mpr q] at e; cases e
    have h2 : a ∈ f.map (·.1) := Decidable.not_not.mp h
    simp only [h2, decide_true]
    rfl
def spWays (Cr : Addr) : Prm := fun ds L KK KE => ∃ m : Mac, ds = [macR Cr m] ∧ m.Ok ∧ m.tab.length < 1000 ∧ L = [] ∧ KK (.dK (wayD (ways m))) []
theorem ok_ways {f Cr : Addr} {fd : FuncData} (FF : Fun K "ways_of" "ways_of" s_ways_of f fd) (B : Bi mg) (gL : GTup K mg "LETTERS" letV) (cR : Cls K Cr) (m1 : Mth P w K mg base Cr "behind" ["self", "row", "letter"] (spBehind Cr) 1) : Def P w K mg base 2 f fd ["reader"] (spWays Cr) := by
  refine def_ok FF sc_ways_of ?_ ?_
  · rintro ds L KK KE ⟨m, rfl, _⟩
    rfl
  · rintro ds L KK KE ⟨m, rfl, hok, hlt, rfl, hk⟩ H0 F0
    wtm_at "bg"
    refine run_set (by wtm_at "loc") (by wtm_at "mem") (ev_dnew1 fun pf => ?_)
    wtm_at "go"
    refine ⟨Sum.inl 0, rfl, _, rfl, ?_⟩
    refine ⟨_, by wtm_at "pt", ?_⟩
    wtm_at "gn"
    · exact Nat.le_of_ble_eq_true rfl
    intro pw
    refine ⟨_, by wtm_at "pt", ?_⟩
    wtm_at "gn"
    have hpos := hok.pos
    refine run_while rfl (fun n G' L' => ∃ (a b c : Option D) (i : Nat) (fo : WayL), G' = [some (macR Cr m), some (.ref pf), some (.ref pw), some (nD i), a, b, c] ∧ L' = [(pw, .lst ((fo.map (·.1)).map nD)), (pf, .dK (wayD fo))] ∧ WayOk m fo ∧ 0 < fo.length ∧ i ≤ fo.length ∧ n + i = m.tab.length + 1 ∧ waysLoop m n i fo = ways m)
      (m.tab.length + 1) ⟨_, _, _, 0, way0, rfl, rfl, ⟨by decide +kernel, fun e he => ?_, fun i e he => ?_⟩, Nat.zero_lt_one, Nat.zero_le _, rfl, rfl⟩ ?_
    · rw [List.mem_singleton.mp he]
      exact hpos
    · cases i with
      | zero => cases he; exact Nat.le_refl _
      | succ j => simp [way0] at he
    · rintro n G' L' ⟨a, b, c, i, fo, rfl, rfl, wo, hf0, hif, hni, hl⟩
      wtm_at "gn"
      · rename_i q
        have q' : i < fo.length := by
          rw [List.length_map, List.length_map] at q
          have := of_decide_eq_true q
          omega
        have hfi : fo[i]? = some fo[i] := List.getElem?_eq_getElem q'
        generalize he : fo[i] = e at hfi
        have hem := List.mem_of_getElem? hfi
        have hel := wo.lt e hem
        have hec := wo.len i e hfi
        refine ix_L (.own (.head _)) (at_nat (j := i) rfl (by rw [List.getElem?_map, List.getElem?_map, hfi]; rfl)) ?_
        wtm_at "gn"
        refine ip_addI ?_
        refine ⟨_, by wtm_at "pt", ?_⟩
        refine run_for rfl rfl (ei_tup ?_)
        wtm_at "gn"
        have hb := wo.bd
        have step : ∀ l : Nat, l ≤ 3 → WayOk m ((List.range l).foldl (wayStep1 m e) fo) ∧ fo.length ≤ ((List.range l).foldl (wayStep1 m e) fo).length ∧ e ∈ ((List.range l).foldl (wayStep1 m e) fo) := by
          intro l
          induction l with
          | zero => intro _; exact ⟨wo, Nat.le_refl _, hem⟩
          | succ l ih =>
            intro hl3
            obtain ⟨h1, h2, h3⟩ := ih (by omega)
            rw [List.range_succ, List.foldl_append]
            obtain ⟨h4, h5⟩ := h1.step1 hok (e := e) (by omega) l
            refine ⟨h4, Nat.le_trans h2 h5, ?_⟩
            show e ∈ wayStep1 m e _ l
            unfold wayStep1
            split
            · split
              · exact h3
              · exact List.mem_append_left _ h3
            · exact h3
        refine for_map (List.range 3) (fun l => .str (letS l)) let_range (fun l G' L' => ∃ b c : Option D, G' = [some (macR Cr m), some (.ref pf), some (.ref pw), some (nD (i + 1)), some (nD e.1), b, c] ∧
          L' = [(pw, .lst ((((List.range l).foldl (wayStep1 m e) fo).map (·.1)).map nD)), (pf, .dK (wayD ((List.range l).foldl (wayStep1 m e) fo)))]) ⟨_, _, rfl, rfl⟩ (fun _ _ _ _ _ h => (nomatch h)) ?_ ?_
        · rintro F1 l x G' L' hx hlt2 ⟨b, c, rfl, rfl⟩
          rw [List.length_range] at hlt2
          obtain ⟨_, ey⟩ := List.getElem?_eq_some_iff.mp hx
          rw [List.getElem_range] at ey
          subst ey
          obtain ⟨s1, s2, s3⟩ := step l (by omega)
          have sb := s1.bd
          have nx : (List.range (l + 1)).foldl (wayStep1 m e) fo = wayStep1 m e ((List.range l).foldl (wayStep1 m e) fo) l := by
            rw [List.range_succ, List.foldl_append]
            rfl
          rw [nx]
          generalize (List.range l).foldl (wayStep1 m e) fo = fl at s1 s2 s3 sb
          refine tgt_name (by wtm_at "loc") (by wtm_at "pt") ?_
          wtm_at "gn"
          refine calls0 ⟨m, some e.1, l, rfl, hlt2, hok.len, fun r hr => by cases hr; exact hel, rfl, ?_⟩
          refine ⟨_, by wtm_at "pt", ?_⟩
          show TL.Run _ [some (macR Cr m), some (.ref pf), some (.ref pw), some (nD (i + 1)), some (nD e.1), some (.str (letS l)), some (optN (beh m e.1 l))] _ _ _
          cases hbe : beh m e.1 l with
          | none =>
            have ew : wayStep1 m e fl l = fl := by unfold wayStep1; rw [hbe]
            rw [ew]
            wtm_at "gn"
            exact ⟨_, _, rfl, rfl⟩
          | some a =>
            wtm_at "gn"
            refine op_niK (k := Sum.inl ((a : Nat) : Int)) rfl (.own (.tail _ (.head _))) ?_
            rw [isSome_ik]
            by_cases hin : a ∈ fl.map (·.1)
            · have ew : wayStep1 m e fl l = fl := by unfold wayStep1; rw [hbe]; simp only [hin, if_true]
              rw [ew, decide_eq_true hin]
              wtm_at "gn"
              exact ⟨_, _, rfl, rfl⟩
            · have ew : wayStep1 m e fl l = fl ++ [(a, e.2 ++ letS l)] := by unfold wayStep1; rw [hbe]; simp only [hin, if_false]
              rw [ew, decide_eq_false hin]
              wtm_at "gn"
              refine run_dput rfl ?_
              wtm_at "gn"
              refine ix_K (k := Sum.inl ((e.1 : Nat) : Int)) rfl (.own (.tail _ (.head _))) (d := .str e.2) ?_ ?_
              · rw [valD_ik, lookup_mem s1.nd s3]
                rfl
              wtm_at "gn"
              refine op_addS ?_ ?_
              · have := letS_len l
                exact sz_of (show e.2.length + (letS l).length ≤ 1000000 by omega)
              wtm_at "gn"
              refine ⟨pf, _, Sum.inl ((a : Nat) : Int), _, rfl, rfl, .there .here, by rw [List.length_map]; exact sz_lt (by omega), ?_⟩
              wtm_at "gn"
              refine ev_append ?_
              wtm_at "gn"
              refine ⟨pw, _, rfl, .head _, ?_⟩
              wtm_at "gn"
              refine ⟨_, _, .here, by rw [List.length_map, List.length_map]; exact sz_lt (by omega), ?_⟩
              refine run_nil (run_nil ⟨_, _, rfl, ?_⟩)
              rw [putE_new]
              · simp only [List.map_append, List.map_cons, List.map_nil]
              · rw [List.map_map]
                intro hm
                obtain ⟨z, hz, ez⟩ := List.mem_map.mp hm
                refine hin (List.mem_map.mpr ⟨z, hz, ?_⟩)
                injection ez with ez
                omega
        · rintro G' L' ⟨b, c, rfl, rfl⟩
          rw [List.length_range]
          obtain ⟨s1, s2, s3⟩ := step 3 (Nat.le_refl _)
          refine run_nil ⟨n - 1, by omega, _, _, _, i + 1, _, rfl, rfl, s1, by omega, by omega, by omega, ?_⟩
          obtain ⟨k, rfl⟩ : ∃ k, n = k + 1 := ⟨n - 1, by omega⟩
          have e1 : waysLoop m (k + 1) i fo = waysLoop m k (i + 1) (wayStep m fo i) := by
            show (if i < fo.length then _ else _) = _
            rw [if_pos q']
          have e2 : wayStep m fo i = (List.range 3).foldl (wayStep1 m e) fo := by
            unfold wayStep
            rw [List.getD_eq_getElem?_getD, hfi]
            rfl
          rw [← hl, e1, e2]
          rfl
      · rename_i q
        have q' : ¬ i < fo.length := by
          rw [List.length_map, List.length_map] at q
          have := of_decide_eq_false q
          omega
        have e1 : waysLoop m n i fo = fo := by
          cases n with
          | zero => rfl
          | succ k =>
            show (if i < fo.length then _ else _) = _
            rw [if_neg q']
        rw [e1] at hl
        refine run_frz (x := "found") (by wtm_at "lk") (.there .here) (by wtm_at "pt") ?_
        wtm_at "go"
        rw [hl]
        exact hk
/-- the rows from which some text leads to an end -/
def anyIn (m : Mac) (f : List Nat) (r : Nat) : Bool := (List.range 3).any fun l => match beh m r l with
  | some a => decide (a ∈ f)
  | none => false
def leadStep (m : Mac) (f : List Nat) (r : Nat) : List Nat := if r ∉ f ∧ anyIn m f r = true then f ++ [r] else f
def leadSweep (m : Mac) (f : List Nat) : List Nat := (List.range m.tab.length).foldl (leadStep m) f
def leadLoop (m : Mac) : Nat → List Nat → List Nat
  | 0, f => f
  | n + 1, f => if (leadSweep m f).length = f.length then leadSweep m f else leadLoop m n (leadSweep m f)
def lead (m : Mac) : List Nat := leadLoop m (m.tab.length + 1) m.last
abbrev setD (f : List Nat) : List (Key × D) := f.map fun r => ((Sum.inl ((r : Nat) : Int) : Key), D.bl true)
theorem isSome_set (f : List Nat) (a : Nat) : (valD (setD f) (Sum.inl ((a : Nat) : Int))).isSome = decide (a ∈ f) := by
  have e : setD f = ikD (fun _ : Unit => D.bl true) (f.map fun r => (r, ())) := by
    show _ = List.map _ (List.map _ f)
    rw [List.map_map]
    rfl
  rw [e, isSome_ik, List.map_map]
  show decide (a ∈ f.map id) = _
  rw [List.map_id]
structure LeadOk (m : Mac) (f : List Nat) : Prop where
  nd : f.Nodup
  lt : ∀ r ∈ f, r < m.tab.length
theorem LeadOk.bd {m : Mac} {f : List Nat} (h : LeadOk m f) : f.length ≤ m.tab.length := nodup_bd _ _ h.nd h.lt
theorem LeadOk.step {m : Mac} {f : List Nat} (h : LeadOk m f) {r : Nat} (hr : r < m.tab.length) : LeadOk m (leadStep m f r) ∧ f.length ≤ (leadStep m f r).length := by
  unfold leadStep
  split
  · rename_i q
    refine ⟨⟨List.nodup_append.mpr ⟨h.nd, List.nodup_cons.mpr ⟨(fun q => nomatch q), List.nodup_nil⟩, fun x hx y hy => ?_⟩, fun x hx => ?_⟩, by rw [List.length_append]; omega⟩
    · rw [List.mem_singleton.mp hy]
      intro e
      exact q.1 (e ▸ hx)
    · rcases List.mem_append.mp hx with hx | hx
      · exact h.lt x hx
      · rw [List.mem_singleton.mp hx]; exact hr
  · exact ⟨h, Nat.le_refl _⟩
theorem LeadOk.sweep {m : Mac} {f : List Nat} (h : LeadOk m f) : ∀ k : Nat, k ≤ m.tab.length → LeadOk m ((List.range k).foldl (leadStep m) f) ∧ f.length ≤ ((List.range k).foldl (leadStep m) f).length := by
  intro k
  induction k with
  | zero => intro _; exact ⟨h, Nat.le_refl _⟩
  | succ k ih =>
    intro hk
    obtain ⟨h1, h2⟩ := ih (by omega)
    rw [List.range_succ, List.foldl_append]
    obtain ⟨h3, h4⟩ := h1.step (r := k) (by omega)
    exact ⟨h3, Nat.le_trans h2 h4⟩
def spLead (Cr : Addr) : Prm := fun ds L KK KE => ∃ m : Mac, ds = [macR Cr m] ∧ m.Ok ∧ m.tab.length < 1000 ∧ L = [] ∧ KK (.dK (setD (lead m))) []
theorem last_nd {m : Mac} (h : m.Ok) : LeadOk m m.last := ⟨h.up.imp (fun h => Nat.ne_of_lt h), h.ends⟩
theorem disp_set {f : List Nat} (nd : f.Nodup) : dispE (setD f) = setD f := by
  refine dispE_nodup ?_
  rw [List.map_map]
  refine List.pairwise_map.mpr (nd.imp fun {a b} hab => ?_)
  intro q
  injection q with q
  omega
theorem ok_lead {f Cr : Addr} {fd : FuncData} (FF : Fun K "leading_rows" "leading_rows" s_leading_rows f fd) (B : Bi mg) (gL : GTup K mg "LETTERS" letV) (cR : Cls K Cr) (nT : NoAttr K Cr "table") (nL : NoAttr K Cr "last") (m1 : Mth P w K mg base Cr "behind" ["self", "row", "letter"] (spBehind Cr) 1) : Def P w K mg base 2 f fd ["reader"] (spLead Cr) := by
  refine def_ok FF sc_leading_rows ?_ ?_
  · rintro ds L KK KE ⟨m, rfl, _⟩
    rfl
  · rintro ds L KK KE ⟨m, rfl, hok, hlt, rfl, hk⟩ H0 F0
    wtm_at "bg"
    have hll := last_len hok
    have l0 := last_nd hok
    refine run_setC (by kernel_rfl) rfl (by wtm_at "mem") (ev_dc [("end", 4)] rfl (by kernel_rfl) (ei_tup ?_)) (fun _ h => sw_cellD h)
    wtm_at "ea"
    refine ⟨_, rfl, ?_⟩
    refine dc_map m.last nD (fun n => (Sum.inl ((n : Nat) : Int), .bl true)) (fun _ => true) rfl (sz_lt (by omega)) (fun _ h => (nomatch h)) ?_ ?_
    · intro F1 Dl e acc he
      refine tn_name (i := 4) (by wtm_at "loc") rfl (List.mem_singleton.mpr rfl) ?_
      wtm_at "wz"
      refine ⟨rfl, List.Sublist.refl _, fun _ => ?_⟩
      wtm_at "ea"
      exact ⟨rfl, rfl, List.Sublist.refl _⟩
    · intro pf
      have ef : m.last.filter (fun _ => true) = m.last := List.filter_eq_self.mpr fun _ _ => rfl
      rw [ef, show (m.last.map fun n => ((Sum.inl ((n : Nat) : Int) : Key), D.bl true)) = setD m.last from rfl, disp_set l0.nd]
      refine ⟨_, by wtm_at "pt", ?_⟩
      wtm_at "gn"
      refine run_while rfl (fun n G' L' => ∃ (g : Bool) (b : Option D) (fo : List Nat), G' = [some (macR Cr m), some (.ref pf), some (.bl g), b, none, none] ∧ L' = [(pf, .dK (setD fo))] ∧ LeadOk m fo ∧
        (g = true → 0 < n ∧ leadLoop m (n - 1) fo = lead m ∧ m.tab.length + 1 ≤ n - 1 + fo.length) ∧ (g = false → fo = lead m))
        (m.tab.length + 2) ⟨true, _, m.last, rfl, rfl, l0, fun _ => ⟨by omega, rfl, by omega⟩, fun h => (nomatch h)⟩ ?_
      rintro n G' L' ⟨g, b, fo, rfl, rfl, ho, hg1, hg2⟩
      cases g with
      | false =>
        have hfo := hg2 rfl
        wtm_at "gn"
        refine run_frz (x := "found") (by wtm_at "lk") .here (by wtm_at "pt") ?_
        wtm_at "go"
        rw [hfo]
        exact hk
      | true =>
        obtain ⟨hn0, hl, hnl⟩ := hg1 rfl
        have hb := ho.bd
        wtm_at "gn"
        refine run_for rfl rfl (ei_rng1 (by wtm_at "gl") (by wtm_at "bi") ?_)
        wtm_at "ea"
        rw [List.length_map]
        refine ⟨_, rfl, by omega, by omega, ?_⟩
        refine for_map (List.range m.tab.length) (fun k => nD k) (rng0 _) (fun k G' L' => ∃ b : Option D, G' = [some (macR Cr m), some (.ref pf), some (.bl (decide (((List.range k).foldl (leadStep m) fo).length ≠ fo.length))), b, none, none] ∧
          L' = [(pf, .dK (setD ((List.range k).foldl (leadStep m) fo)))]) ⟨b, by simp, rfl⟩ (fun _ _ _ _ _ h => (nomatch h)) ?_ ?_
        · rintro F1 k x G' L' hx hlt2 ⟨b, rfl, rfl⟩
          rw [List.length_range] at hlt2
          obtain ⟨_, ey⟩ := List.getElem?_eq_some_iff.mp hx
          rw [List.getElem_range] at ey
          subst ey
          obtain ⟨s1, s2⟩ := ho.sweep k (by omega)
          have sb := s1.bd
          have nx : (List.range (k + 1)).foldl (leadStep m) fo = leadStep m ((List.range k).foldl (leadStep m) fo) k := by
            rw [List.range_succ, List.foldl_append]
            rfl
          rw [nx]
          generalize (List.range k).foldl (leadStep m) fo = fl at s1 s2 sb
          refine tgt_name (by wtm_at "loc") (by wtm_at "pt") ?_
          wtm_at "gn"
          refine op_niK (k := Sum.inl ((k : Nat) : Int)) rfl (.own (.head _)) ?_
          rw [isSome_set]
          by_cases hin : k ∈ fl
          · have ew : leadStep m fl k = fl := by unfold leadStep; rw [if_neg (fun q => q.1 hin)]
            rw [ew, decide_eq_true hin]
            wtm_at "gn"
            all_goals exact ⟨_, rfl, rfl⟩
          · rw [decide_eq_false hin]
            wtm_at "gn"
            refine ev_lc [("letter", 5)] rfl (by kernel_rfl) (ei_tup ?_)
            wtm_at "gn"
            refine lc_all (List.range 3) (fun l => .str (letS l)) (fun l => .bl (match beh m k l with | some a => decide (a ∈ fl) | none => false)) let_range (sz_lt (by decide)) (fun _ h => (nomatch h)) ?_ ?_
            · intro F2 Dl l acc hl2
              have hl3 := List.mem_range.mp hl2
              refine tn_name (i := 5) (by wtm_at "loc") rfl (List.mem_singleton.mpr rfl) ?_
              wtm_at "wz"
              wtm_at "gn"
              refine calls0 ⟨m, some k, l, rfl, hl3, hok.len, fun r hr => by cases hr; exact hlt2, rfl, ?_⟩
              show TL.Ev _ _ _ _ _
              wtm_at "gn"
              show TL.Op2 _ _ _ _ (optN (beh m k l)) _ _
              cases hbe : beh m k l with
              | none =>
                refine op_inKn (.own (.tail _ (.head _))) ⟨rfl, List.Sublist.refl _⟩
              | some a =>
                refine op_inK (k := Sum.inl ((a : Nat) : Int)) rfl (.own (.tail _ (.head _))) ?_
                rw [isSome_set]
                exact ⟨rfl, List.Sublist.refl _⟩
            · intro Dl
              have ea : ((List.range 3).any fun l => match beh m k l with | some a => decide (a ∈ fl) | none => false) = anyIn m fl k := rfl
              wtm_at "gm"
              · rename_i q
                have ew : leadStep m fl k = fl ++ [k] := by
                  unfold leadStep
                  rw [if_pos ⟨hin, q⟩]
                rw [ew]
                refine run_dput rfl ?_
                wtm_at "gn"
                refine ⟨pf, _, Sum.inl ((k : Nat) : Int), _, rfl, rfl, .there .here, by rw [List.length_map]; exact sz_lt (by omega), ?_⟩
                wtm_at "gm"
                refine run_drop (List.sublist_cons_self _ _) ?_
                refine run_nil ?_
                refine run_nil ?_
                refine ⟨some (nD k), ?_, ?_⟩
                · have e : decide ((fl ++ [k]).length ≠ fo.length) = true := decide_eq_true (by rw [List.length_append]; simp; omega)
                  rw [e]
                · rw [putE_new]
                  · simp only [List.map_append, List.map_cons, List.map_nil]
                  · rw [List.map_map]
                    intro hm
                    obtain ⟨z, hz, ez⟩ := List.mem_map.mp hm
                    injection ez with ez
                    exact hin (by rw [show k = z by omega]; exact hz)
              · rename_i q
                have ew : leadStep m fl k = fl := by
                  unfold leadStep
                  rw [if_neg (fun z => by rw [show anyIn m fl k = false from q] at z; exact absurd z.2 (by decide))]
                rw [ew]
                refine run_drop (List.sublist_cons_self _ _) ?_
                refine run_nil ?_
                refine run_nil ?_
                exact ⟨_, rfl, rfl⟩
        · rintro G' L' ⟨b, rfl, rfl⟩
          rw [List.length_range]
          obtain ⟨s1, s2⟩ := ho.sweep m.tab.length (Nat.le_refl _)
          have es : (List.range m.tab.length).foldl (leadStep m) fo = leadSweep m fo := rfl
          rw [es] at s1 s2 ⊢
          have sb := s1.bd
          obtain ⟨k, hk2⟩ : ∃ k, n - 1 = k + 1 := ⟨n - 2, by omega⟩
          rw [hk2] at hl hnl
          have el : leadLoop m (k + 1) fo = if (leadSweep m fo).length = fo.length then leadSweep m fo else leadLoop m k (leadSweep m fo) := rfl
          rw [el] at hl
          refine run_nil ⟨k + 1, by omega, _, _, _, rfl, rfl, s1, fun hg => ?_, fun hg => ?_⟩
          · have hne : ¬ (leadSweep m fo).length = fo.length := of_decide_eq_true hg
            rw [if_neg hne] at hl
            exact ⟨Nat.succ_pos _, hl, by simp only [Nat.add_sub_cancel]; omega⟩
          · have hne : (leadSweep m fo).length = fo.length := by
              have := of_decide_eq_false hg
              omega
            rw [if_pos hne] at hl
            exact hl
def isKey (m : Mac) (r : Nat) : Bool := decide (r ∈ (ways m).map (·.1))
def needed (m : Mac) : List Nat := ((List.range m.tab.length).filter (isKey m)).filter fun r => decide (r ∈ lead m)
theorem ways_ok {m : Mac} (h : m.Ok) : WayOk m (ways m) := by
  have hp := h.pos
  have w0 : WayOk m way0 := ⟨by decide +kernel, fun e he => by rw [List.mem_singleton.mp he]; exact hp, fun i e he => by
    cases i with
    | zero => cases he; exact Nat.le_refl _
    | succ j => simp [way0] at he⟩
  have go : ∀ (n i : Nat) (f : WayL), WayOk m f → WayOk m (waysLoop m n i f) := by
    intro n
    induction n with
    | zero => intro i f w; exact w
    | succ n ih =>
      intro i f w
      show WayOk m (if i < f.length then waysLoop m n (i + 1) (wayStep m f i) else f)
      split
      · rename_i hi
        refine ih (i + 1) _ ?_
        have hfi : f[i]? = some f[i] := List.getElem?_eq_getElem hi
        have hec := w.len i _ hfi
        have step : ∀ l : Nat, WayOk m ((List.range l).foldl (wayStep1 m f[i]) f) ∧ f.length ≤ ((List.range l).foldl (wayStep1 m f[i]) f).length := by
          intro l
          induction l with
          | zero => exact ⟨w, Nat.le_refl _⟩
          | succ l ihl =>
            rw [List.range_succ, List.foldl_append]
            obtain ⟨h4, h5⟩ := ihl.1.step1 h (e := f[i]) (by have := ihl.2; omega) l
            exact ⟨h4, Nat.le_trans ihl.2 h5⟩
        have e : wayStep m f i = (List.range 3).foldl (wayStep1 m f[i]) f := by
          unfold wayStep
          rw [List.getD_eq_getElem?_getD, hfi]
          rfl
        rw [e]
        exact (step 3).1
      · exact w
  exact go _ _ _ w0
theorem sorted_eq {ys : List Int} {ks : List Nat} {n : Nat} (hp : ys.Perm (ks.map fun k => ((k : Nat) : Int))) (hs : ys.Pairwise (· ≤ ·)) (nd : ks.Nodup) (hb : ∀ k ∈ ks, k < n) : ys = ((List.range n).filter fun r => decide (r ∈ ks)).map fun k => ((k : Nat) : Int) := by
  have inj : ∀ a b : Nat, ((a : Nat) : Int) = ((b : Nat) : Int) → a = b := fun a b h => by omega
  have p2 : (ks.map fun k => ((k : Nat) : Int)).Perm (((List.range n).filter fun r => decide (r ∈ ks)).map fun k => ((k : Nat) : Int)) := by
    refine List.Perm.map _ ((List.perm_ext_iff_of_nodup nd (List.nodup_range.filter _)).mpr fun a => ?_)
    rw [List.mem_filter, List.mem_range, decide_eq_true_eq]
    exact ⟨fun h => ⟨hb a h, h⟩, fun h => h.2⟩
  refine List.Perm.eq_of_pairwise (le := (· ≤ ·)) (fun a b _ _ h1 h2 => Int.le_antisymm h1 h2) hs ?_ (hp.trans p2)
  refine List.pairwise_map.mpr ?_
  have : (List.range n).Pairwise fun a b => ((a : Nat) : Int) ≤ ((b : Nat) : Int) := List.pairwise_lt_range.imp fun h => by omega
  exact this.filter _
def spNeeded (Cr : Addr) : Prm := fun ds L KK KE => ∃ m : Mac, ds = [macR Cr m] ∧ m.Ok ∧ m.tab.length < 64 ∧ L = [] ∧ KK (.tup ((needed m).map nD)) []
theorem ok_needed {f Cr : Addr} {fd : FuncData} (FF : Fun K "needed_rows" "needed_rows" s_needed_rows f fd) (B : Bi mg) (g1 : Glob P w K mg base "ways_of" ["reader"] (spWays Cr) 2) (g2 : Glob P w K mg base "leading_rows" ["reader"] (spLead Cr) 2) : Def P w K mg base 3 f fd ["reader"] (spNeeded Cr) := by
  refine def_ok FF sc_needed_rows ?_ ?_
  · rintro ds L KK KE ⟨m, rfl, _⟩
    rfl
  · rintro ds L KK KE ⟨m, rfl, hok, hlt, rfl, hk⟩ H0 F0
    wtm_at "bg"
    have wo := ways_ok hok
    have wb := wo.bd
    refine run_setC (by kernel_rfl) rfl (by wtm_at "mem") ?_ (fun _ _ => rfl)
    wtm_at "ea"
    refine calls0 ⟨m, rfl, hok, by omega, rfl, ?_⟩
    refine ⟨_, by wtm_at "pt", ?_⟩
    refine run_ret0 ?_
    wtm_at "ev"
    wtm_at "ev"
    refine ev_lc [("row", 2)] rfl (by kernel_rfl) (ei_lst ?_)
    wtm_at "ev"
    wtm_at "ev"
    wtm_at "ea"
    refine calls0 ⟨m, rfl, hok, by omega, rfl, ?_⟩
    wtm_at "ea"
    refine cv_sortedDI (ks := ((ways m).map (·.1)).map fun k => ((k : Nat) : Int)) rfl .frz ?_ ?_ fun ys ps hp hs => ?_
    · rw [List.map_map, List.map_map, List.map_map]
      rfl
    · rw [List.length_map, List.length_map]
      omega
    have ey := sorted_eq (n := m.tab.length) hp hs wo.nd fun k hk => by
      obtain ⟨e, he, rfl⟩ := List.mem_map.mp hk
      exact wo.lt e he
    subst ey
    rw [List.map_map]
    refine ⟨_, .own (.head _), ?_⟩
    have hfl : ((List.range m.tab.length).filter fun r => decide (r ∈ (ways m).map (·.1))).length ≤ m.tab.length := by
      have := List.length_filter_le (fun r => decide (r ∈ (ways m).map (·.1))) (List.range m.tab.length)
      rwa [List.length_range] at this
    refine lc_map ((List.range m.tab.length).filter fun r => decide (r ∈ (ways m).map (·.1))) nD nD (fun r => decide (r ∈ lead m)) rfl (sz_lt (by omega)) (fun s hs => hs) ?_ ?_
    · intro F1 Dl r acc hr
      refine tn_name (i := 2) (by wtm_at "loc") rfl (List.mem_singleton.mpr rfl) ?_
      wtm_at "wz"
      show TL.Tst _ _ _ _ _
      refine tst_cmp ?_
      wtm_at "ea"
      refine op_inK (k := Sum.inl ((r : Nat) : Int)) rfl .frz ?_
      rw [isSome_set]
      refine ⟨_, rfl, rfl, List.Sublist.refl _, fun _ => ?_⟩
      wtm_at "ea"
      exact ⟨rfl, List.Sublist.refl _⟩
    · intro Dl
      wtm_at "ea"
      exact hk
end
end Rk01
open PySem L2 TL
namespace Rk01
section
variable {P : Program} {w : World} {K : PySem.W.Frag} {mg : Str → Option Value} {base : Heap}
inductive Pth (m : Mac) (S : Nat → Prop) (a : Nat) : Nat → Nat → Prop
  | nil : Pth m S a a 0
  | snoc {b c l n : Nat} : Pth m S a b n → beh m b l = some c → S c → Pth m S a c (n + 1)
theorem Pth.mono {m : Mac} {S S' : Nat → Prop} (h : ∀ r, S r → S' r) {a b n : Nat} (p : Pth m S a b n) : Pth m S' a b n := by
  induction p with
  | nil => exact .nil
  | snoc _ e s ih => exact .snoc ih e (h _ s)
theorem Pth.cat {m : Mac} {S : Nat → Prop} {a b c n k : Nat} (p : Pth m S a b n) (q : Pth m S b c k) : Pth m S a c (n + k) := by
  induction q with
  | nil => exact p
  | snoc _ e s ih => exact .snoc ih e s
theorem Pth.lt {m : Mac} (h : m.Ok) {S : Nat → Prop} {a b n : Nat} (p : Pth m S a b n) (ha : a < m.tab.length) : b < m.tab.length := by
  cases p with
  | nil => exact ha
  | snoc _ e _ => exact beh_lt h e
def All : Nat → Prop := fun _ => True
def Reach (m : Mac) (a b : Nat) : Prop := ∃ n, Pth m All a b n
def Leads (m : Mac) (a : Nat) : Prop := ∃ e, Reach m a e ∧ e ∈ m.last
theorem Reach.refl (m : Mac) (a : Nat) : Reach m a a := ⟨0, .nil⟩
theorem Reach.trans {m : Mac} {a b c : Nat} (h : Reach m a b) (k : Reach m b c) : Reach m a c := let ⟨_, p⟩ := h; let ⟨_, q⟩ := k; ⟨_, p.cat q⟩
theorem Reach.one {m : Mac} {a b l : Nat} (h : beh m a l = some b) : Reach m a b := ⟨1, .snoc .nil h trivial⟩
theorem beh_l {m : Mac} (h : m.Ok) {r l a : Nat} (e : beh m r l = some a) : l < 3 := by
  rcases Nat.lt_or_ge l 3 with q | q
  · exact q
  · exfalso
    have hl : (m.tab.getD r []).length ≤ 3 := by
      rw [List.getD_eq_getElem?_getD]
      cases x : m.tab[r]? with
      | none => exact Nat.zero_le _
      | some y => exact h.len y (List.mem_of_getElem? x)
    unfold beh at e
    rw [List.getD_eq_getElem?_getD, List.getElem?_eq_none (by omega)] at e
    cases e
structure WayI (m : Mac) (i : Nat) (f : WayL) : Prop where
  rc : ∀ e ∈ f, Reach m 0 e.1
  cl : ∀ j e, j < i → f[j]? = some e → ∀ l a, beh m e.1 l = some a → a ∈ f.map (·.1)
theorem way_step {m : Mac} (h : m.Ok) {f : WayL} {e : Nat × Str} (he : Reach m 0 e.1) (hr : ∀ x ∈ f, Reach m 0 x.1) : ∀ k : Nat, ∃ ext, (List.range k).foldl (wayStep1 m e) f = f ++ ext ∧ (∀ x ∈ f ++ ext, Reach m 0 x.1) ∧ ∀ l, l < k → ∀ a, beh m e.1 l = some a → a ∈ (f ++ ext).map (·.1) := by
  intro k
  induction k with
  | zero => exact ⟨[], (List.append_nil f).symm, by rw [List.append_nil]; exact hr, fun _ q => absurd q (Nat.not_lt_zero _)⟩
  | succ k ih =>
    obtain ⟨ext, e1, r1, c1⟩ := ih
    rw [List.range_succ, List.foldl_append, e1, List.foldl_cons, List.foldl_nil]
    unfold wayStep1
    cases hb : beh m e.1 k with
    | none =>
      refine ⟨ext, rfl, r1, fun l hl a ha => ?_⟩
      rcases Nat.lt_or_ge l k with q | q
      · exact c1 l q a ha
      · rw [show l = k by omega, hb] at ha; cases ha
    | some b =>
      by_cases hin : b ∈ (f ++ ext).map (·.1)
      · refine ⟨ext, by simp only [hin, if_true], r1, fun l hl a ha => ?_⟩
        rcases Nat.lt_or_ge l k with q | q
        · exact c1 l q a ha
        · rw [show l = k by omega, hb] at ha; cases ha; exact hin
      · refine ⟨ext ++ [(b, e.2 ++ letS k)], by simp only [hin, if_false, List.append_assoc], fun x hx => ?_, fun l hl a ha => ?_⟩
        · rw [← List.append_assoc] at hx
          rcases List.mem_append.mp hx with hx | hx
          · exact r1 x hx
          · rw [List.mem_singleton.mp hx]
            exact he.trans (.one hb)
        · rw [← List.append_assoc, List.map_append]
          rcases Nat.lt_or_ge l k with q | q
          · exact List.mem_append_left _ (c1 l q a ha)
          · rw [show l = k by omega, hb] at ha
            cases ha
            exact List.mem_append_right _ (List.mem_singleton.mpr rfl)
theorem ways_done {m : Mac} (h : m.Ok) : ∀ (n i : Nat) (f : WayL), WayOk m f → WayI m i f → i ≤ f.length → m.tab.length + 1 ≤ n + i → (∀ x ∈ f, x ∈ waysLoop m n i f) ∧ WayI m (waysLoop m n i f).length (waysLoop m n i f) := by
  intro n
  induction n with
  | zero =>
    intro i f w _ hi hn
    have := w.bd
    omega
  | succ n ih =>
    intro i f w iv hi hn
    show (∀ x ∈ f, x ∈ (if i < f.length then waysLoop m n (i + 1) (wayStep m f i) else f)) ∧ WayI m (if i < f.length then waysLoop m n (i + 1) (wayStep m f i) else f).length (if i < f.length then waysLoop m n (i + 1) (wayStep m f i) else f)
    by_cases q : i < f.length
    · rw [if_pos q]
      have hfi : f[i]? = some f[i] := List.getElem?_eq_getElem q
      have e0 : wayStep m f i = (List.range 3).foldl (wayStep1 m f[i]) f := by
        unfold wayStep
        rw [List.getD_eq_getElem?_getD, hfi]
        rfl
      have hec := w.len i _ hfi
      have wk : ∀ l : Nat, WayOk m ((List.range l).foldl (wayStep1 m f[i]) f) ∧ f.length ≤ ((List.range l).foldl (wayStep1 m f[i]) f).length := by
        intro l
        induction l with
        | zero => exact ⟨w, Nat.le_refl _⟩
        | succ l ihl =>
          rw [List.range_succ, List.foldl_append]
          obtain ⟨h4, h5⟩ := ihl.1.step1 h (e := f[i]) (by have := ihl.2; omega) l
          exact ⟨h4, Nat.le_trans ihl.2 h5⟩
      obtain ⟨w3, l3⟩ := wk 3
      obtain ⟨ext, e1, r1, c1⟩ := way_step h (iv.rc _ (List.getElem_mem q)) iv.rc 3
      rw [e0]
      rw [e1] at w3 l3 ⊢
      have hI : WayI m (i + 1) (f ++ ext) := by
        refine ⟨r1, fun j x hj hx l a ha => ?_⟩
        by_cases z : j < i
        · rw [List.getElem?_append_left (by omega)] at hx
          rw [List.map_append]
          exact List.mem_append_left _ (iv.cl j x z hx l a ha)
        · rw [show j = i by omega, List.getElem?_append_left q, hfi] at hx
          cases hx
          exact c1 l (beh_l h ha) a ha
      obtain ⟨k1, k2⟩ := ih (i + 1) (f ++ ext) w3 hI (by rw [List.length_append]; omega) (by omega)
      exact ⟨fun x hx => k1 x (List.mem_append_left _ hx), k2⟩
    · rw [if_neg q]
      refine ⟨fun x hx => hx, ?_⟩
      rw [show f.length = i by omega]
      exact iv
theorem ways_reach {m : Mac} (h : m.Ok) (r : Nat) : r ∈ (ways m).map (·.1) ↔ Reach m 0 r := by
  have hp := h.pos
  have w0 : WayOk m way0 := ⟨by decide +kernel, fun e he => by rw [List.mem_singleton.mp he]; exact hp, fun i e he => by
    cases i with
    | zero => cases he; exact Nat.le_refl _
    | succ j => simp [way0] at he⟩
  obtain ⟨k1, k2⟩ := ways_done h (m.tab.length + 1) 0 way0 w0 ⟨fun e he => by rw [List.mem_singleton.mp he]; exact .refl m 0, fun j _ hj => absurd hj (Nat.not_lt_zero _)⟩ (Nat.zero_le _) (Nat.le_refl _)
  rw [show waysLoop m (m.tab.length + 1) 0 way0 = ways m from rfl] at k1 k2
  constructor
  · intro hr
    obtain ⟨e, he, rfl⟩ := List.mem_map.mp hr
    exact k2.rc e he
  · rintro ⟨n, p⟩
    induction p with
    | nil => exact List.mem_map.mpr ⟨(0, ""), k1 _ List.mem_cons_self, rfl⟩
    | snoc _ e _ ih =>
      obtain ⟨x, hx, rfl⟩ := List.mem_map.mp ih
      obtain ⟨j, hj, ej⟩ := List.mem_iff_getElem.mp hx
      exact k2.cl j x hj (by rw [List.getElem?_eq_getElem hj, ej]) _ _ e
theorem any_in {m : Mac} {f : List Nat} {r : Nat} : anyIn m f r = true ↔ ∃ l, l < 3 ∧ ∃ a, beh m r l = some a ∧ a ∈ f := by
  unfold anyIn
  rw [List.any_eq_true]
  constructor
  · rintro ⟨l, hl, q⟩
    refine ⟨l, List.mem_range.mp hl, ?_⟩
    cases hb : beh m r l with
    | none => rw [hb] at q; cases q
    | some a => rw [hb] at q; exact ⟨a, rfl, of_decide_eq_true q⟩
  · rintro ⟨l, hl, a, hb, ha⟩
    exact ⟨l, List.mem_range.mpr hl, by rw [hb]; exact decide_eq_true ha⟩
theorem leadStep_sub (m : Mac) (f : List Nat) (r : Nat) : (∀ x ∈ f, x ∈ leadStep m f r) ∧ f.length ≤ (leadStep m f r).length := by
  unfold leadStep
  split
  · exact ⟨fun x hx => List.mem_append_left _ hx, by rw [List.length_append]; omega⟩
  · exact ⟨fun x hx => hx, Nat.le_refl _⟩
theorem sweep_sub (m : Mac) : ∀ (rs : List Nat) (f : List Nat), (∀ x ∈ f, x ∈ rs.foldl (leadStep m) f) ∧ f.length ≤ (rs.foldl (leadStep m) f).length := by
  intro rs
  induction rs with
  | nil => intro f; exact ⟨fun x hx => hx, Nat.le_refl _⟩
  | cons r rs ih =>
    intro f
    obtain ⟨h1, h2⟩ := leadStep_sub m f r
    obtain ⟨h3, h4⟩ := ih (leadStep m f r)
    exact ⟨fun x hx => h3 x (h1 x hx), Nat.le_trans h2 h4⟩
theorem sweep_same (m : Mac) : ∀ (rs : List Nat) (f : List Nat), (rs.foldl (leadStep m) f).length = f.length → rs.foldl (leadStep m) f = f ∧ ∀ r ∈ rs, r ∉ f → anyIn m f r = false := by
  intro rs
  induction rs with
  | nil => intro f _; exact ⟨rfl, fun _ h => nomatch h⟩
  | cons r rs ih =>
    intro f hl
    have h2 := (leadStep_sub m f r).2
    have h4 := (sweep_sub m rs (leadStep m f r)).2
    have e1 : leadStep m f r = f := by
      unfold leadStep at h2 h4 ⊢
      split
      · rename_i q
        rw [List.foldl_cons] at hl
        unfold leadStep at hl
        rw [if_pos q] at hl h4
        rw [List.length_append] at h4
        simp at h4
        omega
      · rfl
    rw [List.foldl_cons, e1] at hl ⊢
    obtain ⟨k1, k2⟩ := ih f hl
    refine ⟨k1, fun x hx hn => ?_⟩
    rcases List.mem_cons.mp hx with rfl | hx
    · cases hz : anyIn m f x with
      | false => rfl
      | true =>
        unfold leadStep at e1
        rw [if_pos ⟨hn, hz⟩] at e1
        have := congrArg List.length e1
        rw [List.length_append] at this
        simp at this
    · exact k2 x hx hn
theorem sweep_leads {m : Mac} : ∀ (rs : List Nat) (f : List Nat), (∀ x ∈ f, Leads m x) → ∀ x ∈ rs.foldl (leadStep m) f, Leads m x := by
  intro rs
  induction rs with
  | nil => intro f h; exact h
  | cons r rs ih =>
    intro f h
    refine ih _ fun x hx => ?_
    unfold leadStep at hx
    split at hx
    · rename_i q
      rcases List.mem_append.mp hx with hx | hx
      · exact h x hx
      · rw [List.mem_singleton.mp hx]
        obtain ⟨l, _, a, hb, ha⟩ := any_in.mp q.2
        obtain ⟨e, re, he⟩ := h a ha
        exact ⟨e, (Reach.one hb).trans re, he⟩
    · exact h x hx
theorem lead_done {m : Mac} (h : m.Ok) : ∀ (n : Nat) (f : List Nat), LeadOk m f → (∀ x ∈ f, Leads m x) → m.tab.length + 1 ≤ n + f.length →
    (∀ x ∈ f, x ∈ leadLoop m n f) ∧ (∀ x ∈ leadLoop m n f, Leads m x) ∧ ∀ r, r < m.tab.length → r ∉ leadLoop m n f → anyIn m (leadLoop m n f) r = false := by
  intro n
  induction n with
  | zero =>
    intro f w _ hn
    have := w.bd
    omega
  | succ n ih =>
    intro f w hl hn
    have s1 := (w.sweep m.tab.length (Nat.le_refl _))
    have s2 := sweep_sub m (List.range m.tab.length) f
    have s3 := sweep_leads (List.range m.tab.length) f hl
    have es : (List.range m.tab.length).foldl (leadStep m) f = leadSweep m f := rfl
    rw [es] at s1 s2 s3
    show (∀ x ∈ f, x ∈ (if (leadSweep m f).length = f.length then leadSweep m f else leadLoop m n (leadSweep m f))) ∧ (∀ x ∈ (if (leadSweep m f).length = f.length then leadSweep m f else leadLoop m n (leadSweep m f)), Leads m x) ∧
      ∀ r, r < m.tab.length → r ∉ (if (leadSweep m f).length = f.length then leadSweep m f else leadLoop m n (leadSweep m f)) → anyIn m (if (leadSweep m f).length = f.length then leadSweep m f else leadLoop m n (leadSweep m f)) r = false
    by_cases q : (leadSweep m f).length = f.length
    · rw [if_pos q]
      obtain ⟨k1, k2⟩ := sweep_same m (List.range m.tab.length) f q
      rw [es] at k1
      rw [k1] at s2 s3 ⊢
      exact ⟨s2.1, s3, fun r hr hn => k2 r (List.mem_range.mpr hr) hn⟩
    · rw [if_neg q]
      obtain ⟨k1, k2, k3⟩ := ih (leadSweep m f) s1.1 s3 (by omega)
      exact ⟨fun x hx => k1 x (s2.1 x hx), k2, k3⟩
theorem lead_leads {m : Mac} (h : m.Ok) {r : Nat} (hr : r < m.tab.length) : r ∈ lead m ↔ Leads m r := by
  obtain ⟨k1, k2, k3⟩ := lead_done h (m.tab.length + 1) m.last (last_nd h) (fun x hx => ⟨x, .refl m x, hx⟩) (by omega)
  rw [show leadLoop m (m.tab.length + 1) m.last = lead m from rfl] at k1 k2 k3
  refine ⟨k2 r, ?_⟩
  rintro ⟨e, ⟨n, p⟩, he⟩
  have key : ∀ x, Reach m x e → x < m.tab.length → x ∈ lead m := by
    rintro x ⟨n, p⟩
    induction n generalizing x with
    | zero =>
      intro _
      cases p
      exact k1 e he
    | succ n ih =>
      intro hx
      -- the first step
      have fst : ∀ {a b n : Nat}, Pth m All a b (n + 1) → ∃ l c, beh m a l = some c ∧ Pth m All c b n := by
        intro a b n p
        induction n generalizing b with
        | zero =>
          cases p with
          | snoc p e s =>
            cases p
            exact ⟨_, _, e, .nil⟩
        | succ n ih2 =>
          cases p with
          | snoc p e s =>
            obtain ⟨l, c, e1, p1⟩ := ih2 p
            exact ⟨l, c, e1, .snoc p1 e s⟩
      obtain ⟨l, c, e1, p1⟩ := fst p
      have hc := ih c p1 (beh_lt h e1)
      by_cases q : x ∈ lead m
      · exact q
      · have := k3 x hx q
        rw [any_in.mpr ⟨l, beh_l h e1, c, e1, hc⟩] at this
        cases this
  exact key r ⟨n, p⟩ hr
theorem mem_needed {m : Mac} (h : m.Ok) {r : Nat} : r ∈ needed m ↔ Reach m 0 r ∧ Leads m r := by
  unfold needed
  rw [List.mem_filter, List.mem_filter, List.mem_range]
  unfold isKey
  rw [decide_eq_true_eq, decide_eq_true_eq, ways_reach h]
  constructor
  · rintro ⟨⟨h1, h2⟩, h3⟩
    exact ⟨h2, (lead_leads h h1).mp h3⟩
  · rintro ⟨⟨n, p⟩, h2⟩
    have hr := p.lt h h.pos
    exact ⟨⟨hr, ⟨n, p⟩⟩, (lead_leads h hr).mpr h2⟩
theorem zero_needed {m : Mac} (h : m.Ok) (hn : needed m ≠ []) : 0 ∈ needed m := by
  obtain ⟨r, hr⟩ := List.exists_mem_of_ne_nil _ hn
  obtain ⟨h1, e, h2, h3⟩ := (mem_needed h).mp hr
  exact (mem_needed h).mpr ⟨.refl m 0, e, h1.trans h2, h3⟩
theorem in_rows (o : Option Nat) (rows : List Nat) : inD (match o with | none => V.non | some a => nV a) (rows.map nD) = (match o with | none => false | some a => decide (a ∈ rows)) := by
  unfold inD
  rw [List.any_map]
  cases o with
  | none =>
    induction rows with
    | nil => rfl
    | cons r rs ih => rw [List.any_cons, ih]; rfl
  | some a =>
    induction rows with
    | nil => rfl
    | cons r rs ih =>
      rw [List.any_cons, ih]
      have e : (decide (((r : Nat) : Int) = ((a : Nat) : Int))) = decide (a = r) := decide_eq_decide.mpr ⟨fun h => by omega, fun h => by rw [h]⟩
      show (eqV (nV r) (nV a) || _) = _
      have e2 : eqV (nV r) (nV a) = decide (a = r) := by
        rw [← e]
        rfl
      rw [e2]
      simp
def txt (ls : List Nat) : Str := Txt.join "" (ls.map letS)
theorem strLen (z : Str) : z.cps.toList.length = z.length := by simp [Str.length]
def letC : Nat → Nat
  | 0 => 97
  | 1 => 98
  | _ => 99
theorem tl_let (l : Nat) : tl (letS l) = [letC l] := by
  match l with
  | 0 => rfl
  | 1 => rfl
  | n + 2 => rfl
theorem tl_txt : ∀ ls : List Nat, tl (txt ls) = ls.map letC := by
  intro ls
  unfold txt
  rw [join_eq, tl_join, show tl ("" : Str) = [] from rfl]
  have go : ∀ ps : List (List Nat), TL.joinL [] ps = ps.flatten := by
    intro ps
    induction ps with
    | nil => rfl
    | cons p ps ih =>
      cases ps with
      | nil => show p = _; simp
      | cons q r =>
        show p ++ ([] ++ TL.joinL [] (q :: r)) = _
        rw [ih, List.nil_append, ← List.flatten_cons]
  rw [go, List.map_map]
  induction ls with
  | nil => rfl
  | cons l ls ih => rw [List.map_cons, List.flatten_cons, ih]; show tl (letS l) ++ _ = _; rw [tl_let]; rfl
theorem tl_inj {a b : Str} (h : tl a = tl b) : a = b := by rw [← mk_tl a, h, mk_tl]
theorem txt_snoc (ls : List Nat) (l : Nat) : txt (ls ++ [l]) = txt ls ++ letS l := by
  refine tl_inj ?_
  rw [tl_append, tl_txt, tl_txt, tl_let, List.map_append]
  rfl
theorem txt_len (ls : List Nat) : (txt ls).length = ls.length := by
  have h : (tl (txt ls)).length = (txt ls).length := strLen _
  rw [← h, tl_txt, List.length_map]
/-- the row behind a text -/
def behL (m : Mac) : Nat → List Nat → Option Nat
  | s, [] => some s
  | s, l :: t => (beh m s l).bind fun r => behL m r t
theorem behL_cat (m : Mac) : ∀ (s : Nat) (t u : List Nat), behL m s (t ++ u) = (behL m s t).bind fun r => behL m r u
  | s, [], u => rfl
  | s, l :: t, u => by
    show (beh m s l).bind _ = ((beh m s l).bind _).bind _
    cases beh m s l with
    | none => rfl
    | some r => exact behL_cat m r t u
theorem behL_snoc (m : Mac) (s : Nat) (t : List Nat) (l : Nat) : behL m s (t ++ [l]) = (behL m s t).bind fun r => beh m r l := by
  rw [behL_cat]
  cases behL m s t with
  | none => rfl
  | some r =>
    show (beh m r l).bind _ = beh m r l
    cases beh m r l <;> rfl
theorem behL_reach {m : Mac} : ∀ {s : Nat} {t : List Nat} {e : Nat}, behL m s t = some e → Reach m s e
  | s, [], e, h => by cases h; exact .refl m _
  | s, l :: t, e, h => by
    cases q : beh m s l with
    | none => rw [behL, q] at h; cases h
    | some r =>
      rw [behL, q] at h
      exact (Reach.one q).trans (behL_reach h)
theorem pth_behL {m : Mac} {S : Nat → Prop} {a b n : Nat} (t : Pth m S a b n) : ∃ w : List Nat, w.length = n ∧ behL m a w = some b := by
  induction t with
  | nil => exact ⟨[], rfl, rfl⟩
  | snoc t e s ih =>
    rename_i b c l n
    obtain ⟨w, h1, h2⟩ := ih
    refine ⟨w ++ [l], by rw [List.length_append, h1]; rfl, ?_⟩
    rw [behL_snoc, h2]
    exact e
def isText (x : V) : Bool := match x with
  | .str z => z.cps.toList.all fun c => inD (.str ⟨#[c]⟩) (letV.map D.v)
  | _ => false
def spIsText : Prm := fun ds L KK KE => ∃ x : V, ds = [.v x] ∧ scalV x = true ∧ (∀ z, x = .str z → z.length ≤ 1000) ∧ L = [] ∧ KK (.bl (isText x)) []
theorem ok_is_text {f : Addr} {fd : FuncData} (FF : Fun K "is_text" "is_text" s_is_text f fd) (B : Bi mg) (gL : GTup K mg "LETTERS" letV) : Def P w K mg base 1 f fd ["thing"] spIsText := by
  refine def_ok FF sc_is_text ?_ ?_
  · rintro ds L KK KE ⟨x, rfl, _⟩
    rfl
  · rintro ds L KK KE ⟨x, rfl, hx, hz, rfl, hk⟩ H0 F0
    wtm_at "bg"
    rcases scal_cases hx with ⟨i, rfl⟩ | ⟨k, rfl⟩ | ⟨z, rfl⟩ | rfl
    · wtm_at "go"
    · wtm_at "go"
    · have hz2 := hz z rfl
      refine run_ret0 ?_
      wtm_at "ea"
      refine ⟨true, rfl, fun _ => ?_, fun q => nomatch q⟩
      wtm_at "ea"
      refine ev_lc [("letter", 1)] rfl (by kernel_rfl) (ei_str ?_)
      wtm_at "ea"
      refine ⟨_, rfl, ?_⟩
      refine lc_all z.cps.toList (fun c => .str ⟨#[c]⟩) (fun c => .bl (inD (.str ⟨#[c]⟩) (letV.map D.v))) rfl (sz_lt (by have : z.length = z.cps.toList.length := rfl; omega)) (fun _ q => (nomatch q)) ?_ ?_
      · intro F1 Dl c acc hc
        refine tn_name (i := 1) (by wtm_at "loc") rfl (List.mem_singleton.mpr rfl) ?_
        wtm_at "wz"
        wtm_at "ea"
        exact op_inQ .ctup rfl rfl ⟨rfl, List.Sublist.refl _⟩
      intro Dl
      wtm_at "ea"
      exact hk
    · wtm_at "go"
def leastT (m : Mac) : Option Str := ((ways m).find? fun e => decide (e.1 ∈ m.last)).map (·.2)
abbrev optS (o : Option Str) : D := match o with
  | none => .non
  | some z => .str z
def spLeastText (Cr : Addr) : Prm := fun ds L KK KE => ∃ m : Mac, ds = [macR Cr m] ∧ m.Ok ∧ m.tab.length < 1000 ∧ L = [] ∧ KK (optS (leastT m)) []
theorem ok_least_text {f Cr : Addr} {fd : FuncData} (FF : Fun K "least_text" "least_text" s_least_text f fd) (B : Bi mg) (cR : Cls K Cr) (nL : NoAttr K Cr "last") (g1 : Glob P w K mg base "ways_of" ["reader"] (spWays Cr) 2) : Def P w K mg base 3 f fd ["reader"] (spLeastText Cr) := by
  refine def_ok FF sc_least_text ?_ ?_
  · rintro ds L KK KE ⟨m, rfl, _⟩
    rfl
  · rintro ds L KK KE ⟨m, rfl, hok, hlt, rfl, hk⟩ H0 F0
    wtm_at "bg"
    have wo := ways_ok hok
    have wb := wo.bd
    have flr : (m.last.map nD).all flatD = true := by
      rw [List.all_map]
      exact List.all_eq_true.mpr fun _ _ => rfl
    refine run_set (by wtm_at "loc") (by wtm_at "mem") ?_
    wtm_at "ea"
    refine calls0 ⟨m, rfl, hok, hlt, rfl, ?_⟩
    refine ⟨_, by wtm_at "pt", ?_⟩
    refine run_forK rfl rfl (path_name (by wtm_at "lk") (by wtm_at "vis") (by kernel_rfl) (by kernel_rfl)) (fun H1 F1 => ?_)
    refine for_pre (ways m) (fun e => nD e.1) (by show List.map _ (List.map _ (ways m)) = _; rw [List.map_map]; rfl) (fun pre G' L' => ∃ c : Option D, G' = [some (macR Cr m), some (.dK (wayD (ways m))), c] ∧ L' = [] ∧ ∀ e ∈ pre, e.1 ∉ m.last) ⟨_, rfl, rfl, fun _ h => nomatch h⟩ (fun _ _ _ _ _ hh => (nomatch hh)) ?_ ?_
    · rintro F3 pre e suf G' L' hsp ⟨c, rfl, rfl, hpre⟩
      have hem : e ∈ ways m := by rw [hsp]; exact List.mem_append_right _ List.mem_cons_self
      refine tgt_name (by wtm_at "loc") (by wtm_at "pt") ?_
      refine run_if (tst_cmp ?_)
      wtm_at "ea"
      refine op_inQ .tup rfl flr ?_
      rw [show inD (nV e.1) (m.last.map nD) = decide (e.1 ∈ m.last) from in_rows (some e.1) m.last]
      by_cases hl : e.1 ∈ m.last
      · rw [decide_eq_true hl]
        refine ⟨_, rfl, fun _ => ?_, fun q => nomatch q⟩
        have el : leastT m = some e.2 := by
          unfold leastT
          rw [hsp, List.find?_append, List.find?_eq_none.mpr (fun x hx => by simpa using hpre x hx), List.find?_cons, decide_eq_true hl]
          rfl
        rw [el] at hk
        refine run_ret0 ?_
        wtm_at "ea"
        refine ix_K (k := Sum.inl ((e.1 : Nat) : Int)) rfl .frz (d := .str e.2) ?_ hk
        rw [valD_ik, lookup_mem wo.nd hem]
        rfl
      · rw [decide_eq_false hl]
        refine ⟨_, rfl, (fun q => nomatch q), fun _ => ?_⟩
        refine run_nil (run_nil ⟨_, rfl, rfl, fun x hx => ?_⟩)
        rcases List.mem_append.mp hx with hx | hx
        · exact hpre x hx
        · rw [List.mem_singleton.mp hx]; exact hl
    · rintro G' L' ⟨c, rfl, rfl, hall⟩
      have el : leastT m = none := by
        unfold leastT
        rw [List.find?_eq_none.mpr (fun x hx => by simpa using hall x hx)]
        rfl
      rw [el] at hk
      wtm_at "go"
def spLeast (Cm Cr CN : Addr) : Prm := fun ds L KK KE => ∃ m : Mac, ds = [macD Cm Cr m] ∧ m.Ok ∧ m.tab.length < 1000 ∧ L = [] ∧ (∀ z, leastT m = some z → KK (.str z) []) ∧ (leastT m = none → KE (.own CN) [])
theorem ok_least {f Cm Cr CN : Addr} {fd : FuncData} (FF : Fun K "least" "Machine.least" s_Machine_least f fd) (B : Bi mg) (cM : Cls K Cm) (nI : NoAttr K Cm "inner") (eN : ExcC K mg "NoTexts" CN) (g1 : Glob P w K mg base "least_text" ["reader"] (spLeastText Cr) 3) : Def P w K mg base 4 f fd ["self"] (spLeast Cm Cr CN) := by
  refine def_ok FF sc_Machine_least ?_ ?_
  · rintro ds L KK KE ⟨m, rfl, _⟩
    rfl
  · rintro ds L KK KE ⟨m, rfl, hok, hlt, rfl, hk, he⟩ H0 F0
    wtm_at "bg"
    refine run_set (by wtm_at "loc") (by wtm_at "mem") ?_
    wtm_at "ea"
    refine calls0 ⟨m, rfl, hok, hlt, rfl, ?_⟩
    refine ⟨_, by wtm_at "pt", ?_⟩
    show TL.Run _ [some (macD Cm Cr m), some (optS (leastT m))] _ _ _
    cases hl : leastT m with
    | none =>
      have he' := he hl
      wtm_at "go"
    | some z =>
      have hk' := hk z hl
      wtm_at "go"
theorem chr_let (l : Nat) : D.str ⟨#[letC l]⟩ = D.str (letS l) := by
  match l with
  | 0 => rfl
  | 1 => rfl
  | n + 2 => rfl
theorem txt_chars (t : List Nat) : ((txt t).cps.toList.map fun c => D.str ⟨#[c]⟩) = t.map fun l => D.str (letS l) := by
  have h : (txt t).cps.toList = t.map letC := tl_txt t
  rw [h, List.map_map]
  exact List.map_congr_left fun l _ => chr_let l
theorem isText_txt (t : List Nat) : isText (.str (txt t)) = true := by
  have h : (txt t).cps.toList = t.map letC := tl_txt t
  show (txt t).cps.toList.all _ = true
  rw [h, List.all_map]
  refine List.all_eq_true.mpr fun l _ => ?_
  match l with
  | 0 => rfl
  | 1 => rfl
  | n + 2 => rfl
end
end Rk01
open PySem L2 TL
namespace Rk01
section
variable {P : Program} {w : World} {K : PySem.W.Frag} {mg : Str → Option Value} {base : Heap}
abbrev rowE (r : Row) : List (Key × D) := (rowK r).map fun kv => (kv.1, D.v kv.2)
theorem putE_row {r : Row} (h : r.length < 3) (x : Nat) : putE (rowE r) (lkey r.length) (nD x) = rowE (r ++ [some x]) := by
  rw [putE_new]
  · show _ = List.map _ (rowKf 0 (r ++ [some x]))
    rw [rowKf_app, List.map_append, Nat.zero_add]
    rfl
  · intro hm
    rw [List.map_map] at hm
    have e : valV (rowK r) (lkey r.length) = none := by
      rw [valV_row (by omega) h]
      simp
    obtain ⟨kv, hkv, ek⟩ := List.mem_map.mp hm
    unfold valV at e
    rw [Option.map_eq_none_iff, List.find?_eq_none] at e
    exact e kv hkv (by simpa using ek)
theorem rowE_none (r : Row) : rowE (r ++ [none]) = rowE r := by
  show List.map _ (rowKf 0 (r ++ [none])) = _
  rw [rowKf_app]
  show List.map _ (rowKf 0 r ++ []) = _
  rw [List.append_nil]
abbrev lawD (m : Mac) : List D := [.lst (m.tab.map rowD), .lst (m.last.map nD)]
structure Drawn (many nl : Nat) (m : Mac) : Prop where
  ok : m.Ok
  many : m.tab.length = many
  wide : ∀ r ∈ m.tab, r.length = nl
  some : m.last ≠ []
def abS : Nat → Str
  | 2 => "ab"
  | _ => "abc"
def spLMach : Prm := fun ds L KK KE => ∃ (p : Addr) (ns : List Int) (pos w s : Int) (many nl : Nat), ds = [.ref p, nD many, .str (abS nl)] ∧ (nl = 2 ∨ nl = 3) ∧ L = [(p, .lst (cellD ns pos w s))] ∧ 0 ≤ pos ∧ 0 ≤ w ∧ 0 < many ∧ many ≤ 6 ∧
  ∀ m q pos' w' s', Drawn many nl m → 0 ≤ pos' → 0 ≤ w' → KK (.ref q) [(q, .lst (lawD m)), (p, .lst (cellD ns pos' w' s'))]
theorem ok_lmach {f : Addr} {fd : FuncData} (FF : Fun K "_law_machine" "_law_machine" s__law_machine f fd) (B : Bi mg) (g1 : Glob P w K mg base "_law_draw" ["_law_draws", "_law_size"] spDraw 1) : Def P w K mg base 2 f fd ["_law_draws", "_law_many", "_law_letters"] spLMach := by
  refine def_ok FF sc__law_machine ?_ ?_
  · rintro ds L KK KE ⟨p, ns, pos, w, s, many, nl, rfl, _⟩
    rfl
  · rintro ds L KK KE ⟨p, ns, pos, wv, s, many, nl, rfl, hnl, rfl, hp, hw, hm0, hm6, hk⟩ H0 F0
    wtm_at "bg"
    have lets : (abS nl).cps.toList.map (fun c => D.str ⟨#[c]⟩) = (List.range nl).map fun l => D.str (letS l) := by
      rcases hnl with rfl | rfl <;> rfl
    have hnl3 : nl ≤ 3 := by omega
    wtm_at "gk"
    · exact Nat.zero_le _
    intro pr
    refine ⟨_, by wtm_at "pt", ?_⟩
    refine run_for rfl rfl (ei_rng1 (by wtm_at "gl") (by wtm_at "bi") ?_)
    wtm_at "ev"
    refine ⟨_, rfl, by omega, by omega, ?_⟩
    refine for_map (List.range many) (fun k => nD k) (rng0 many) (fun i G' L' => ∃ (a b c : Option D) (tab : List Row) (pos w s : Int), G' = [some (.ref p), some (nD many), some (.str (abS nl)), some (.ref pr), a, b, c, none] ∧
      L' = [(pr, .lst (tab.map rowD)), (p, .lst (cellD ns pos w s))] ∧ 0 ≤ pos ∧ 0 ≤ w ∧ tab.length = i ∧ (∀ r ∈ tab, r.length = nl ∧ ∀ x, some x ∈ r → x < many)) ⟨_, _, _, [], _, _, _, rfl, rfl, hp, hw, rfl, fun _ h => nomatch h⟩ (fun _ _ _ _ _ h => nomatch h) ?_ ?_
    · rintro F1 i x G' L' hx hlt ⟨a, b, c, tab, pos, wv, s, rfl, rfl, hp, hw, htl, htab⟩
      rw [List.length_range] at hlt
      refine tgt_name (by wtm_at "loc") (by wtm_at "pt") ?_
      wtm_at "gk"
      refine ev_dnew fun pd => ?_
      refine ⟨_, by wtm_at "pt", ?_⟩
      refine run_for rfl rfl (ei_str ?_)
      wtm_at "gk"
      rw [lets]
      refine for_map (List.range nl) (fun l => .str (letS l)) rfl (fun l G' L' => ∃ (c : Option D) (r : Row) (pos w s : Int), G' = [some (.ref p), some (nD many), some (.str (abS nl)), some (.ref pr), some (nD x), some (.ref pd), c, none] ∧
        L' = [(pd, .dK (rowE r)), (pr, .lst (tab.map rowD)), (p, .lst (cellD ns pos w s))] ∧ 0 ≤ pos ∧ 0 ≤ w ∧ r.length = l ∧ ∀ x, some x ∈ r → x < many) ⟨_, [], _, _, _, rfl, rfl, hp, hw, rfl, fun _ h => nomatch h⟩ (fun _ _ _ _ _ h => nomatch h) ?_ ?_
      · rintro F2 l y G' L' hy hlt2 ⟨c, r, pos, wv, s, rfl, rfl, hp, hw, hrl, hr⟩
        rw [List.length_range] at hlt2
        obtain ⟨hlt3, ey⟩ := List.getElem?_eq_some_iff.mp hy
        rw [List.getElem_range] at ey
        subst ey
        refine tgt_name (by wtm_at "loc") (by wtm_at "pt") ?_
        wtm_at "gk"
        refine calls_3 (draw_sp ns p _ _ _ 4 hp hw (by decide) (by decide) fun q pos' wv' s' hq0 hq1 hp' hw' => ?_)
        wtm_at "gk"
        · refine run_dput rfl ?_
          wtm_at "gk"
          refine calls_3 (draw_sp ns p _ _ _ (many : Nat) hp' hw' (by omega) (by omega) fun q2 pos2 wv2 s2 hq20 hq21 hp2 hw2 => ?_)
          wtm_at "gk"
          obtain ⟨z, rfl⟩ : ∃ z : Nat, q2 = (z : Nat) := ⟨q2.toNat, by omega⟩
          refine ⟨pd, _, lkey l, _, rfl, rfl, .here, ?_, ?_⟩
          · have : (rowK r).length ≤ r.length := row_len r 0
            rw [List.length_map]
            exact sz_lt (by omega)
          · have e := putE_row (r := r) (by omega) z
            rw [hrl] at e
            rw [e]
            wtm_at "gk"
            exact ⟨_, r ++ [some z], _, _, _, rfl, rfl, hp2, hw2, by simp [hrl], fun x hx => by
              rcases List.mem_append.mp hx with hx | hx
              · exact hr x hx
              · have := List.mem_singleton.mp hx
                cases this
                omega⟩
        · exact ⟨_, r ++ [none], _, _, _, rfl, by rw [rowE_none]; rfl, hp', hw', by simp [hrl], fun x hx => by
            rcases List.mem_append.mp hx with hx | hx
            · exact hr x hx
            · exact absurd (List.mem_singleton.mp hx) (by simp)⟩
      · rintro G' L' ⟨c, r, pos, wv, s, rfl, rfl, hp, hw, hrl, hr⟩
        rw [List.length_range] at hrl
        refine run_frz (x := "_law_row_here") (by wtm_at "lk") .here (by wtm_at "pt") ?_
        wtm_at "gk"
        refine ev_append ?_
        wtm_at "gk"
        refine ⟨pr, _, rfl, .head _, ?_⟩
        wtm_at "gk"
        refine ⟨_, _, .here, by rw [List.length_map]; exact sz_lt (by omega), ?_⟩
        wtm_at "gk"
        refine ⟨_, _, _, tab ++ [r], pos, wv, s, rfl, ?_, hp, hw, by simp [htl], fun r' hr' => ?_⟩
        · rw [List.map_append]
          rfl
        · rcases List.mem_append.mp hr' with h | h
          · exact htab r' h
          · rw [List.mem_singleton.mp h]
            exact ⟨hrl, hr⟩
    · rintro G' L' ⟨a, b, c, tab, pos, wv, s, rfl, rfl, hp, hw, htl, htab⟩
      rw [List.length_range] at htl
      refine run_frz (x := "_law_rows") (by wtm_at "lk") .here (by wtm_at "pt") ?_
      have fin : ∀ (a b c : Option D) (es : List Nat) (pos wv s : Int) (pe : Addr), 0 ≤ pos → 0 ≤ wv → es ≠ [] → es.Pairwise (· < ·) → (∀ e ∈ es, e < many) →
          Run ⟨ctxOf P w K mg base ["_law_draws", "_law_many", "_law_letters", "_law_rows", "_law_k", "_law_row_here", "_law_letter", "_law_ends"] s__law_machine 1, H0, F0, fun ex _ L' => KE ex L'⟩ [some (.ref p), some (nD many), some (.str (abS nl)), some (.lst (tab.map rowD)), a, b, c, some (.ref pe)] [(pe, .lst (es.map nD)), (p, .lst (cellD ns pos wv s))] ((defBody s__law_machine).drop 4) ⟨fun _ L' => KK .non L', KK, fun _ _ => False, fun _ _ => False⟩ := by
        intro a b c es pos wv s pe hp hw he1 he2 he3
        refine run_frz (x := "_law_ends") (by wtm_at "lk") .here (by wtm_at "pt") ?_
        wtm_at "gk"
        · exact Nat.le_of_ble_eq_true rfl
        intro q
        refine hk ⟨tab, es⟩ q pos wv s ⟨⟨by show 0 < tab.length; omega, fun r hr => by rw [(htab r hr).1]; omega, fun r hr x hx => ?_, fun e he => ?_, he2⟩, htl, fun r hr => (htab r hr).1, he1⟩ hp hw
        · show x < tab.length
          rw [htl]
          exact (htab r hr).2 x hx
        · show e < tab.length
          rw [htl]
          exact he3 e he
      refine run_setlc [("_law_k", 4)] rfl (by kernel_rfl) (by wtm_at "mem") (by kernel_rfl) (ei_rng1 (by wtm_at "gl") (by wtm_at "bi") ?_) rfl rfl rfl
      wtm_at "ev"
      refine ⟨_, rfl, by omega, by omega, ?_⟩
      refine lc_inv (List.range many) (fun k => nD k) (rng0 many) (fun i acc L' => ∃ (es : List Nat) (pos w s : Int), acc = es.map nD ∧ L' = [(p, .lst (cellD ns pos w s))] ∧ 0 ≤ pos ∧ 0 ≤ w ∧ es.Pairwise (· < ·) ∧ (∀ e ∈ es, e < i) ∧ es.length ≤ i ∧ i ≤ many) ⟨[], _, _, _, rfl, rfl, hp, hw, .nil, (fun _ h => nomatch h), Nat.le_refl _, Nat.zero_le _⟩ ?_ ?_ ?_
      · rintro i acc L' ⟨es, pos, wv, s, rfl, rfl, _, _, _, _, h1, h2⟩
        exact ⟨(fun _ h => nomatch h), by rw [List.length_map]; exact sz_lt (by omega)⟩
      · rintro F1 Dl i x acc L' hx hlt ⟨es, pos, wv, s, rfl, rfl, hp, hw, h1, h2, h3, h4⟩
        obtain ⟨hlt3, ey⟩ := List.getElem?_eq_some_iff.mp hx
        rw [List.getElem_range] at ey
        subst ey
        rw [List.length_range] at hlt
        refine tn_name (i := 4) (by wtm_at "loc") rfl (List.mem_singleton.mpr rfl) ?_
        wtm_at "wz"
        show TL.Tst _ _ _ _ _
        wtm_at "gk"
        refine calls_2 (draw_sp ns p _ _ _ 3 hp hw (by decide) (by decide) fun q pos' wv' s' hq0 hq1 hp' hw' => ?_)
        wtm_at "gk"
        · refine ⟨_, List.Sublist.refl _, es ++ [i], _, _, _, by rw [List.map_append]; rfl, rfl, hp', hw', List.pairwise_append.mpr ⟨h1, List.pairwise_singleton _ _, fun a ha b hb => by rw [List.mem_singleton.mp hb]; exact h2 a ha⟩, fun e he => ?_, by simp; omega, hlt⟩
          rcases List.mem_append.mp he with he | he
          · have := h2 e he
            omega
          · rw [List.mem_singleton.mp he]
            omega
        · exact ⟨_, List.Sublist.refl _, es, _, _, _, rfl, rfl, hp', hw', h1, fun e he => Nat.lt_succ_of_lt (h2 e he), by omega, hlt⟩
      · rintro acc L' ⟨es, pos, wv, s, rfl, rfl, hp, hw, h1, h2, h3, h4⟩ pe
        rw [List.length_range] at h2
        refine ⟨_, by wtm_at "pt", ?_⟩
        wtm_at "gn"
        · exact Nat.le_of_ble_eq_true rfl
        · intro pe2
          refine ⟨_, by wtm_at "pt", ?_⟩
          refine run_nil ?_
          have e : ((many : Nat) : Int) - 1 = ((many - 1 : Nat) : Int) := by omega
          rw [e]
          refine run_drop (L' := [(pe2, .lst ([many - 1].map nD)), (p, .lst (cellD ns pos wv s))]) ((List.sublist_cons_self _ _).cons_cons _) ?_
          exact fin _ _ _ [many - 1] pos wv s pe2 hp hw (List.cons_ne_nil _ _) (List.pairwise_singleton _ _) fun e he => by rw [List.mem_singleton.mp he]; omega
        · rename_i hb
          refine fin _ _ _ es pos wv s pe hp hw ?_ h1 h2
          rintro rfl
          simp at hb
def spMake (Cm Cr : Addr) : Prm := fun ds L KK KE => ∃ m : Mac, ds = [.lst (lawD m)] ∧ m.Ok ∧ m.tab.length ≤ 6 ∧ L = [] ∧ KK (macD Cm Cr m) []
theorem ok_make {f Cm Cr CB : Addr} {fd : FuncData} (FF : Fun K "_law_make" "_law_make" s__law_make f fd) (B : Bi mg) (g : Cla P w K mg base "Machine" Cm ["self", "rows", "ends"] (spMInit Cm Cr CB) 4) : Def P w K mg base 6 f fd ["_law_machine_here"] (spMake Cm Cr) := by
  refine def_ok FF sc__law_make ?_ ?_
  · rintro ds L KK KE ⟨m, rfl, _⟩
    rfl
  · rintro ds L KK KE ⟨m, rfl, h, h6, rfl, hk⟩ H0 F0
    wtm_at "bg"
    refine run_ret0 (ev_frz ?_)
    wtm_at "go"
    refine ix_L .frz (at_nat (j := 0) rfl rfl) ?_
    wtm_at "go"
    refine ix_L .frz (at_nat (j := 1) rfl rfl) ?_
    wtm_at "go"
    intro l
    refine calls_1 (minit_mac h h6 ⟨rfl, _, _, _, rfl, .here, hk⟩)
def invS (z : Str) : Nat := if z = "a" then 0 else if z = "b" then 1 else 2
theorem inv_let : ∀ l, l < 3 → invS (letS l) = l := by
  intro l h
  rcases (show l = 0 ∨ l = 1 ∨ l = 2 by omega) with rfl | rfl | rfl <;> decide +kernel
theorem rising_let : ∀ (ns : List Nat) (x : Nat), x < 3 → (∀ l ∈ ns, l < 3) → PyProof.Rows.risingS (letS x) (ns.map letS) = true → (∀ y ∈ ns, x ≤ y) ∧ ns.Pairwise (· ≤ ·) := by
  intro ns
  induction ns with
  | nil => intro x _ _ _; exact ⟨fun _ h => (nomatch h), .nil⟩
  | cons y ns ih =>
    intro x hx hn h
    have hy := hn y List.mem_cons_self
    have h2 : (!PySem.Spec.ltCps (letS y).cps.toList (letS x).cps.toList && PyProof.Rows.risingS (letS y) (ns.map letS)) = true := h
    rw [Bool.and_eq_true] at h2
    obtain ⟨i1, i2⟩ := ih y hy (fun l hl => hn l (List.mem_cons_of_mem _ hl)) h2.2
    have le : x ≤ y := by
      have h3 := h2.1
      rcases (show x = 0 ∨ x = 1 ∨ x = 2 by omega) with rfl | rfl | rfl <;> rcases (show y = 0 ∨ y = 1 ∨ y = 2 by omega) with rfl | rfl | rfl <;> first | omega | exact absurd h3 (by decide +kernel)
    refine ⟨fun z hz => ?_, List.pairwise_cons.mpr ⟨i1, i2⟩⟩
    rcases List.mem_cons.mp hz with rfl | hz
    · exact le
    · exact Nat.le_trans le (i1 z hz)
theorem sorted_let {ls : List Nat} (h3 : ∀ l ∈ ls, l < 3) (hs : ls.Pairwise (· ≤ ·)) {ys : List Str} (hp : ys.Perm (ls.map letS)) (h : PyProof.Rows.sortedS ys = true) : ys = ls.map letS := by
  have e1 : ∀ zs : List Nat, (∀ l ∈ zs, l < 3) → (zs.map letS).map invS = zs := by
    intro zs hz
    rw [List.map_map]
    exact (List.map_congr_left fun l hl => inv_let l (hz l hl)).trans (List.map_id _)
  have p2 : (ys.map invS).Perm ls := by
    have := hp.map invS
    rwa [e1 ls h3] at this
  have e2 : ys = (ys.map invS).map letS := by
    rw [List.map_map]
    refine ((List.map_congr_left fun z hz => ?_).trans (List.map_id _)).symm
    obtain ⟨l, hl, rfl⟩ := List.mem_map.mp (hp.mem_iff.mp hz)
    show letS (invS (letS l)) = letS l
    rw [inv_let l (h3 l hl)]
  have lt : ∀ l ∈ ys.map invS, l < 3 := fun l hl => h3 l (p2.mem_iff.mp hl)
  rw [e2] at h ⊢
  have pw : (ys.map invS).Pairwise (· ≤ ·) := by
    cases q : ys.map invS with
    | nil => exact .nil
    | cons x ns =>
      rw [q] at h lt
      obtain ⟨i1, i2⟩ := rising_let ns x (lt x List.mem_cons_self) (fun l hl => lt l (List.mem_cons_of_mem _ hl)) h
      exact List.pairwise_cons.mpr ⟨i1, i2⟩
  rw [List.Perm.eq_of_pairwise (le := (· ≤ ·)) (fun a b _ _ h1 h2 => Nat.le_antisymm h1 h2) pw hs p2]
/-- the letters of a row -/
def rowLs (r : Row) : List Nat := (List.range 3).filter fun l => (r.getD l none).isSome
theorem rowLs_keys {r : Row} (h : r.length ≤ 3) : (rowK r).map (·.1) = ((rowLs r).map letS).map Sum.inr := by
  refine row_cases (P := fun r => (rowK r).map (·.1) = ((rowLs r).map letS).map Sum.inr) ?_ ?_ ?_ ?_ h
  · rfl
  · rintro (_ | a) <;> rfl
  · rintro (_ | a) (_ | b) <;> rfl
  · rintro (_ | a) (_ | b) (_ | c) <;> rfl
theorem rowLs_3 (r : Row) : ∀ l ∈ rowLs r, l < 3 := fun l hl => List.mem_range.mp (List.mem_filter.mp hl).1
theorem rowLs_up (r : Row) : (rowLs r).Pairwise (· ≤ ·) := ((List.pairwise_lt_range (n := 3)).imp fun h => Nat.le_of_lt h).filter _
theorem rowLs_val {m : Mac} {r : Nat} (hr : r < m.tab.length) {l : Nat} (hl : l ∈ rowLs m.tab[r]) : ∃ x, beh m r l = some x ∧ (m.tab[r]).getD l none = some x := by
  have h := (List.mem_filter.mp hl).2
  obtain ⟨x, hx⟩ := Option.isSome_iff_exists.mp h
  refine ⟨x, ?_, hx⟩
  unfold beh
  rw [List.getD_eq_getElem?_getD (l := m.tab), List.getElem?_eq_getElem hr]
  exact hx
theorem beh_tab {m : Mac} {r l : Nat} (hr : r < m.tab.length) : beh m r l = (m.tab[r]).getD l none := by
  unfold beh
  rw [List.getD_eq_getElem?_getD (l := m.tab), List.getElem?_eq_getElem hr]
  rfl
/-- .. walked by the letters that are there -/
theorem fold_ls {m : Mac} {r : Nat} (hr : r < m.tab.length) (e : Nat × Str) (he : e.1 = r) (f : WayL) : (rowLs m.tab[r]).foldl (wayStep1 m e) f = (List.range 3).foldl (wayStep1 m e) f := by
  unfold rowLs
  rw [List.foldl_filter]
  have go : ∀ (ls : List Nat) (f : WayL), ls.foldl (fun x y => if ((m.tab[r]).getD y none).isSome = true then wayStep1 m e x y else x) f = ls.foldl (wayStep1 m e) f := by
    intro ls
    induction ls with
    | nil => intro f; rfl
    | cons l ls ih =>
      intro f
      rw [List.foldl_cons, List.foldl_cons, ih]
      congr 1
      cases h : (m.tab[r]).getD l none with
      | some x => rfl
      | none =>
        have hb : beh m e.1 l = none := by rw [he, beh_tab hr, h]
        show f = wayStep1 m e f l
        unfold wayStep1
        rw [hb]
  exact go _ _
theorem way_mono (m : Mac) (e : Nat × Str) : ∀ (ls : List Nat) (f : WayL), ∃ ext, ls.foldl (wayStep1 m e) f = f ++ ext := by
  intro ls
  induction ls with
  | nil => intro f; exact ⟨[], (List.append_nil f).symm⟩
  | cons l ls ih =>
    intro f
    obtain ⟨ext, h⟩ := ih (wayStep1 m e f l)
    rw [List.foldl_cons, h]
    unfold wayStep1
    split
    · split
      · exact ⟨ext, rfl⟩
      · exact ⟨_ :: ext, by rw [List.append_assoc]; rfl⟩
    · exact ⟨ext, rfl⟩
theorem WayOk.steps {m : Mac} (h : m.Ok) {e : Nat × Str} : ∀ (ls : List Nat) {f : WayL}, WayOk m f → e.2.length + 1 ≤ f.length → WayOk m (ls.foldl (wayStep1 m e) f) ∧ f.length ≤ (ls.foldl (wayStep1 m e) f).length := by
  intro ls
  induction ls with
  | nil => intro f w _; exact ⟨w, Nat.le_refl _⟩
  | cons l ls ih =>
    intro f w he
    obtain ⟨w1, l1⟩ := w.step1 h he l
    obtain ⟨w2, l2⟩ := ih w1 (by omega)
    exact ⟨w2, Nat.le_trans l1 l2⟩
theorem needed_of {m : Mac} {ys : List Int} (h : m.Ok) (hp : ys.Perm (((((ways m).map (·.1)).filter fun r => decide (r ∈ lead m)).map fun k => ((k : Nat) : Int)))) (hs : ys.Pairwise (· ≤ ·)) : ys = (needed m).map fun k => ((k : Nat) : Int) := by
  have wo := ways_ok h
  have e := sorted_eq (n := m.tab.length) hp hs (wo.nd.filter _) fun k hk => by
    obtain ⟨x, hx, rfl⟩ := List.mem_map.mp (List.mem_filter.mp hk).1
    exact wo.lt x hx
  rw [e]
  refine congrArg (List.map _) ?_
  unfold needed
  rw [List.filter_filter]
  refine List.filter_congr fun r _ => ?_
  unfold isKey
  rw [← Bool.decide_and]
  exact decide_eq_decide.mpr ⟨fun q => by
    obtain ⟨q1, q2⟩ := List.mem_filter.mp q
    exact ⟨of_decide_eq_true q2, q1⟩, fun q => List.mem_filter.mpr ⟨q.2, decide_eq_true q.1⟩⟩
def spLNeeded : Prm := fun ds L KK KE => ∃ m : Mac, ds = [.lst (lawD m)] ∧ m.Ok ∧ m.tab.length < 64 ∧ L = [] ∧ ∀ p, KK (.ref p) [(p, .lst ((needed m).map nD))]
theorem ok_lneeded {f : Addr} {fd : FuncData} (FF : Fun K "_law_needed" "_law_needed" s__law_needed f fd) (B : Bi mg) : Def P w K mg base 1 f fd ["_law_machine_here"] spLNeeded := by
  refine def_ok FF sc__law_needed ?_ ?_
  · rintro ds L KK KE ⟨m, rfl, _⟩
    rfl
  · rintro ds L KK KE ⟨m, rfl, hok, hlt, rfl, hk⟩ H0 F0
    wtm_at "bg"
    have hpos := hok.pos
    have flN : ∀ l : List Nat, (l.map nD).all flatD = true := fun l => by
      rw [List.all_map]
      exact List.all_eq_true.mpr fun _ _ => rfl
    refine run_set (by wtm_at "loc") (by wtm_at "mem") (ev_lst ?_)
    wtm_at "ea"
    refine ⟨Nat.le_of_ble_eq_true rfl, fun pr => ?_⟩
    refine ⟨_, by wtm_at "pt", ?_⟩
    refine run_set (by wtm_at "loc") (by wtm_at "mem") ?_
    wtm_at "ea"
    refine ⟨_, by wtm_at "pt", ?_⟩
    refine run_while rfl (fun n G' L' => ∃ (a : Option D) (i : Nat) (fo : WayL), G' = [some (.lst (lawD m)), some (.ref pr), some (nD i), a, none, none, none, none, none] ∧ L' = [(pr, .lst ((fo.map (·.1)).map nD))] ∧ WayOk m fo ∧ 0 < fo.length ∧ i ≤ fo.length ∧ n + i = m.tab.length + 1 ∧ waysLoop m n i fo = ways m)
      (m.tab.length + 1) ⟨_, 0, way0, rfl, rfl, ⟨by decide +kernel, fun e he => ?_, fun i e he => ?_⟩, Nat.zero_lt_one, Nat.zero_le _, rfl, rfl⟩ ?_
    · rw [List.mem_singleton.mp he]
      exact hpos
    · cases i with
      | zero => cases he; exact Nat.le_refl _
      | succ j => simp [way0] at he
    · rintro n G' L' ⟨a, i, fo, rfl, rfl, wo, hf0, hif, hni, hl⟩
      wtm_at "gm"
      · rename_i q
        have q' : i < fo.length := by
          rw [List.length_map, List.length_map] at q
          have := of_decide_eq_true q
          omega
        have hfi : fo[i]? = some fo[i] := List.getElem?_eq_getElem q'
        generalize he : fo[i] = e at hfi
        have hem := List.mem_of_getElem? hfi
        have hel := wo.lt e hem
        have hec := wo.len i e hfi
        have hb := wo.bd
        have hrow : m.tab[e.1]? = some m.tab[e.1] := List.getElem?_eq_getElem hel
        have hrm := hok.len _ (List.getElem_mem hel)
        have hixr : (m.tab.map rowD)[e.1]? = some (rowD m.tab[e.1]) := by rw [List.getElem?_map, hrow]; rfl
        refine run_for rfl rfl (ei_lst ?_)
        wtm_at "ea"
        refine ix_L .frz (at_nat (j := 0) rfl rfl) ?_
        wtm_at "ea"
        refine ix_L (.own (.head _)) (at_nat (j := i) rfl (by rw [List.getElem?_map, List.getElem?_map, hfi]; rfl)) ?_
        refine ix_L .frz (at_nat (j := e.1) rfl hixr) ?_
        wtm_at "ea"
        have kq : ((rowK m.tab[e.1]).map fun kv => (kv.1, D.v kv.2)).map (·.1) = ((rowLs m.tab[e.1]).map letS).map Sum.inr := by
          rw [List.map_map, ← rowLs_keys hrm]
          rfl
        refine cv_sortedDS rfl .frz kq (by rw [List.length_map]; exact Nat.lt_of_le_of_lt (List.length_filter_le _ _) (by decide)) fun ys ps hp hs => ?_
        have ey := sorted_let (rowLs_3 _) (rowLs_up _) hp hs
        subst ey
        refine ⟨_, .own (.head _), ?_⟩
        refine for_pre (rowLs m.tab[e.1]) (fun l => .str (letS l)) (by rw [List.map_map]; rfl) (fun pre G' L' => ∃ a : Option D, G' = [some (.lst (lawD m)), some (.ref pr), some (nD i), a, none, none, none, none, none] ∧
          L' = [(ps, .lst (((rowLs m.tab[e.1]).map letS).map D.str)), (pr, .lst (((pre.foldl (wayStep1 m e) fo).map (·.1)).map nD))]) ⟨_, rfl, rfl⟩ (fun pre G' L' ⟨a, _, e2⟩ s hs => by subst e2; rw [List.mem_singleton.mp hs]; exact .head _) ?_ ?_
        · rintro F1 pre l suf G' L' hsp ⟨a, rfl, rfl⟩
          have hlm : l ∈ rowLs m.tab[e.1] := by rw [hsp]; exact List.mem_append_right _ List.mem_cons_self
          have hl3 := rowLs_3 _ l hlm
          obtain ⟨x, hx, hx2⟩ := rowLs_val hel hlm
          obtain ⟨ext, hext⟩ := way_mono m e pre fo
          obtain ⟨w1, l1⟩ := WayOk.steps hok (e := e) pre wo (by omega)
          have wb := w1.bd
          have nx : (pre ++ [l]).foldl (wayStep1 m e) fo = wayStep1 m e (pre.foldl (wayStep1 m e) fo) l := by
            rw [List.foldl_append]
            rfl
          rw [nx]
          have hfi2 : (pre.foldl (wayStep1 m e) fo)[i]? = some e := by rw [hext, List.getElem?_append_left q', hfi]
          generalize pre.foldl (wayStep1 m e) fo = fl at w1 l1 wb hfi2
          have hix : ((fl.map (·.1)).map nD)[i]? = some (nD e.1) := by rw [List.getElem?_map, List.getElem?_map, hfi2]; rfl
          have hva : valD ((rowK m.tab[e.1]).map fun kv => (kv.1, D.v kv.2)) (lkey l) = some (nD x) := by
            rw [valD_map, valV_row hrm hl3, hx2]
            rfl
          refine tgt_name (by wtm_at "loc") (by wtm_at "pt") ?_
          refine run_if (tst_cmp ?_)
          wtm_at "ea"
          refine ix_L .frz (at_nat (j := 0) rfl rfl) ?_
          wtm_at "ea"
          refine ix_L (.own (.tail _ (.head _))) (at_nat (j := i) rfl hix) ?_
          refine ix_L .frz (at_nat (j := e.1) rfl hixr) ?_
          wtm_at "ea"
          refine ix_K (k := lkey l) rfl .frz hva ?_
          wtm_at "ea"
          refine op_niQ (.lst (.own (.tail _ (.head _)))) rfl (flN _) ?_
          rw [show inD (nV x) ((fl.map (·.1)).map nD) = decide (x ∈ fl.map (·.1)) from in_rows (some x) _]
          by_cases hin : x ∈ fl.map (·.1)
          · have ew : wayStep1 m e fl l = fl := by unfold wayStep1; rw [hx]; simp only [hin, if_true]
            rw [ew, decide_eq_true hin]
            refine ⟨false, rfl, (fun q => nomatch q), fun _ => ?_⟩
            exact run_nil (run_nil ⟨_, rfl, rfl⟩)
          · have ew : wayStep1 m e fl l = fl ++ [(x, e.2 ++ letS l)] := by unfold wayStep1; rw [hx]; simp only [hin, if_false]
            rw [ew, decide_eq_false hin]
            refine ⟨true, rfl, fun _ => ?_, fun q => nomatch q⟩
            refine run_expr (ev_append ?_)
            wtm_at "ea"
            refine ⟨pr, _, rfl, .tail _ (.head _), ?_⟩
            wtm_at "ea"
            refine ix_L .frz (at_nat (j := 0) rfl rfl) ?_
            wtm_at "ea"
            refine ix_L (.own (.tail _ (.head _))) (at_nat (j := i) rfl hix) ?_
            refine ix_L .frz (at_nat (j := e.1) rfl hixr) ?_
            wtm_at "ea"
            refine ix_K (k := lkey l) rfl .frz hva ?_
            refine ⟨_, _, .there .here, by rw [List.length_map, List.length_map]; exact sz_lt (by omega), ?_⟩
            refine run_nil (run_nil ⟨_, rfl, ?_⟩)
            simp only [List.map_append, List.map_cons, List.map_nil]
        · rintro G' L' ⟨a, rfl, rfl⟩
          obtain ⟨w1, l1⟩ := WayOk.steps hok (e := e) (rowLs m.tab[e.1]) wo (by omega)
          refine run_drop (List.sublist_cons_self _ _) ?_
          refine run_set (by wtm_at "loc") (by wtm_at "mem") ?_
          wtm_at "ea"
          refine op_addI ?_
          refine ⟨_, by wtm_at "pt", ?_⟩
          refine run_nil ⟨n - 1, by omega, _, i + 1, _, rfl, rfl, w1, by omega, by omega, by omega, ?_⟩
          obtain ⟨k, rfl⟩ : ∃ k, n = k + 1 := ⟨n - 1, by omega⟩
          have e1 : waysLoop m (k + 1) i fo = waysLoop m k (i + 1) (wayStep m fo i) := by
            show (if i < fo.length then _ else _) = _
            rw [if_pos q']
          have e2 : wayStep m fo i = (List.range 3).foldl (wayStep1 m e) fo := by
            unfold wayStep
            rw [List.getD_eq_getElem?_getD, hfi]
            rfl
          rw [← hl, e1, e2, fold_ls hel e rfl]
          rfl
      · rename_i q
        have q' : ¬ i < fo.length := by
          rw [List.length_map, List.length_map] at q
          have := of_decide_eq_false q
          omega
        have e1 : waysLoop m n i fo = fo := by
          cases n with
          | zero => rfl
          | succ k =>
            show (if i < fo.length then _ else _) = _
            rw [if_neg q']
        rw [e1] at hl
        subst hl
        have hll := last_len hok
        have l0 := last_nd hok
        have wo := ways_ok hok
        have wb := wo.bd
        refine ix_L .frz (at_nat (j := 1) rfl rfl) ?_
        wtm_at "ev"
        refine cv_list (.lst .frz) fun pg => ?_
        refine ⟨_, by wtm_at "pt", ?_⟩
        refine run_while rfl (fun n G' L' => ∃ (g : Bool) (b c d : Option D) (fo : List Nat), G' = [some (.lst (lawD m)), some (.ref pr), some (nD i), a, some (.bl g), some (.ref pg), b, c, d] ∧ L' = [(pg, .lst (fo.map nD)), (pr, .lst (((ways m).map (·.1)).map nD))] ∧ LeadOk m fo ∧
          (g = true → 0 < n ∧ leadLoop m (n - 1) fo = lead m ∧ m.tab.length + 1 ≤ n - 1 + fo.length) ∧ (g = false → fo = lead m)) (m.tab.length + 2) ⟨true, _, _, _, m.last, rfl, rfl, l0, fun _ => ⟨by omega, rfl, by omega⟩, fun h => (nomatch h)⟩ ?_
        rintro n G' L' ⟨g, b, c, d, fo, rfl, rfl, ho, hg1, hg2⟩
        cases g with
        | false =>
          have hfo := hg2 rfl
          subst hfo
          wtm_at "gm"
          refine run_ret (ev_drop ?_)
          wtm_at "ev"
          wtm_at "ev"
          refine ev_lc [("_law_row_here", 6)] rfl (by kernel_rfl) (ei_lst ?_)
          wtm_at "ea"
          refine ⟨_, .own (.tail _ (.head _)), ?_⟩
          refine lc_map ((ways m).map (·.1)) nD nD (fun r => decide (r ∈ lead m)) rfl (by rw [List.length_map]; exact sz_lt (by omega)) (fun s hs => by rw [List.mem_singleton.mp hs]; exact .tail _ (.head _)) ?_ ?_
          · intro F1 Dl r acc hr
            refine tn_name (i := 6) (by wtm_at "loc") rfl (List.mem_singleton.mpr rfl) ?_
            wtm_at "wz"
            show TL.Tst _ _ _ _ _
            refine tst_cmp ?_
            wtm_at "ea"
            refine op_inQ (.lst (.own (.tail _ (.head _)))) rfl (flN _) ?_
            rw [show inD (nV r) ((lead m).map nD) = decide (r ∈ lead m) from in_rows (some r) _]
            refine ⟨_, rfl, rfl, List.Sublist.refl _, fun _ => ?_⟩
            wtm_at "ea"
            exact ⟨rfl, List.Sublist.refl _⟩
          · intro Dl
            wtm_at "ev"
            have en : (((ways m).map (·.1)).filter fun r => decide (r ∈ lead m)).map nD = ((((ways m).map (·.1)).filter fun r => decide (r ∈ lead m)).map fun k => ((k : Nat) : Int)).map D.int := by
              rw [List.map_map]
              rfl
            rw [en]
            refine cv_sortedL (.own (.head _)) fun ys p hp hs => ?_
            have ey := needed_of hok hp hs
            subst ey
            rw [List.map_map]
            exact ⟨_, .cons_cons _ (List.nil_sublist _), hk p⟩
        | true =>
          obtain ⟨hn0, hl, hnl⟩ := hg1 rfl
          have hb := ho.bd
          wtm_at "gm"
          refine run_for rfl rfl (ei_rng1 (by wtm_at "gl") (by wtm_at "bi") ?_)
          wtm_at "ea"
          refine ix_L .frz (at_nat (j := 0) rfl rfl) ?_
          wtm_at "ea"
          rw [List.length_map]
          refine ⟨_, rfl, by omega, by omega, ?_⟩
          refine for_map (List.range m.tab.length) (fun k => nD k) (rng0 _) (fun k G' L' => ∃ b c d : Option D, G' = [some (.lst (lawD m)), some (.ref pr), some (nD i), a, some (.bl (decide (((List.range k).foldl (leadStep m) fo).length ≠ fo.length))), some (.ref pg), b, c, d] ∧
            L' = [(pg, .lst (((List.range k).foldl (leadStep m) fo).map nD)), (pr, .lst (((ways m).map (·.1)).map nD))]) ⟨b, c, d, by simp, rfl⟩ (fun _ _ _ _ _ h => (nomatch h)) ?_ ?_
          · rintro F1 k x G' L' hx hlt2 ⟨b, c, d, rfl, rfl⟩
            rw [List.length_range] at hlt2
            obtain ⟨_, ey⟩ := List.getElem?_eq_some_iff.mp hx
            rw [List.getElem_range] at ey
            subst ey
            obtain ⟨s1, s2⟩ := ho.sweep k (by omega)
            have sb := s1.bd
            have nx : (List.range (k + 1)).foldl (leadStep m) fo = leadStep m ((List.range k).foldl (leadStep m) fo) k := by
              rw [List.range_succ, List.foldl_append]
              rfl
            rw [nx]
            generalize (List.range k).foldl (leadStep m) fo = fl at s1 s2 sb
            have hrow : m.tab[k]? = some m.tab[k] := List.getElem?_eq_getElem hlt2
            have hrm := hok.len _ (List.getElem_mem hlt2)
            have hixr : (m.tab.map rowD)[k]? = some (rowD m.tab[k]) := by rw [List.getElem?_map, hrow]; rfl
            refine tgt_name (by wtm_at "loc") (by wtm_at "pt") ?_
            refine run_set (by wtm_at "loc") (by wtm_at "mem") ?_
            wtm_at "ea"
            refine ix_L .frz (at_nat (j := 0) rfl rfl) ?_
            wtm_at "ea"
            refine ix_L .frz (at_nat (j := k) rfl hixr) ?_
            refine ⟨_, by wtm_at "pt", ?_⟩
            refine run_setlcK [("_law_letter", 3)] rfl (by kernel_rfl) (by wtm_at "mem") (by kernel_rfl) (path_name (by wtm_at "lk") (by wtm_at "vis") (by kernel_rfl) (by kernel_rfl)) ?_ rfl rfl rfl
            intro H1 F2
            have kq : keysD ((rowK m.tab[k]).map fun kv => (kv.1, D.v kv.2)) = (rowLs m.tab[k]).map fun l => D.str (letS l) := by
              have := congrArg (List.map fun z : Key => D.v (kV z)) (rowLs_keys hrm)
              rw [List.map_map, List.map_map, List.map_map] at this
              show List.map _ (List.map _ _) = _
              rw [List.map_map]
              exact this
            refine lc_map (rowLs m.tab[k]) (fun l => .str (letS l)) (fun l => .str (letS l)) (fun l => match beh m k l with | some z => decide (z ∈ fl) | none => false) kq (sz_lt (Nat.le_trans (List.length_filter_le _ _) (by decide))) (fun _ h => (nomatch h)) ?_ ?_
            · intro F3 Dl l acc hlm
              have hl3 := rowLs_3 _ l hlm
              obtain ⟨x, hx, hx2⟩ := rowLs_val hlt2 hlm
              have hva : valD ((rowK m.tab[k]).map fun kv => (kv.1, D.v kv.2)) (lkey l) = some (nD x) := by
                rw [valD_map, valV_row hrm hl3, hx2]
                rfl
              refine tn_name (i := 3) (by wtm_at "loc") rfl (List.mem_singleton.mpr rfl) ?_
              wtm_at "wz"
              show TL.Tst _ _ _ _ _
              refine tst_cmp ?_
              wtm_at "ea"
              refine ix_K (k := lkey l) rfl .frz hva ?_
              wtm_at "ea"
              refine op_inQ (.lst (.own (.tail _ (.head _)))) rfl (flN _) ?_
              rw [show inD (nV x) (fl.map nD) = decide (x ∈ fl) from in_rows (some x) _, hx]
              refine ⟨_, rfl, rfl, List.Sublist.refl _, fun _ => ?_⟩
              wtm_at "ea"
              exact ⟨rfl, List.Sublist.refl _⟩
            · intro pw
              refine ⟨_, by wtm_at "pt", ?_⟩
              have hany : ((((rowLs m.tab[k]).filter fun l => match beh m k l with | some z => decide (z ∈ fl) | none => false).map fun l => D.str (letS l)).length = 0) ↔ anyIn m fl k = false := by
                rw [List.length_map, List.length_eq_zero_iff, List.filter_eq_nil_iff]
                constructor
                · intro h
                  cases q : anyIn m fl k with
                  | false => rfl
                  | true =>
                    obtain ⟨l, hl3, z, hz, hzm⟩ := any_in.mp q
                    have hlm : l ∈ rowLs m.tab[k] := List.mem_filter.mpr ⟨List.mem_range.mpr hl3, by rw [beh_tab hlt2] at hz; rw [hz]; rfl⟩
                    exact absurd (by show (match beh m k l with | some z => decide (z ∈ fl) | none => false) = true; rw [hz]; exact decide_eq_true hzm) (h l hlm)
                · intro h l hlm hb2
                  obtain ⟨z, hz, _⟩ := rowLs_val hlt2 hlm
                  rw [hz] at hb2
                  rw [any_in.mpr ⟨l, rowLs_3 _ l hlm, z, hz, of_decide_eq_true hb2⟩] at h
                  cases h
              generalize (((rowLs m.tab[k]).filter fun l => match beh m k l with | some z => decide (z ∈ fl) | none => false).map fun l => D.str (letS l)) = lw at hany
              refine run_if (tst_bool (tw_and (tst_cmp ?_)))
              wtm_at "ea"
              refine op_niQ (.lst (.own (.tail _ (.head _)))) rfl (flN _) ?_
              rw [show inD (nV k) (fl.map nD) = decide (k ∈ fl) from in_rows (some k) _]
              by_cases hin : k ∈ fl
              · have ew : leadStep m fl k = fl := by unfold leadStep; rw [if_neg (fun q => q.1 hin)]
                rw [ew, decide_eq_true hin]
                refine ⟨false, rfl, (fun q => nomatch q), fun _ => ?_⟩
                refine ⟨(fun q => nomatch q), fun _ => ?_⟩
                refine run_nil (run_drop (List.sublist_cons_self _ _) ?_)
                exact run_nil ⟨_, _, _, rfl, rfl⟩
              · rw [decide_eq_false hin]
                refine ⟨true, rfl, (fun _ => ?_), fun q => nomatch q⟩
                refine tw_and1 (tst_cmp ?_)
                wtm_at "ea"
                refine op_gtI ?_
                cases ha : anyIn m fl k with
                | false =>
                  have h0 := hany.mpr ha
                  have ew : leadStep m fl k = fl := by unfold leadStep; rw [if_neg (fun z => by rw [ha] at z; exact absurd z.2 (by decide))]
                  rw [ew, decide_eq_false (show ¬ (0 : Int) < ((lw.length : Nat) : Int) by omega)]
                  refine ⟨false, rfl, (fun q => nomatch q), fun _ => ?_⟩
                  refine run_nil (run_drop (List.sublist_cons_self _ _) ?_)
                  exact run_nil ⟨_, _, _, rfl, rfl⟩
                | true =>
                  have h0 : lw.length ≠ 0 := fun q => by rw [hany.mp q] at ha; cases ha
                  have ew : leadStep m fl k = fl ++ [k] := by unfold leadStep; rw [if_pos ⟨hin, ha⟩]
                  rw [ew, decide_eq_true (show (0 : Int) < ((lw.length : Nat) : Int) by omega)]
                  refine ⟨true, rfl, fun _ => ?_, fun q => nomatch q⟩
                  refine run_expr (ev_append ?_)
                  wtm_at "ea"
                  refine ⟨pg, _, rfl, .tail _ (.head _), ?_⟩
                  wtm_at "ea"
                  refine ⟨_, _, .there .here, by rw [List.length_map]; exact sz_lt (by omega), ?_⟩
                  refine run_set (by wtm_at "loc") (by wtm_at "mem") ?_
                  wtm_at "ea"
                  refine ⟨_, by wtm_at "pt", ?_⟩
                  refine run_nil (run_drop (List.sublist_cons_self _ _) ?_)
                  refine run_nil ⟨some (nD k), some (rowD m.tab[k]), some (.ref pw), ?_, ?_⟩
                  · have e : decide ((fl ++ [k]).length ≠ fo.length) = true := decide_eq_true (by rw [List.length_append]; simp; omega)
                    rw [e]
                  · simp only [List.map_append, List.map_cons, List.map_nil]
          · rintro G' L' ⟨b, c, d, rfl, rfl⟩
            rw [List.length_range]
            obtain ⟨s1, s2⟩ := ho.sweep m.tab.length (Nat.le_refl _)
            have es : (List.range m.tab.length).foldl (leadStep m) fo = leadSweep m fo := rfl
            rw [es] at s1 s2 ⊢
            have sb := s1.bd
            obtain ⟨k, hk2⟩ : ∃ k, n - 1 = k + 1 := ⟨n - 2, by omega⟩
            rw [hk2] at hl hnl
            have el : leadLoop m (k + 1) fo = if (leadSweep m fo).length = fo.length then leadSweep m fo else leadLoop m k (leadSweep m fo) := rfl
            rw [el] at hl
            refine run_nil ⟨k + 1, by omega, _, _, _, _, _, rfl, rfl, s1, fun hg => ?_, fun hg => ?_⟩
            · have hne : ¬ (leadSweep m fo).length = fo.length := of_decide_eq_true hg
              rw [if_neg hne] at hl
              exact ⟨Nat.succ_pos _, hl, by simp only [Nat.add_sub_cancel]; omega⟩
            · have hne : (leadSweep m fo).length = fo.length := by
                have := of_decide_eq_false hg
                omega
              rw [if_pos hne] at hl
              exact hl
end
end Rk01
open PySem L2 TL
namespace Rk01
section
variable {P : Program} {w : World} {K : PySem.W.Frag} {mg : Str → Option Value} {base : Heap}
theorem behL_lt {m : Mac} (ok : m.Ok) : ∀ {s : Nat} {w : List Nat} {r : Nat}, s < m.tab.length → behL m s w = some r → r < m.tab.length
  | s, [], r, hs, h => by cases h; exact hs
  | s, l :: w, r, hs, h => by
    cases q : beh m s l with
    | none => rw [behL, q] at h; cases h
    | some x =>
      rw [behL, q] at h
      exact behL_lt ok (beh_lt ok q) h
def spRowB (Cr : Addr) : Prm := fun ds L KK KE => ∃ (m : Mac) (s : Nat) (t : List Nat), ds = [macR Cr m, nD s, .str (txt t)] ∧ m.Ok ∧ s < m.tab.length ∧ (∀ x ∈ t, x < 3) ∧ L = [] ∧ KK (optN (behL m s t)) []
theorem ok_row_behind {f Cr : Addr} {fd : FuncData} (FF : Fun K "row_behind" "row_behind" s_row_behind f fd) (B : Bi mg) (cR : Cls K Cr) (m1 : Mth P w K mg base Cr "behind" ["self", "row", "letter"] (spBehind Cr) 1) : Def P w K mg base 2 f fd ["reader", "row", "text"] (spRowB Cr) := by
  refine def_ok FF sc_row_behind ?_ ?_
  · rintro ds L KK KE ⟨m, s, t, rfl, _⟩
    rfl
  · rintro ds L KK KE ⟨m, s, t, rfl, ok, hs, ht, rfl, hk⟩ H0 F0
    wtm_at "bg"
    refine run_for rfl rfl (ei_str ?_)
    wtm_at "ea"
    refine ⟨_, rfl, ?_⟩
    rw [txt_chars]
    refine for_pre t (fun l => D.str (letS l)) rfl (fun pre G' L' => ∃ x : Option D, G' = [some (macR Cr m), some (optN (behL m s pre)), some (.str (txt t)), x] ∧ L' = []) ⟨_, rfl, rfl⟩ (fun _ _ _ _ _ h => nomatch h) ?_ ?_
    · rintro F2 pre l suf G' L' hsp ⟨x, rfl, rfl⟩
      have hl3 : l < 3 := ht l (by rw [hsp]; exact List.mem_append_right _ List.mem_cons_self)
      refine tgt_name (by wtm_at "loc") (by wtm_at "pt") ?_
      refine run_set (by wtm_at "loc") (by wtm_at "mem") ?_
      wtm_at "ea"
      refine calls0 ⟨m, behL m s pre, l, rfl, hl3, ok.len, fun r hr => behL_lt ok hs hr, rfl, ?_⟩
      refine ⟨_, by wtm_at "pt", ?_⟩
      refine run_nil ⟨some (.str (letS l)), ?_, rfl⟩
      rw [behL_snoc]
    · rintro G' L' ⟨x, rfl, rfl⟩
      refine run_ret ?_
      wtm_at "ea"
      exact hk
def hasB (m : Mac) (t : List Nat) : Bool := match behL m 0 t with
  | none => false
  | some r => decide (r ∈ m.last)
theorem hasB_iff {m : Mac} {t : List Nat} : hasB m t = true ↔ ∃ e, behL m 0 t = some e ∧ e ∈ m.last := by
  unfold hasB
  cases behL m 0 t with
  | none => exact ⟨fun h => (nomatch h), fun ⟨_, h, _⟩ => (nomatch h)⟩
  | some r => exact ⟨fun h => ⟨r, rfl, of_decide_eq_true h⟩, fun ⟨e, h, h2⟩ => by cases h; exact decide_eq_true h2⟩
def spHas (Cm Cr : Addr) : Prm := fun ds L KK KE => ∃ (m : Mac) (t : List Nat), ds = [macD Cm Cr m, .str (txt t)] ∧ m.Ok ∧ 0 < m.tab.length ∧ (∀ x ∈ t, x < 3) ∧ t.length ≤ 900 ∧ L = [] ∧ KK (.bl (hasB m t)) []
theorem ok_has {f Cm Cr CT : Addr} {fd : FuncData} (FF : Fun K "has" "Machine.has" s_Machine_has f fd) (B : Bi mg) (cM : Cls K Cm) (cR : Cls K Cr) (nI : NoAttr K Cm "inner") (nL : NoAttr K Cr "last") (eT : ExcC K mg "BadText" CT) (g1 : Glob P w K mg base "is_text" ["thing"] spIsText 1) (g2 : Glob P w K mg base "row_behind" ["reader", "row", "text"] (spRowB Cr) 2) : Def P w K mg base 3 f fd ["self", "text"] (spHas Cm Cr) := by
  refine def_ok FF sc_Machine_has ?_ ?_
  · rintro ds L KK KE ⟨m, t, rfl, _⟩
    rfl
  · rintro ds L KK KE ⟨m, t, rfl, ok, h0, ht, hl, rfl, hk⟩ H0 F0
    wtm_at "bg"
    have flr : (m.last.map nD).all flatD = true := by
      rw [List.all_map]
      exact List.all_eq_true.mpr fun _ _ => rfl
    wtm_at "gm"
    refine calls0 ⟨_, rfl, rfl, (fun z hz => by cases hz; rw [txt_len]; omega), rfl, ?_⟩
    rw [isText_txt]
    refine ⟨true, tr_bl, (fun q => nomatch q), fun _ => ?_⟩
    refine run_nil ?_
    refine run_ret ?_
    wtm_at "ea"
    refine calls0 ⟨m, 0, t, rfl, ok, h0, ht, rfl, ?_⟩
    wtm_at "ea"
    unfold hasB at hk
    cases hb : behL m 0 t with
    | none =>
      rw [hb] at hk
      refine op_inQ .tup rfl flr ?_
      rw [show inD V.non (m.last.map nD) = false from in_rows none m.last]
      exact hk
    | some r =>
      rw [hb] at hk
      refine op_inQ .tup rfl flr ?_
      rw [show inD (nV r) (m.last.map nD) = decide (r ∈ m.last) from in_rows (some r) m.last]
      exact hk
def spLAfter2 : Prm := fun ds L KK KE => ∃ (m : Mac) (row : Option Nat) (l : Nat), ds = [.lst (lawD m), optN row, .str (letS l)] ∧ m.Ok ∧ (∀ a, row = some a → a < m.tab.length) ∧ l < 3 ∧ L = [] ∧ KK (optN (row.bind fun a => beh m a l)) []
theorem ok_lafter2 {f : Addr} {fd : FuncData} (FF : Fun K "_law_after" "_law_after" s__law_after f fd) (B : Bi mg) : Def P w K mg base 1 f fd ["_law_machine_here", "_law_row_here", "_law_letter"] spLAfter2 := by
  refine def_ok FF sc__law_after ?_ ?_
  · rintro ds L KK KE ⟨m, row, l, rfl, _⟩
    rfl
  · rintro ds L KK KE ⟨m, row, l, rfl, hok, hrt, hl, rfl, hk⟩ H0 F0
    wtm_at "bg"
    refine run_if (tst_bool (tw_or (tst_cmp ?_)))
    wtm_at "ea"
    refine TL.op_isN ?_
    cases row with
    | none =>
      refine ⟨true, rfl, (fun q => nomatch q), fun _ => ?_⟩
      refine ⟨fun _ => ?_, fun q => nomatch q⟩
      refine run_ret ?_
      wtm_at "ea"
      exact hk
    | some a =>
      have hrt := hrt a rfl
      have hrow : m.tab[a]? = some m.tab[a] := List.getElem?_eq_getElem hrt
      have hrm := hok.len _ (List.getElem_mem hrt)
      have hixr : (m.tab.map rowD)[a]? = some (rowD m.tab[a]) := by rw [List.getElem?_map, hrow]; rfl
      have hk : KK (optN (beh m a l)) [] := hk
      rw [beh_tab hrt] at hk
      have hva : valD ((rowK m.tab[a]).map fun kv => (kv.1, D.v kv.2)) (lkey l) = ((m.tab[a]).getD l none).map fun x => nD x := by
        rw [valD_map, valV_row hrm hl]
        cases (m.tab[a]).getD l none <;> rfl
      refine ⟨false, rfl, (fun _ => ?_), fun q => nomatch q⟩
      refine tw_or1 (tst_cmp ?_)
      wtm_at "ea"
      refine ix_L .frz (at_nat (j := 0) rfl rfl) ?_
      wtm_at "ea"
      refine ix_L .frz (at_nat (j := a) rfl hixr) ?_
      refine op_niK (k := lkey l) rfl .frz ?_
      rw [hva]
      cases hb : (m.tab[a]).getD l none with
      | none =>
        rw [hb] at hk
        refine ⟨true, rfl, (fun _ => ?_), fun q => nomatch q⟩
        refine run_ret ?_
        wtm_at "ea"
        exact hk
      | some x =>
        rw [hb] at hk hva
        refine ⟨false, rfl, (fun q => nomatch q), fun _ => ?_⟩
        refine run_nil ?_
        refine run_ret ?_
        wtm_at "ea"
        refine ix_L .frz (at_nat (j := 0) rfl rfl) ?_
        wtm_at "ea"
        refine ix_L .frz (at_nat (j := a) rfl hixr) ?_
        wtm_at "ea"
        refine ix_K (k := lkey l) rfl .frz hva ?_
        exact hk
def spLRowB : Prm := fun ds L KK KE => ∃ (m : Mac) (t : List Nat), ds = [.lst (lawD m), .str (txt t)] ∧ m.Ok ∧ 0 < m.tab.length ∧ (∀ x ∈ t, x < 3) ∧ L = [] ∧ KK (optN (behL m 0 t)) []
theorem ok_lrowb {f : Addr} {fd : FuncData} (FF : Fun K "_law_row" "_law_row" s__law_row f fd) (B : Bi mg) (g1 : Glob P w K mg base "_law_after" ["_law_machine_here", "_law_row_here", "_law_letter"] spLAfter2 1) : Def P w K mg base 2 f fd ["_law_machine_here", "_law_text"] spLRowB := by
  refine def_ok FF sc__law_row ?_ ?_
  · rintro ds L KK KE ⟨m, t, rfl, _⟩
    rfl
  · rintro ds L KK KE ⟨m, t, rfl, ok, h0, ht, rfl, hk⟩ H0 F0
    wtm_at "bg"
    refine run_set (by wtm_at "loc") (by wtm_at "mem") ?_
    wtm_at "ea"
    refine ⟨_, by wtm_at "pt", ?_⟩
    refine run_for rfl rfl (ei_str ?_)
    wtm_at "ea"
    refine ⟨_, rfl, ?_⟩
    rw [txt_chars]
    refine for_pre t (fun l => D.str (letS l)) rfl (fun pre G' L' => ∃ x : Option D, G' = [some (.lst (lawD m)), some (.str (txt t)), some (optN (behL m 0 pre)), x] ∧ L' = []) ⟨_, rfl, rfl⟩ (fun _ _ _ _ _ h => nomatch h) ?_ ?_
    · rintro F2 pre l suf G' L' hsp ⟨x, rfl, rfl⟩
      have hl3 : l < 3 := ht l (by rw [hsp]; exact List.mem_append_right _ List.mem_cons_self)
      refine tgt_name (by wtm_at "loc") (by wtm_at "pt") ?_
      refine run_set (by wtm_at "loc") (by wtm_at "mem") ?_
      wtm_at "ea"
      refine calls0 ⟨m, behL m 0 pre, l, rfl, ok, fun r hr => behL_lt ok h0 hr, hl3, rfl, ?_⟩
      refine ⟨_, by wtm_at "pt", ?_⟩
      refine run_nil ⟨some (.str (letS l)), ?_, rfl⟩
      rw [behL_snoc]
    · rintro G' L' ⟨x, rfl, rfl⟩
      refine run_ret ?_
      wtm_at "ea"
      exact hk
def spLHas : Prm := fun ds L KK KE => ∃ (m : Mac) (t : List Nat), ds = [.lst (lawD m), .str (txt t)] ∧ m.Ok ∧ 0 < m.tab.length ∧ (∀ x ∈ t, x < 3) ∧ L = [] ∧ KK (.bl (hasB m t)) []
theorem ok_lhas {f : Addr} {fd : FuncData} (FF : Fun K "_law_has" "_law_has" s__law_has f fd) (B : Bi mg) (g1 : Glob P w K mg base "_law_row" ["_law_machine_here", "_law_text"] spLRowB 2) : Def P w K mg base 3 f fd ["_law_machine_here", "_law_text"] spLHas := by
  refine def_ok FF sc__law_has ?_ ?_
  · rintro ds L KK KE ⟨m, t, rfl, _⟩
    rfl
  · rintro ds L KK KE ⟨m, t, rfl, ok, h0, ht, rfl, hk⟩ H0 F0
    wtm_at "bg"
    have flr : (m.last.map nD).all flatD = true := by
      rw [List.all_map]
      exact List.all_eq_true.mpr fun _ _ => rfl
    refine run_set (by wtm_at "loc") (by wtm_at "mem") ?_
    wtm_at "ea"
    refine calls0 ⟨m, t, rfl, ok, h0, ht, rfl, ?_⟩
    refine ⟨_, by wtm_at "pt", ?_⟩
    unfold hasB at hk
    refine run_ret ?_
    wtm_at "ea"
    refine op_notN ?_
    cases hb : behL m 0 t with
    | none =>
      rw [hb] at hk
      exact ⟨false, rfl, (fun q => nomatch q), fun _ => hk⟩
    | some r =>
      rw [hb] at hk
      refine ⟨true, rfl, (fun _ => ?_), fun q => nomatch q⟩
      wtm_at "ea"
      refine ix_L .frz (at_nat (j := 1) rfl rfl) ?_
      refine op_inQ (.lst .frz) rfl flr ?_
      rw [show inD (nV r) (m.last.map nD) = decide (r ∈ m.last) from in_rows (some r) m.last]
      exact hk
def num (w : List Nat) : Nat := w.foldl (fun a x => 3 * a + x) 0
end
end Rk01
open PySem L2 TL
namespace Rk01
section
variable {P : Program} {w : World} {K : PySem.W.Frag} {mg : Str → Option Value} {base : Heap}
theorem nodup_leG {α : Type} [DecidableEq α] : ∀ {l k : List α}, l.Nodup → (∀ x ∈ l, x ∈ k) → l.length ≤ k.length := by
  intro l
  induction l with
  | nil => intro k _ _; exact Nat.zero_le _
  | cons x l ih =>
    intro k nd h
    have nd' := List.nodup_cons.mp nd
    have hx := h x List.mem_cons_self
    have h2 := ih (k := k.erase x) nd'.2 fun y hy => (List.mem_erase_of_ne (fun q => nd'.1 (by rw [← q]; exact hy))).mpr (h y (List.mem_cons_of_mem _ hy))
    rw [List.length_erase_of_mem hx] at h2
    have := List.length_pos_of_mem hx
    rw [List.length_cons]
    omega
def succN (m1 m2 : Mac) (k : NKey) (l : Nat) : NKey := (k.1.bind fun r => beh m1 r l, k.2.bind fun r => beh m2 r l)
def VN (m1 m2 : Mac) (k : NKey) : Prop := (∀ r, k.1 = some r → r < m1.tab.length) ∧ ∀ r, k.2 = some r → r < m2.tab.length
theorem vn_succ {m1 m2 : Mac} (o1 : m1.Ok) (o2 : m2.Ok) (k : NKey) (l : Nat) : VN m1 m2 (succN m1 m2 k l) := by
  refine ⟨fun r h => ?_, fun r h => ?_⟩
  · obtain ⟨s, _, h2⟩ := Option.bind_eq_some_iff.mp h
    exact beh_lt o1 h2
  · obtain ⟨s, _, h2⟩ := Option.bind_eq_some_iff.mp h
    exact beh_lt o2 h2
def optsN (n : Nat) : List (Option Nat) := none :: (List.range n).map some
def allN (m1 m2 : Mac) : List NKey := (optsN m1.tab.length).flatMap fun a => (optsN m2.tab.length).map fun b => (a, b)
theorem opts_mem {n : Nat} {a : Option Nat} (h : ∀ r, a = some r → r < n) : a ∈ optsN n := by
  cases a with
  | none => exact List.mem_cons_self
  | some r => exact List.mem_cons_of_mem _ (List.mem_map.mpr ⟨r, List.mem_range.mpr (h r rfl), rfl⟩)
theorem all_len (m1 m2 : Mac) : (allN m1 m2).length = (m1.tab.length + 1) * (m2.tab.length + 1) := by
  have e : ∀ xs ys : List (Option Nat), (xs.flatMap fun a => ys.map fun b => ((a, b) : NKey)).length = xs.length * ys.length := by
    intro xs ys
    induction xs with
    | nil => rw [List.flatMap_nil, List.length_nil, List.length_nil, Nat.zero_mul]
    | cons x xs ih => rw [List.flatMap_cons, List.length_append, ih, List.length_map, List.length_cons, Nat.succ_mul, Nat.add_comm]
  have l : ∀ n, (optsN n).length = n + 1 := fun n => by
    unfold optsN
    rw [List.length_cons, List.length_map, List.length_range]
  unfold allN
  rw [e, l, l]
/-- where a row leads, among the pairs so far -/
def RowAt (ps : List NKey) (k : NKey) (o : Option Nat) : Prop := (k = (none, none) ∧ o = none) ∨ (k ≠ (none, none) ∧ ∃ j, o = some j ∧ ps[j]? = some k)
theorem RowAt.more {ps : List NKey} {k : NKey} {o : Option Nat} (h : RowAt ps k o) (ext : List NKey) : RowAt (ps ++ ext) k o := by
  rcases h with h | ⟨h0, j, h1, h2⟩
  · exact .inl h
  · exact .inr ⟨h0, j, h1, by rw [List.getElem?_append_left (List.getElem?_eq_some_iff.mp h2).1]; exact h2⟩
structure WvI (m1 m2 : Mac) (ps : List NKey) (rows : List Row) : Prop where
  nd : ps.Nodup
  v : ∀ k ∈ ps, VN m1 m2 k
  z : ps[0]? = some (some 0, some 0)
  ne : ∀ k ∈ ps, k ≠ (none, none)
  le : rows.length ≤ ps.length
  row : ∀ (i : Nat) (r : Row), rows[i]? = some r → r.length = 3 ∧ ∀ k, ps[i]? = some k → ∀ l, l < 3 → RowAt ps (succN m1 m2 k l) (r.getD l none)
theorem WvI.bd {m1 m2 : Mac} {ps : List NKey} {rows : List Row} (h : WvI m1 m2 ps rows) : ps.length ≤ (m1.tab.length + 1) * (m2.tab.length + 1) := by
  rw [← all_len]
  exact nodup_leG h.nd fun k hk => List.mem_flatMap.mpr ⟨k.1, opts_mem (h.v k hk).1, List.mem_map.mpr ⟨k.2, opts_mem (h.v k hk).2, rfl⟩⟩
theorem WvI.push {m1 m2 : Mac} {ps : List NKey} {rows : List Row} (h : WvI m1 m2 ps rows) {k : NKey} (hv : VN m1 m2 k) (hk : k ∉ ps) (hn : k ≠ (none, none)) : WvI m1 m2 (ps ++ [k]) rows := by
  have hl : 0 < ps.length := (List.getElem?_eq_some_iff.mp h.z).1
  refine ⟨List.nodup_append.mpr ⟨h.nd, by simp, fun a ha b hb q => ?_⟩, fun x hx => ?_, by rw [List.getElem?_append_left hl]; exact h.z, fun x hx => ?_, by rw [List.length_append]; exact Nat.le_trans h.le (Nat.le_add_right _ _), fun i r hr => ?_⟩
  · rw [List.mem_singleton.mp hb] at q
    exact hk (by rw [← q]; exact ha)
  · rcases List.mem_append.mp hx with hx | hx
    · exact h.v x hx
    · rw [List.mem_singleton.mp hx]; exact hv
  · rcases List.mem_append.mp hx with hx | hx
    · exact h.ne x hx
    · rw [List.mem_singleton.mp hx]; exact hn
  · obtain ⟨h1, h2⟩ := h.row i r hr
    refine ⟨h1, fun x hx l hl3 => ?_⟩
    have hi : i < ps.length := Nat.lt_of_lt_of_le (List.getElem?_eq_some_iff.mp hr).1 h.le
    rw [List.getElem?_append_left hi] at hx
    exact (h2 x hx l hl3).more _
theorem WvI.addRow {m1 m2 : Mac} {ps : List NKey} {rows : List Row} (h : WvI m1 m2 ps rows) {k : NKey} (hk : ps[rows.length]? = some k) {r : Row} (hr : r.length = 3) (ha : ∀ l, l < 3 → RowAt ps (succN m1 m2 k l) (r.getD l none)) : WvI m1 m2 ps (rows ++ [r]) := by
  refine ⟨h.nd, h.v, h.z, h.ne, ?_, fun i x hx => ?_⟩
  · rw [List.length_append]
    exact (List.getElem?_eq_some_iff.mp hk).1
  · rcases Nat.lt_or_ge i rows.length with hi | hi
    · rw [List.getElem?_append_left hi] at hx
      exact h.row i x hx
    · have hi2 := (List.getElem?_eq_some_iff.mp hx).1
      rw [List.length_append] at hi2
      have e : i = rows.length := by
        have : i < rows.length + 1 := hi2
        omega
      subst e
      rw [List.getElem?_append_right (Nat.le_refl _), Nat.sub_self] at hx
      cases hx
      refine ⟨hr, fun k2 hk2 l hl => ?_⟩
      rw [hk] at hk2
      cases hk2
      exact ha l hl
def wishB (z : Str) (a b : Bool) : Bool := if z = "both" then a && b else if z = "some" then a || b else a && !b
def endB (m : Mac) (o : Option Nat) : Bool := match o with
  | none => false
  | some r => decide (r ∈ m.last)
theorem has_end (m : Mac) (t : List Nat) : hasB m t = endB m (behL m 0 t) := rfl
def wishK (m1 m2 : Mac) (z : Str) (k : NKey) : Bool := wishB z (endB m1 k.1) (endB m2 k.2)
def wovM (m1 m2 : Mac) (z : Str) (ps : List NKey) (rows : List Row) : Mac := ⟨rows, (List.range ps.length).filter fun i => wishK m1 m2 z (ps.getD i (none, none))⟩
theorem wov_ok {m1 m2 : Mac} {z : Str} {ps : List NKey} {rows : List Row} (h : WvI m1 m2 ps rows) (e : rows.length = ps.length) : (wovM m1 m2 z ps rows).Ok := by
  have hl : 0 < ps.length := (List.getElem?_eq_some_iff.mp h.z).1
  refine ⟨by show 0 < rows.length; omega, fun r hr => ?_, fun r hr x hx => ?_, fun i hi => ?_, (List.pairwise_lt_range (n := ps.length)).filter _⟩
  · obtain ⟨i, hi⟩ := List.mem_iff_getElem?.mp hr
    exact Nat.le_of_eq (h.row i r hi).1
  · obtain ⟨i, hi⟩ := List.mem_iff_getElem?.mp hr
    obtain ⟨h1, h2⟩ := h.row i r hi
    have hil := (List.getElem?_eq_some_iff.mp hi).1
    obtain ⟨l, hl3⟩ := List.mem_iff_getElem?.mp hx
    have hll := (List.getElem?_eq_some_iff.mp hl3).1
    have hil2 : i < rows.length := hil
    have hpi : ps[i]? = some (ps[i]'(by omega)) := List.getElem?_eq_getElem (by omega)
    have := h2 _ hpi l (by omega)
    rw [List.getD_eq_getElem?_getD, hl3] at this
    rcases this with ⟨_, q⟩ | ⟨_, j, q, hj⟩
    · cases q
    · cases q
      show x < rows.length
      rw [e]
      exact (List.getElem?_eq_some_iff.mp hj).1
  · show i < rows.length
    rw [e]
    exact List.mem_range.mp (List.mem_filter.mp hi).1
theorem wov_beh {m1 m2 : Mac} {z : Str} {ps : List NKey} {rows : List Row} (h : WvI m1 m2 ps rows) (e : rows.length = ps.length) {i : Nat} {k : NKey} (hk : ps[i]? = some k) {l : Nat} (hl : l < 3) : RowAt ps (succN m1 m2 k l) (beh (wovM m1 m2 z ps rows) i l) := by
  have hi := (List.getElem?_eq_some_iff.mp hk).1
  have hr : rows[i]? = some (rows[i]'(by omega)) := List.getElem?_eq_getElem (by omega)
  have := (h.row i _ hr).2 k hk l hl
  have e2 : beh (wovM m1 m2 z ps rows) i l = (rows[i]'(by omega)).getD l none := beh_tab (m := wovM m1 m2 z ps rows) (show i < rows.length by omega)
  rw [e2]
  exact this
theorem wov_run {m1 m2 : Mac} {z : Str} {ps : List NKey} {rows : List Row} (h : WvI m1 m2 ps rows) (e : rows.length = ps.length) : ∀ (t : List Nat) {i : Nat} {k : NKey}, (∀ x ∈ t, x < 3) → ps[i]? = some k → RowAt ps (k.1.bind fun r => behL m1 r t, k.2.bind fun r => behL m2 r t) (behL (wovM m1 m2 z ps rows) i t)
  | [], i, k, _, hk => by
    have e1 : (k.1.bind fun r => behL m1 r [], k.2.bind fun r => behL m2 r []) = k := by
      obtain ⟨a, b⟩ := k
      cases a <;> cases b <;> rfl
    rw [e1]
    exact .inr ⟨h.ne k (List.mem_of_getElem? hk), i, rfl, hk⟩
  | l :: t, i, k, ht, hk => by
    have hb := wov_beh (z := z) h e hk (ht l List.mem_cons_self)
    have e1 : (k.1.bind fun r => behL m1 r (l :: t), k.2.bind fun r => behL m2 r (l :: t)) = ((succN m1 m2 k l).1.bind fun r => behL m1 r t, (succN m1 m2 k l).2.bind fun r => behL m2 r t) := by
      obtain ⟨a, b⟩ := k
      cases a <;> cases b <;> rfl
    rw [e1]
    show RowAt ps _ ((beh (wovM m1 m2 z ps rows) i l).bind fun r => behL (wovM m1 m2 z ps rows) r t)
    rcases hb with ⟨q1, q2⟩ | ⟨q0, j, q1, q2⟩
    · rw [q1, q2]
      exact .inl ⟨rfl, rfl⟩
    · rw [q1]
      exact wov_run h e t (fun x hx => ht x (List.mem_cons_of_mem _ hx)) q2
theorem wish_ff (z : Str) : wishB z false false = false := by
  unfold wishB
  split
  · rfl
  · split <;> rfl
theorem wov_has {m1 m2 : Mac} {z : Str} {ps : List NKey} {rows : List Row} (h : WvI m1 m2 ps rows) (e : rows.length = ps.length) {t : List Nat} (ht : ∀ x ∈ t, x < 3) : hasB (wovM m1 m2 z ps rows) t = wishB z (hasB m1 t) (hasB m2 t) := by
  rw [has_end, has_end, has_end]
  have := wov_run (z := z) h e t ht h.z
  have e1 : (((some 0, some 0) : NKey).1.bind fun r => behL m1 r t, ((some 0, some 0) : NKey).2.bind fun r => behL m2 r t) = (behL m1 0 t, behL m2 0 t) := rfl
  rw [e1] at this
  rcases this with ⟨q1, q2⟩ | ⟨q0, j, q1, q2⟩
  · injection q1 with q3 q4
    rw [q2, q3, q4]
    exact (wish_ff z).symm
  · rw [q1]
    show decide (j ∈ (List.range ps.length).filter fun i => wishK m1 m2 z (ps.getD i (none, none))) = _
    have e2 : ps.getD j (none, none) = (behL m1 0 t, behL m2 0 t) := by rw [List.getD_eq_getElem?_getD, q2]; rfl
    have hj := (List.getElem?_eq_some_iff.mp q2).1
    have e3 : wishK m1 m2 z (ps.getD j (none, none)) = wishB z (endB m1 (behL m1 0 t)) (endB m2 (behL m2 0 t)) := by rw [e2]; rfl
    rw [← e3]
    refine Bool.eq_iff_iff.mpr ⟨fun q => (List.mem_filter.mp (of_decide_eq_true q)).2, fun q => decide_eq_true (List.mem_filter.mpr ⟨List.mem_range.mpr hj, q⟩)⟩
/-- the numbers of the pairs -/
def NsOk (ns : List NEnt) (ps : List NKey) : Prop := ns.map (fun n => (n.1, n.2.2)) = ps.zipIdx
theorem ns_look {ns : List NEnt} {ps : List NKey} (h : NsOk ns ps) (nd : ps.Nodup) (k : NKey) : (k ∉ ps ∧ nGet ns k = none) ∨ ∃ j, nGet ns k = some j ∧ ps[j]? = some k := by
  cases q : ns.find? (fun n => decide (n.1 = k)) with
  | none =>
    refine .inl ⟨fun hk => ?_, by unfold nGet; rw [q]; rfl⟩
    obtain ⟨i, hi⟩ := List.mem_iff_getElem?.mp hk
    have : (k, i) ∈ ps.zipIdx := List.mem_zipIdx_iff_getElem?.mpr hi
    rw [← h] at this
    obtain ⟨n, hn, e⟩ := List.mem_map.mp this
    have := List.find?_eq_none.mp q n hn
    injection e with e1 _
    exact this (decide_eq_true e1)
  | some n =>
    refine .inr ⟨n.2.2, by unfold nGet; rw [q]; rfl, ?_⟩
    have hn := List.mem_of_find?_eq_some q
    have hk : n.1 = k := by
      have := List.find?_some q
      exact of_decide_eq_true this
    have : (n.1, n.2.2) ∈ ps.zipIdx := by rw [← h]; exact List.mem_map.mpr ⟨n, hn, rfl⟩
    rw [hk] at this
    exact List.mem_zipIdx_iff_getElem?.mp this
theorem ns_snoc {ns : List NEnt} {ps : List NKey} (h : NsOk ns ps) (k : NKey) (b : Addr) : NsOk (ns ++ [(k, b, ps.length)]) (ps ++ [k]) := by
  show List.map _ (_ ++ _) = _
  rw [List.map_append, List.zipIdx_append, h]
  show _ ++ [(k, ps.length)] = _ ++ [(k, 0 + ps.length)]
  rw [Nat.zero_add]
theorem ns_len {ns : List NEnt} {ps : List NKey} (h : NsOk ns ps) : ns.length = ps.length := by
  have := congrArg List.length h
  rw [List.length_map, List.length_zipIdx] at this
  exact this
end
end Rk01
open PySem L2 TL
namespace Rk01
section
variable {P : Program} {w : World} {K : PySem.W.Frag} {mg : Str → Option Value} {base : Heap}
/-- rows a list of dicts, ends a list -/
def spRInit2 (Cr : Addr) : Prm := fun ds L KK KE => ∃ (l : Addr) (rs : List (List (Key × V))) (es : List V), ds = [.ref l, .lst (rs.map rowV), .lst (es.map .v)] ∧ rs.length < 1000 ∧ es.length < 1000 ∧ L = [(l, .ins Cr [])] ∧
  KK .non [(l, .ins Cr [("table", .tup (rs.map fun r => rowV (normRow r))), ("last", .tup (es.map .v))])]
theorem ok_reader_init2 {f Cr : Addr} {fd : FuncData} (FF : Fun K "__init__" "Reader.__init__" s_Reader_init f fd) (B : Bi mg) (gL : GTup K mg "LETTERS" letV) (c : Cls K Cr) (n1 : NoAttr K Cr "table") (n2 : NoAttr K Cr "last") : Def P w K mg base 1 f fd ["self", "rows", "ends"] (spRInit2 Cr) := by
  refine def_ok FF sc_Reader_init ?_ ?_
  · rintro ds L KK KE ⟨l, rs, es, rfl, _⟩
    rfl
  · rintro ds L KK KE ⟨l, rs, es, rfl, hlen, hle, rfl, hk⟩ H0 F0
    wtm_at "bg"
    refine run_fld c n1 ?_
    wtm_at "go"
    refine ev_lc [("row", 4)] rfl (by kernel_rfl) (ei_lst ?_)
    wtm_at "ev"
    refine ⟨_, .frz, ?_⟩
    refine lc_all rs rowV (fun r => rowV (normRow r)) rfl (sz_lt (by omega)) (by intro s hs; cases hs) ?_ ?_
    · intro F1 Dl r acc hr
      refine tn_name (i := 4) (by wtm_at "loc") rfl (List.mem_singleton.mpr rfl) ?_
      wtm_at "wz"
      refine ev_frz (ev_dc [("letter", 3)] rfl (by kernel_rfl) (ei_tup ?_))
      wtm_at "ev"
      refine ⟨_, rfl, ?_⟩
      refine dc_map letK (fun k => .v (kV k)) (fun k => (k, .v ((valV r k).getD .non))) (fun k => (valV r k).isSome) rfl (by decide +kernel) (by intro s hs; cases hs) ?_ ?_
      · intro F2 Dm k acc2 hk2
        refine tn_name (i := 3) (by wtm_at "loc") rfl (List.mem_singleton.mpr rfl) ?_
        wtm_at "wz"
        show TL.Tst _ _ _ _ _
        wtm_at "go"
        refine op_inK rfl .frz ⟨_, rfl, by rw [valD_map]; cases valV r k <;> rfl, List.Sublist.refl _, fun hs => ?_⟩
        obtain ⟨v, hv⟩ := Option.isSome_iff_exists.mp hs
        wtm_at "go"
        exact ix_K rfl .frz (by rw [valD_map, hv]; rfl) ⟨rfl, by rw [hv]; rfl, List.Sublist.refl _⟩
      · intro Dm
        refine ⟨_, _, _, rfl, .here, ?_, List.Sublist.refl _⟩
        show D.dK (dispE _) = D.dK _
        rw [norm_disp]
    · intro Dl
      wtm_at "go"
      refine ⟨_, _, _, rfl, .there .here, by simp [putD], ?_⟩
      refine run_fld c n2 ?_
      wtm_at "go"
      refine ⟨_, _, _, rfl, .there .here, by simp [putD], ?_⟩
      refine run_drop (List.sublist_cons_self _ _) ?_
      wtm_at "go"
theorem optN_oV (o : Option Nat) : optN o = D.v (oV o) := by cases o <;> rfl
def spIsEnd (Cr : Addr) : Prm := fun ds L KK KE => ∃ (m : Mac) (o : Option Nat), ds = [macR Cr m, D.v (oV o)] ∧ L = [] ∧ KK (.bl (endB m o)) []
theorem ok_is_end {f Cr : Addr} {fd : FuncData} (FF : Fun K "is_end" "is_end" s_is_end f fd) (B : Bi mg) (cR : Cls K Cr) (nL : NoAttr K Cr "last") : Def P w K mg base 1 f fd ["reader", "row"] (spIsEnd Cr) := by
  refine def_ok FF sc_is_end ?_ ?_
  · rintro ds L KK KE ⟨m, o, rfl, _⟩
    rfl
  · rintro ds L KK KE ⟨m, o, rfl, rfl, hk⟩ H0 F0
    wtm_at "bg"
    have flr : (m.last.map nD).all flatD = true := by
      rw [List.all_map]
      exact List.all_eq_true.mpr fun _ _ => rfl
    cases o with
    | none =>
      wtm_at "go"
    | some r =>
      refine run_ret0 ?_
      wtm_at "ea"
      refine op_notN ⟨true, rfl, fun _ => ?_, (fun q => nomatch q)⟩
      wtm_at "ea"
      refine op_inQ (x := nV r) .tup rfl flr ?_
      rw [show inD (nV r) (m.last.map nD) = decide (r ∈ m.last) from in_rows (some r) m.last]
      exact hk
def spWished : Prm := fun ds L KK KE => ∃ (z : Str) (a b : Bool), ds = [.str z, .bl a, .bl b] ∧ L = [] ∧ KK (.bl (wishB z a b)) []
theorem ok_is_wished {f : Addr} {fd : FuncData} (FF : Fun K "is_wished" "is_wished" s_is_wished f fd) (B : Bi mg) : Def P w K mg base 1 f fd ["word", "one", "other"] spWished := by
  refine def_ok FF sc_is_wished ?_ ?_
  · rintro ds L KK KE ⟨z, a, b, rfl, _⟩
    rfl
  · rintro ds L KK KE ⟨z, a, b, rfl, rfl, hk⟩ H0 F0
    wtm_at "bg"
    unfold wishB at hk
    by_cases h1 : z = "both"
    · rw [if_pos h1] at hk
      cases a <;> cases b <;> (wtm_at "go") <;> first | exact hk | (exfalso; simp_all)
    · rw [if_neg h1] at hk
      by_cases h2 : z = "some"
      · rw [if_pos h2] at hk
        cases a <;> cases b <;> (wtm_at "go") <;> first | exact hk | (exfalso; simp_all)
      · rw [if_neg h2] at hk
        cases a <;> cases b <;> (wtm_at "go") <;> first | exact hk | (exfalso; simp_all)
end
end Rk01
open PySem L2 TL
namespace Rk01
section
variable {P : Program} {w : World} {K : PySem.W.Frag} {mg : Str → Option Value} {base : Heap}
abbrev pairD (k : NKey) : D := .tup [D.v (oV k.1), D.v (oV k.2)]
theorem op_neNN {M : Mode} {G : List (Option D)} {L : Led} {K : D → Led → Prop} (hc : M.C.cm = true) (k : NKey) (h : K (.bl (decide (k ≠ (none, none)))) L) : Op2 M G L (compareOp .NotEq) (pairD k) (.tup [.non, .non]) K := by
  obtain ⟨a, b⟩ := k
  cases a <;> cases b <;> exact op_neP hc (.tup (.cons (.v rfl) (.cons (.v rfl) .nil))) (.tup (.cons (.v rfl) (.cons (.v rfl) .nil))) rfl rfl h
theorem row_app {a : Row} {b : Option Nat} : rowK (a ++ [b]) = rowK a ++ (match b with | some x => [(lkey a.length, nV x)] | none => []) := by
  unfold rowK
  rw [rowKf_app, Nat.zero_add]
  cases b <;> rfl
theorem wov_range {f : Nat → Bool} (i : Nat) : (List.range (i + 1)).filter f = (List.range i).filter f ++ (if f i = true then [i] else []) := by
  rw [List.range_succ, List.filter_append, List.filter_cons, List.filter_nil]
theorem row_fresh {r : Row} {l : Nat} (hr : r.length = l) (h3 : l < 3) : lkey l ∉ (rowK r).map (·.1) := by
  intro hm
  have e := valV_row (r := r) (by omega) h3
  rw [List.getD_eq_getElem?_getD, List.getElem?_eq_none (by omega)] at e
  obtain ⟨x, hx, q⟩ := List.mem_map.mp hm
  unfold valV at e
  have : (rowK r).find? (fun kv => decide (kv.1 = lkey l)) = none := by
    cases z : (rowK r).find? (fun kv => decide (kv.1 = lkey l)) with
    | none => rfl
    | some y => rw [z] at e; cases e
  have := List.find?_eq_none.mp this x hx
  exact this (decide_eq_true q)
def spWoven (Cr : Addr) : Prm := fun ds L KK KE => ∃ (m1 m2 : Mac) (z : Str), ds = [macR Cr m1, macR Cr m2, .str z] ∧ m1.Ok ∧ m2.Ok ∧ m1.tab.length ≤ 8 ∧ m2.tab.length ≤ 8 ∧ L = [] ∧ ∀ ps rows, WvI m1 m2 ps rows → rows.length = ps.length → KK (macR Cr (wovM m1 m2 z ps rows)) []
theorem ok_woven {f Cr : Addr} {fd : FuncData} (FF : Fun K "woven" "woven" s_woven f fd) (B : Bi mg) (gL : GTup K mg "LETTERS" letV) (cR : Cls K Cr) (m1 : Mth P w K mg base Cr "behind" ["self", "row", "letter"] (spBehind Cr) 1) (g1 : Glob P w K mg base "is_end" ["reader", "row"] (spIsEnd Cr) 1) (g2 : Glob P w K mg base "is_wished" ["word", "one", "other"] spWished 1)
    (g3 : Cla P w K mg base "Reader" Cr ["self", "rows", "ends"] (spRInit2 Cr) 1) : Def P w K mg base 3 f fd ["one", "other", "word"] (spWoven Cr) := by
  refine def_ok FF sc_woven ?_ ?_
  · rintro ds L KK KE ⟨a1, a2, z, rfl, _⟩
    rfl
  · rintro ds L KK KE ⟨a1, a2, z, rfl, o1, o2, h1, h2, rfl, hk⟩ H0 F0
    wtm_at "bg"
    refine run_set (by wtm_at "loc") (by wtm_at "mem") ?_
    wtm_at "ea"
    refine ⟨Nat.le_of_ble_eq_true rfl, ?_⟩
    wtm_at "ea"
    refine ⟨Nat.le_of_ble_eq_true rfl, fun pp => ?_⟩
    refine ⟨_, by wtm_at "pt", ?_⟩
    refine run_set (by wtm_at "loc") (by wtm_at "mem") (ev_dispN rfl fun pn => ?_)
    refine ev_tup (ea_cons (ev_int (ea_cons (ev_int (ea_nil ⟨Nat.le_of_ble_eq_true rfl, ?_⟩)))))
    refine ev_int ⟨(some 0, some 0), 0, rfl, fun b0 => ⟨_, .here, ?_⟩⟩
    refine ⟨_, by wtm_at "pt", ?_⟩
    wtm_at "gn"
    · exact Nat.le_of_ble_eq_true rfl
    intro pr
    refine ⟨_, by wtm_at "pt", ?_⟩
    wtm_at "gn"
    have wv0 : WvI a1 a2 [(some 0, some 0)] [] := ⟨by simp, fun k hk => by
      rw [List.mem_singleton.mp hk]
      exact ⟨fun r hr => by cases hr; exact o1.pos, fun r hr => by cases hr; exact o2.pos⟩, rfl, fun k hk => by rw [List.mem_singleton.mp hk]; exact (fun q => nomatch q), Nat.zero_le _, fun i r hr => by cases i <;> cases hr⟩
    have hB : (a1.tab.length + 1) * (a2.tab.length + 1) ≤ 81 := Nat.mul_le_mul (show a1.tab.length + 1 ≤ 9 by omega) (show a2.tab.length + 1 ≤ 9 by omega)
    refine run_while rfl (fun n G' L' => ∃ (c d e f g h : Option D) (ps : List NKey) (ns : List NEnt) (rows : List Row), G' = [some (macR Cr a1), some (macR Cr a2), some (.str z), some (.ref pp), some (.ref pn), some (.ref pr), some (nD rows.length), c, d, e, f, g, h, none] ∧
      L' = [(pr, .lst (rows.map rowD)), (pn, ndO P w pn ns), (pp, .lst (ps.map pairD))] ∧ WvI a1 a2 ps rows ∧ NsOk ns ps ∧ n + rows.length = (a1.tab.length + 1) * (a2.tab.length + 1))
      ((a1.tab.length + 1) * (a2.tab.length + 1)) ⟨_, _, _, _, _, _, [(some 0, some 0)], [((some 0, some 0), b0, 0)], [], rfl, rfl, wv0, rfl, rfl⟩ ?_
    · rintro n G' L' ⟨c, d, e, f, g, h, ps, ns, rows, rfl, rfl, wv, nk, hn⟩
      have hb := wv.bd
      wtm_at "gn"
      · rename_i q
        have q' : rows.length < ps.length := by
          rw [List.length_map] at q
          have := of_decide_eq_true q
          omega
        have hpi : ps[rows.length]? = some ps[rows.length] := List.getElem?_eq_getElem q'
        generalize hk0 : ps[rows.length] = k at hpi
        have hv := wv.v k (List.mem_of_getElem? hpi)
        refine run_asg ?_
        wtm_at "ea"
        refine ix_L (.own (by wtm_at "nm")) (at_nat (j := rows.length) rfl (by rw [List.getElem?_map, hpi]; rfl)) ?_
        refine tgt_two rfl (tgt_name (by wtm_at "loc") (by wtm_at "pt") (tgt_name (by wtm_at "loc") (by wtm_at "pt") ?_))
        wtm_at "gn"
        refine ip_addI ?_
        refine ⟨_, by wtm_at "pt", ?_⟩
        refine run_set (by wtm_at "loc") (by wtm_at "mem") (ev_dnew fun pw => ?_)
        refine ⟨_, by wtm_at "pt", ?_⟩
        refine run_for rfl rfl (ei_tup ?_)
        wtm_at "ea"
        refine ⟨_, rfl, ?_⟩
        refine for_map (List.range 3) (fun l => .str (letS l)) let_range (fun l G' L' => ∃ (f g h : Option D) (ps' : List NKey) (ns' : List NEnt) (r : Row), G' = [some (macR Cr a1), some (macR Cr a2), some (.str z), some (.ref pp), some (.ref pn), some (.ref pr), some (nD (rows.length + 1)), some (D.v (oV k.1)), some (D.v (oV k.2)), some (.ref pw), f, g, h, none] ∧
          L' = [(pw, .dK (rowK r |>.map fun kv => (kv.1, D.v kv.2))), (pr, .lst (rows.map rowD)), (pn, ndO P w pn ns'), (pp, .lst (ps'.map pairD))] ∧ WvI a1 a2 ps' rows ∧ NsOk ns' ps' ∧ ps'[rows.length]? = some k ∧ r.length = l ∧ ∀ i, i < l → RowAt ps' (succN a1 a2 k i) (r.getD i none))
          ⟨_, _, _, ps, ns, [], rfl, rfl, wv, nk, hpi, rfl, fun i hi => absurd hi (Nat.not_lt_zero i)⟩ (fun _ _ _ _ _ h => (nomatch h)) ?_ ?_
        · rintro F1 l x G' L' hx hlt ⟨f, g, h, ps', ns', r, rfl, rfl, wv', nk', hpk, hrl, hra⟩
          rw [List.length_range] at hlt
          obtain ⟨_, ey⟩ := List.getElem?_eq_some_iff.mp hx
          rw [List.getElem_range] at ey
          subst ey
          have hb' := wv'.bd
          have hnl := ns_len nk'
          have hrk : (rowK r).length ≤ 1000000 := Nat.le_trans (row_len r 0) (by omega)
          refine tgt_name (by wtm_at "loc") (by wtm_at "pt") ?_
          refine run_set (by wtm_at "loc") (by wtm_at "mem") ?_
          wtm_at "ea"
          refine calls0 ⟨a1, k.1, l, by rw [optN_oV], hlt, o1.len, hv.1, rfl, ?_⟩
          rw [optN_oV]
          wtm_at "ea"
          refine calls0 ⟨a2, k.2, l, by rw [optN_oV], hlt, o2.len, hv.2, rfl, ?_⟩
          rw [optN_oV]
          wtm_at "ea"
          refine ⟨Nat.le_of_ble_eq_true rfl, ?_⟩
          refine ⟨_, by wtm_at "pt", ?_⟩
          show TL.Run _ [some (macR Cr a1), some (macR Cr a2), some (.str z), some (.ref pp), some (.ref pn), some (.ref pr), some (nD (rows.length + 1)), some (D.v (oV k.1)), some (D.v (oV k.2)), some (.ref pw), some (.str (letS l)), some (pairD (succN a1 a2 k l)), h, none] _ _ _
          have hvs := vn_succ o1 o2 k l
          generalize hks : succN a1 a2 k l = ks at hvs
          refine run_if (tst_cmp ?_)
          wtm_at "ea"
          refine ⟨Nat.le_of_ble_eq_true rfl, ?_⟩
          refine op_neNN rfl ks ?_
          have fin : ∀ (ps2 : List NKey) (o : Option Nat), (∀ i, i < l → RowAt ps2 (succN a1 a2 k i) (r.getD i none)) → RowAt ps2 ks o → ∀ i, i < l + 1 → RowAt ps2 (succN a1 a2 k i) ((r ++ [o]).getD i none) := by
            intro ps2 o ha hb i hi
            rw [List.getD_eq_getElem?_getD]
            rcases Nat.lt_or_ge i l with hil | hil
            · rw [List.getElem?_append_left (by omega), ← List.getD_eq_getElem?_getD]
              exact ha i hil
            · have e : i = l := by omega
              subst e
              rw [List.getElem?_append_right (by omega), hrl, Nat.sub_self, hks]
              exact hb
          by_cases hkn : ks = (none, none)
          · rw [decide_eq_false (fun q => q hkn)]
            refine ⟨_, rfl, (fun q => nomatch q), fun _ => ?_⟩
            refine run_nil (run_nil ⟨_, _, _, ps', ns', r ++ [none], rfl, ?_, wv', nk', hpk, by rw [List.length_append, hrl]; rfl, fin ps' none hra (.inl ⟨hkn, rfl⟩)⟩)
            rw [row_app, List.append_nil]
            rfl
          · rw [decide_eq_true hkn]
            refine ⟨_, rfl, fun _ => ?_, (fun q => nomatch q)⟩
            refine run_if (tst_cmp ?_)
            wtm_at "ea"
            refine op_niN rfl (by wtm_at "nm") ?_
            have put : ∀ (h : Option D) (ps2 : List NKey) (ns2 : List NEnt), WvI a1 a2 ps2 rows → NsOk ns2 ps2 → ps2[rows.length]? = some k → ks ∈ ps2 → (∀ i, i < l → RowAt ps2 (succN a1 a2 k i) (r.getD i none)) → True := fun _ _ _ _ _ _ _ _ => True.intro
            by_cases hin : ks ∈ ps'
            · obtain ⟨hno, _⟩ | ⟨j, hj, hpj⟩ := ns_look nk' wv'.nd ks
              · exact absurd hin hno
              · rw [hj]
                refine ⟨false, rfl, (fun q => nomatch q), fun _ => ?_⟩
                refine run_nil ?_
                refine run_dput rfl ?_
                wtm_at "ea"
                refine ix_N rfl (by wtm_at "nm") hj ?_
                wtm_at "ea"
                refine ⟨pw, _, Sum.inr (letS l), _, rfl, rfl, .here, by rw [List.length_map]; exact sz_lt hrk, ?_⟩
                refine run_nil (run_nil ⟨_, _, _, ps', ns', r ++ [some j], rfl, ?_, wv', nk', hpk, by rw [List.length_append, hrl]; rfl, fin ps' (some j) hra (.inr ⟨hkn, j, rfl, hpj⟩)⟩)
                rw [putE_new]
                · rw [row_app, List.map_append, hrl]
                  rfl
                · rw [List.map_map]
                  exact row_fresh hrl hlt
            · obtain ⟨hno, hg⟩ | ⟨j, hj, hpj⟩ := ns_look nk' wv'.nd ks
              · rw [hg]
                refine ⟨true, rfl, fun _ => ?_, (fun q => nomatch q)⟩
                have wv2 := wv'.push hvs hno hkn
                have hb2 := wv2.bd
                rw [List.length_append] at hb2
                refine run_nput rfl ?_
                wtm_at "ea"
                refine ⟨pn, ns', ks, _, rfl, rfl, rfl, hg, sz_lt (by omega), fun b => ?_⟩
                have nk2 := ns_snoc nk' ks b
                refine ⟨_, .there (.there .here), ?_⟩
                refine run_expr (ev_append ?_)
                wtm_at "ea"
                refine ⟨pp, _, rfl, by wtm_at "nm", ?_⟩
                wtm_at "ea"
                refine ⟨_, _, .there (.there (.there .here)), by rw [List.length_map]; exact sz_lt (by omega), ?_⟩
                refine run_nil ?_
                obtain ⟨hno2, _⟩ | ⟨j, hj, hpj⟩ := ns_look nk2 wv2.nd ks
                · exact absurd (List.mem_append_right _ List.mem_cons_self) hno2
                have hpk2 : (ps' ++ [ks])[rows.length]? = some k := by
                  rw [List.getElem?_append_left (List.getElem?_eq_some_iff.mp hpk).1]
                  exact hpk
                have el : (ps'.map pairD).length = ps'.length := List.length_map _
                rw [← el] at nk2 hj
                refine run_dput rfl ?_
                wtm_at "ea"
                refine ix_N rfl (by wtm_at "nm") hj ?_
                wtm_at "ea"
                refine ⟨pw, _, Sum.inr (letS l), _, rfl, rfl, .here, by rw [List.length_map]; exact sz_lt hrk, ?_⟩
                refine run_nil (run_nil ⟨_, _, _, ps' ++ [ks], _, r ++ [some j], rfl, ?_, wv2, nk2, hpk2, by rw [List.length_append, hrl]; rfl, fin _ (some j) (fun i hi => (hra i hi).more _) (.inr ⟨hkn, j, rfl, hpj⟩)⟩)
                rw [putE_new]
                · rw [row_app, List.map_append, List.map_append, hrl]
                  rfl
                · rw [List.map_map]
                  exact row_fresh hrl hlt
              · exact absurd (List.mem_of_getElem? hpj) hin
        · rintro G' L' ⟨f, g, h, ps', ns', r, rfl, rfl, wv', nk', hpk, hrl, hra⟩
          rw [List.length_range] at hrl hra
          have hb' := wv'.bd
          refine run_frz (x := "row") (by wtm_at "lk") .here (by wtm_at "pt") ?_
          refine run_expr (ev_append ?_)
          wtm_at "ea"
          refine ⟨pr, _, rfl, by wtm_at "nm", ?_⟩
          wtm_at "ea"
          refine ⟨_, _, .here, by rw [List.length_map]; exact sz_lt (by omega), ?_⟩
          refine run_nil ⟨n - 1, by omega, some (D.v (oV k.1)), some (D.v (oV k.2)), some (rowD r), f, g, h, ps', ns', rows ++ [r], ?_, ?_, wv'.addRow hpk hrl hra, nk', by rw [List.length_append, List.length_singleton]; omega⟩
          · rw [List.length_append, List.length_singleton]
            rfl
          · rw [List.map_append]
            rfl
      · exact Nat.zero_le _
      · rename_i q
        have q' : rows.length = ps.length := by
          rw [List.length_map] at q
          have := of_decide_eq_false q
          have := wv.le
          omega
        intro pe
        refine ⟨_, by wtm_at "pt", ?_⟩
        refine run_frz (x := "pairs") (by wtm_at "lk") (.there (.there (.there .here))) (by wtm_at "pt") ?_
        refine run_frz (x := "rows") (by wtm_at "lk") (.there .here) (by wtm_at "pt") ?_
        refine run_for rfl rfl (ei_enum (by wtm_at "gl") (by wtm_at "bi") ?_)
        wtm_at "ea"
        refine ⟨_, .frz, ?_⟩
        refine ⟨fun i G' L' => ∃ (c d e f g h : Option D), G' = [some (macR Cr a1), some (macR Cr a2), some (.str z), some (.lst (ps.map pairD)), some (.ref pn), some (.lst (rows.map rowD)), some (nD rows.length), c, d, e, f, g, some (.ref pe), h] ∧
          L' = [(pe, .lst (((List.range i).filter fun j => wishK a1 a2 z (ps.getD j (none, none))).map nD)), (pn, ndO P w pn ns)] ∧ i ≤ ps.length, ⟨_, _, _, _, _, _, rfl, rfl, Nat.zero_le _⟩, (fun _ _ _ _ _ h => (nomatch h)), ?_, ?_⟩
        · rintro F1 i x G' L' hd ⟨c, d, e, f, g, h, rfl, rfl, hi⟩
          obtain ⟨x, hx, rfl⟩ := enum_get hd
          rw [List.getElem?_map] at hx
          obtain ⟨k, hk2, rfl⟩ : ∃ k, ps[i]? = some k ∧ x = pairD k := by
            cases e : ps[i]? with
            | none => rw [e] at hx; cases hx
            | some k => rw [e] at hx; exact ⟨k, rfl, (Option.some.inj hx).symm⟩
          have hil := (List.getElem?_eq_some_iff.mp hk2).1
          have egd : ps.getD i (none, none) = k := by rw [List.getD_eq_getElem?_getD, hk2]; rfl
          refine tgt_two rfl (tgt_name (by wtm_at "loc") (by wtm_at "pt") (tgt_two rfl (tgt_name (by wtm_at "loc") (by wtm_at "pt") (tgt_name (by wtm_at "loc") (by wtm_at "pt") ?_))))
          wtm_at "gm"
          refine calls0 ⟨a1, k.1, rfl, rfl, ?_⟩
          wtm_at "ea"
          refine calls0 ⟨a2, k.2, rfl, rfl, ?_⟩
          wtm_at "ea"
          refine calls0 ⟨z, _, _, rfl, rfl, ?_⟩
          have ew : wishB z (endB a1 k.1) (endB a2 k.2) = wishK a1 a2 z (ps.getD i (none, none)) := by rw [egd]; rfl
          rw [ew]
          have fin : ∀ b, wishK a1 a2 z (ps.getD i (none, none)) = b → (((List.range (i + 1)).filter fun j => wishK a1 a2 z (ps.getD j (none, none))).map nD) = (((List.range i).filter fun j => wishK a1 a2 z (ps.getD j (none, none))).map nD) ++ (if b = true then [nD i] else []) := by
            intro b hb
            rw [wov_range, List.map_append, hb]
            cases b <;> rfl
          have hfl := Nat.le_trans (List.length_filter_le (fun j => wishK a1 a2 z (ps.getD j (none, none))) (List.range i)) (Nat.le_of_eq List.length_range)
          cases hw : wishK a1 a2 z (ps.getD i (none, none)) with
          | false =>
            refine ⟨_, tr_bl, (fun q => nomatch q), fun _ => ?_⟩
            refine run_nil (run_nil ⟨_, _, _, _, _, _, rfl, ?_, hil⟩)
            rw [fin false hw, if_neg Bool.false_ne_true, List.append_nil]
            rfl
          | true =>
            refine ⟨_, tr_bl, fun _ => ?_, (fun q => nomatch q)⟩
            refine run_expr (ev_append ?_)
            wtm_at "ea"
            refine ⟨pe, _, rfl, by wtm_at "nm", ?_⟩
            wtm_at "ea"
            refine ⟨_, _, .here, by rw [List.length_map]; exact sz_lt (by omega), ?_⟩
            refine run_nil (run_nil ⟨_, _, _, _, _, _, rfl, ?_, hil⟩)
            rw [fin true hw, if_pos rfl]
        · rintro G' L' ⟨c, d, e, f, g, h, rfl, rfl, hi⟩
          have hle : (enumD (ps.map pairD)).length = ps.length := by
            unfold enumD
            simp
          refine run_frz (x := "ends") (by wtm_at "lk") .here (by wtm_at "pt") ?_
          refine run_ret (ev_drop (ev_frz ?_))
          wtm_at "ea"
          intro l
          have hfl := Nat.le_trans (List.length_filter_le (fun j => wishK a1 a2 z (ps.getD j (none, none))) (List.range ps.length)) (Nat.le_of_eq List.length_range)
          refine calls_1 ⟨l, rows.map rowK, ((List.range ps.length).filter fun j => wishK a1 a2 z (ps.getD j (none, none))).map nV, ?_, by rw [List.length_map]; omega, by rw [List.length_map]; omega, rfl, ?_⟩
          · show [_, D.lst (rows.map rowD), D.lst (List.map nD _)] = _
            rw [hle, List.map_map, List.map_map]
            rfl
          · refine ⟨rfl, _, _, _, rfl, .here, [], ?_, ?_⟩
            · exact .cons _ .slnil
            · have q2 := hk ps rows wv q'
              rw [← rdr_mac Cr (wov_ok wv q').len] at q2
              exact q2
end
end Rk01
open PySem L2 TL
namespace Rk01
section
variable {P : Program} {w : World} {K : PySem.W.Frag} {mg : Str → Option Value} {base : Heap}
theorem txt_inj : ∀ {a b : List Nat}, (∀ x ∈ a, x < 3) → (∀ x ∈ b, x < 3) → txt a = txt b → a = b := by
  have li : ∀ x y : Fin 3, letC x.val = letC y.val → x.val = y.val := by decide
  have go : ∀ a b : List Nat, (∀ x ∈ a, x < 3) → (∀ x ∈ b, x < 3) → a.map letC = b.map letC → a = b := by
    intro a
    induction a with
    | nil => intro b _ _ h; cases b with | nil => rfl | cons y b => cases h
    | cons x a ih =>
      intro b ha hb h
      cases b with
      | nil => cases h
      | cons y b =>
        obtain ⟨h1, h2⟩ := List.cons.inj h
        have e : x = y := li ⟨x, ha x List.mem_cons_self⟩ ⟨y, hb y List.mem_cons_self⟩ h1
        rw [e, ih b (fun z hz => ha z (List.mem_cons_of_mem _ hz)) (fun z hz => hb z (List.mem_cons_of_mem _ hz)) h2]
  intro a b ha hb h
  exact go a b ha hb (by rw [← tl_txt, ← tl_txt, h])
def ord (w : List Nat) : Nat := w.foldl (fun a x => 3 * a + x + 1) 0
theorem ord_snoc (w : List Nat) (x : Nat) : ord (w ++ [x]) = 3 * ord w + x + 1 := by
  unfold ord
  rw [List.foldl_append]
  rfl
theorem snoc_cases {α : Type} (w : List α) : w = [] ∨ ∃ v x, w = v ++ [x] := by
  cases w with
  | nil => exact .inl rfl
  | cons a r => exact .inr ⟨(a :: r).dropLast, (a :: r).getLast (fun q => nomatch q), (List.dropLast_concat_getLast _).symm⟩
abbrev WayT := List (Nat × List Nat)
abbrev strT (g : WayT) : WayL := g.map fun e => (e.1, txt e.2)
def stepT1 (m : Mac) (e : Nat × List Nat) (g : WayT) (l : Nat) : WayT := match beh m e.1 l with
  | some a => if a ∈ g.map (·.1) then g else g ++ [(a, e.2 ++ [l])]
  | none => g
theorem strT_fst (g : WayT) : (strT g).map (·.1) = g.map (·.1) := by
  rw [List.map_map]
  rfl
theorem stepT1_str (m : Mac) (e : Nat × List Nat) (g : WayT) (l : Nat) : strT (stepT1 m e g l) = wayStep1 m (e.1, txt e.2) (strT g) l := by
  unfold stepT1 wayStep1
  cases q : beh m e.1 l with
  | none => rfl
  | some a =>
    show strT (if a ∈ g.map (·.1) then g else g ++ [(a, e.2 ++ [l])]) = (if a ∈ (strT g).map (·.1) then strT g else strT g ++ [(a, txt e.2 ++ letS l)])
    rw [strT_fst]
    split
    · rfl
    · rw [← txt_snoc]
      exact List.map_append
def stepT (m : Mac) (g : WayT) (i : Nat) : WayT := (List.range 3).foldl (stepT1 m (g.getD i (0, []))) g
theorem stepT_str (m : Mac) (g : WayT) {i : Nat} (hi : i < g.length) : strT (stepT m g i) = wayStep m (strT g) i := by
  have e : (strT g).getD i (0, Str.empty) = ((g.getD i (0, [])).1, txt (g.getD i (0, [])).2) := by
    rw [List.getD_eq_getElem?_getD, List.getElem?_map, List.getD_eq_getElem?_getD, List.getElem?_eq_getElem hi]
    rfl
  unfold stepT wayStep
  rw [e]
  have go : ∀ (ls : List Nat) (h : WayT), strT (ls.foldl (stepT1 m (g.getD i (0, []))) h) = ls.foldl (wayStep1 m ((g.getD i (0, [])).1, txt (g.getD i (0, [])).2)) (strT h) := by
    intro ls
    induction ls with
    | nil => intro h; rfl
    | cons l ls ih =>
      intro h
      rw [List.foldl_cons, List.foldl_cons, ih, stepT1_str]
  exact go _ _
structure TxI (m : Mac) (i : Nat) (g : WayT) : Prop where
  up : g.Pairwise fun a b => ord a.2 < ord b.2
  at_ : ∀ e ∈ g, behL m 0 e.2 = some e.1 ∧ ∀ x ∈ e.2, x < 3
  zero : (0, []) ∈ g
  done : ∀ j e, j < i → g[j]? = some e → ∀ l a, l < 3 → beh m e.1 l = some a → ∃ t, (a, t) ∈ g ∧ ord t ≤ 3 * ord e.2 + l + 1
  bd : ∀ e, g[i]? = some e → ∀ x ∈ g, ord x.2 ≤ 3 * ord e.2
theorem stepT_one {m : Mac} {e : Nat × List Nat} {g : WayT} {l : Nat} (hl : l < 3) (he : behL m 0 e.2 = some e.1 ∧ ∀ x ∈ e.2, x < 3) (up : g.Pairwise fun a b => ord a.2 < ord b.2) (at_ : ∀ y ∈ g, behL m 0 y.2 = some y.1 ∧ ∀ x ∈ y.2, x < 3) (bd : ∀ x ∈ g, ord x.2 ≤ 3 * ord e.2 + l) :
    ∃ ext, stepT1 m e g l = g ++ ext ∧ (stepT1 m e g l).Pairwise (fun a b => ord a.2 < ord b.2) ∧ (∀ y ∈ stepT1 m e g l, behL m 0 y.2 = some y.1 ∧ ∀ x ∈ y.2, x < 3) ∧ (∀ x ∈ stepT1 m e g l, ord x.2 ≤ 3 * ord e.2 + (l + 1)) ∧ ∀ a, beh m e.1 l = some a → ∃ t, (a, t) ∈ stepT1 m e g l ∧ ord t ≤ 3 * ord e.2 + l + 1 := by
  unfold stepT1
  cases q : beh m e.1 l with
  | none => exact ⟨[], (List.append_nil _).symm, up, at_, fun x hx => by have := bd x hx; omega, (fun a z => nomatch z)⟩
  | some a =>
    by_cases hm : a ∈ g.map (·.1)
    · simp only [if_pos hm]
      refine ⟨[], (List.append_nil _).symm, up, at_, fun x hx => by have := bd x hx; omega, fun b hb => ?_⟩
      cases hb
      obtain ⟨x, hx, rfl⟩ := List.mem_map.mp hm
      have := bd x hx
      exact ⟨x.2, hx, by omega⟩
    · simp only [if_neg hm]
      have on : ord (e.2 ++ [l]) = 3 * ord e.2 + l + 1 := ord_snoc _ _
      refine ⟨_, rfl, List.pairwise_append.mpr ⟨up, List.pairwise_singleton _ _, fun x hx y hy => ?_⟩, fun x hx => ?_, fun x hx => ?_, fun b hb => ?_⟩
      · rw [List.mem_singleton.mp hy]
        have := bd x hx
        show ord x.2 < ord (e.2 ++ [l])
        omega
      · rcases List.mem_append.mp hx with hx | hx
        · exact at_ x hx
        · rw [List.mem_singleton.mp hx]
          refine ⟨?_, fun y hy => ?_⟩
          · show behL m 0 (e.2 ++ [l]) = some a
            rw [behL_snoc, he.1]
            exact q
          · rcases List.mem_append.mp hy with hy | hy
            · exact he.2 y hy
            · rw [List.mem_singleton.mp hy]; exact hl
      · rcases List.mem_append.mp hx with hx | hx
        · have := bd x hx; omega
        · rw [List.mem_singleton.mp hx]
          show ord (e.2 ++ [l]) ≤ _
          omega
      · cases hb
        exact ⟨e.2 ++ [l], List.mem_append_right _ List.mem_cons_self, Nat.le_of_eq on⟩
theorem stepT_inv {m : Mac} {g : WayT} {i : Nat} (hi : i < g.length) (w : TxI m i g) : TxI m (i + 1) (stepT m g i) ∧ g.length ≤ (stepT m g i).length := by
  have hgi : g[i]? = some g[i] := List.getElem?_eq_getElem hi
  have hd : g.getD i (0, []) = g[i] := by rw [List.getD_eq_getElem?_getD, hgi]; rfl
  have hm := List.mem_of_getElem? hgi
  unfold stepT
  rw [hd]
  generalize g[i] = e at hgi hm
  have he := w.at_ e hm
  have go : ∀ k, k ≤ 3 → ∃ ext, (List.range k).foldl (stepT1 m e) g = g ++ ext ∧ ((List.range k).foldl (stepT1 m e) g).Pairwise (fun a b => ord a.2 < ord b.2) ∧ (∀ y ∈ (List.range k).foldl (stepT1 m e) g, behL m 0 y.2 = some y.1 ∧ ∀ x ∈ y.2, x < 3) ∧
      (∀ x ∈ (List.range k).foldl (stepT1 m e) g, ord x.2 ≤ 3 * ord e.2 + k) ∧ ∀ l, l < k → ∀ a, beh m e.1 l = some a → ∃ t, (a, t) ∈ (List.range k).foldl (stepT1 m e) g ∧ ord t ≤ 3 * ord e.2 + l + 1 := by
    intro k
    induction k with
    | zero => intro _; exact ⟨[], (List.append_nil _).symm, w.up, w.at_, w.bd e hgi, fun l hl => absurd hl (Nat.not_lt_zero l)⟩
    | succ k ih =>
      intro hk
      obtain ⟨ext, h1, h2, h3, h4, h5⟩ := ih (by omega)
      obtain ⟨ext2, k1, k2, k3, k4, k5⟩ := stepT_one (show k < 3 by omega) he h2 h3 h4
      rw [List.range_succ, List.foldl_append]
      refine ⟨ext ++ ext2, by rw [← List.append_assoc, ← h1]; exact k1, k2, k3, k4, fun l hl a ha => ?_⟩
      rcases Nat.lt_or_ge l k with h | h
      · obtain ⟨t, ht, o⟩ := h5 l h a ha
        refine ⟨t, ?_, o⟩
        show _ ∈ stepT1 m e _ k
        rw [k1]
        exact List.mem_append_left _ ht
      · have e1 : l = k := by omega
        subst e1
        exact k5 a ha
  obtain ⟨ext, h1, h2, h3, h4, h5⟩ := go 3 (Nat.le_refl _)
  refine ⟨⟨h2, h3, by rw [h1]; exact List.mem_append_left _ w.zero, fun j x hj hx l a hl ha => ?_, fun x hx y hy => ?_⟩, by rw [h1, List.length_append]; omega⟩
  · rw [h1] at hx
    rw [List.getElem?_append_left (by omega)] at hx
    rcases Nat.lt_or_ge j i with h | h
    · obtain ⟨t, ht, o⟩ := w.done j x h hx l a hl ha
      exact ⟨t, by rw [h1]; exact List.mem_append_left _ ht, o⟩
    · have e1 : j = i := by omega
      subst e1
      rw [hgi] at hx
      cases hx
      exact h5 l hl a ha
  · have o1 := h4 y hy
    have o2 : ord e.2 < ord x.2 := by
      have hx' := hx
      obtain ⟨h6, h7⟩ := List.getElem?_eq_some_iff.mp hx
      rw [h1] at hx
      have hgi2 : ((List.range 3).foldl (stepT1 m e) g)[i]? = some e := by rw [h1, List.getElem?_append_left hi]; exact hgi
      obtain ⟨h8, h9⟩ := List.getElem?_eq_some_iff.mp hgi2
      have := List.pairwise_iff_getElem.mp h2 i (i + 1) h8 h6 (Nat.lt_succ_self i)
      rw [h7, h9] at this
      exact this
    omega
def loopT (m : Mac) : Nat → Nat → WayT → WayT
  | 0, _, g => g
  | n + 1, i, g => if i < g.length then loopT m n (i + 1) (stepT m g i) else g
def waysT (m : Mac) : WayT := loopT m (m.tab.length + 1) 0 [(0, [])]
theorem loopT_str (m : Mac) : ∀ (n i : Nat) (g : WayT), strT (loopT m n i g) = waysLoop m n i (strT g)
  | 0, _, _ => rfl
  | n + 1, i, g => by
    show strT (if _ then _ else _) = (if _ then _ else _)
    rw [List.length_map]
    split
    · rename_i hi
      rw [loopT_str m n, stepT_str m g hi]
    · rfl
theorem waysT_str (m : Mac) : strT (waysT m) = ways m := loopT_str m _ _ _
theorem loopT_inv {m : Mac} (h : m.Ok) : ∀ (n i : Nat) (g : WayT), WayOk m (strT g) → TxI m i g → i ≤ g.length → m.tab.length + 1 ≤ n + i → TxI m (loopT m n i g).length (loopT m n i g)
  | 0, i, g, wo, w, hi, hn => by
    have := wo.bd
    rw [List.length_map] at this
    omega
  | n + 1, i, g, wo, w, hi, hn => by
    show TxI m (List.length (if _ then _ else _)) (if _ then _ else _)
    by_cases q : i < g.length
    · rw [if_pos q]
      obtain ⟨w2, l2⟩ := stepT_inv q w
      refine loopT_inv h n (i + 1) _ ?_ w2 (by omega) (by omega)
      rw [stepT_str m g q]
      have hsi : (strT g)[i]? = some ((strT g)[i]'(by rw [List.length_map]; exact q)) := List.getElem?_eq_getElem _
      have hle := wo.len i _ hsi
      have e : (strT g).getD i (0, Str.empty) = (strT g)[i]'(by rw [List.length_map]; exact q) := by rw [List.getD_eq_getElem?_getD, hsi]; rfl
      unfold wayStep
      rw [e]
      have lg : (strT g).length = g.length := List.length_map _
      exact (WayOk.steps h (List.range 3) wo (by omega)).1
    · rw [if_neg q]
      have e1 : i = g.length := by omega
      rw [← e1]
      exact w
theorem waysT_ok {m : Mac} (h : m.Ok) : TxI m (waysT m).length (waysT m) := by
  refine loopT_inv h _ _ _ ⟨by simp, fun e he => ?_, fun i e he => ?_⟩ ⟨List.pairwise_singleton _ _, fun e he => ?_, List.mem_cons_self, fun j e hj => absurd hj (Nat.not_lt_zero j), fun e he x hx => ?_⟩ (Nat.zero_le _) (Nat.le_refl _)
  · rw [List.mem_singleton.mp he]
    exact h.pos
  · cases i with
    | zero => cases he; exact Nat.le_refl _
    | succ j => simp at he
  · rw [List.mem_singleton.mp he]
    exact ⟨rfl, (fun _ z => nomatch z)⟩
  · cases he
    rw [List.mem_singleton.mp hx]
    exact Nat.zero_le _
/-- each text's row has a text that is no greater -/
theorem waysT_le {m : Mac} (h : m.Ok) : ∀ (n : Nat) {t : List Nat} {r : Nat}, t.length = n → (∀ x ∈ t, x < 3) → behL m 0 t = some r → ∃ u, (r, u) ∈ waysT m ∧ ord u ≤ ord t := by
  intro n
  induction n with
  | zero =>
    intro t r ht _ hr
    cases List.length_eq_zero_iff.mp ht
    cases hr
    exact ⟨[], (waysT_ok h).zero, Nat.le_refl _⟩
  | succ n ih =>
    intro t r ht h3 hr
    rcases snoc_cases t with rfl | ⟨t, l, rfl⟩
    · cases ht
    rw [behL_snoc] at hr
    obtain ⟨s, hs, hl⟩ := Option.bind_eq_some_iff.mp hr
    rw [List.length_append, List.length_singleton] at ht
    obtain ⟨u, hu, o⟩ := ih (by omega) (fun x hx => h3 x (List.mem_append_left _ hx)) hs
    obtain ⟨j, hj⟩ := List.mem_iff_getElem?.mp hu
    obtain ⟨v, hv, o2⟩ := (waysT_ok h).done j _ (List.getElem?_eq_some_iff.mp hj).1 hj l r (h3 l (List.mem_append_right _ List.mem_cons_self)) hl
    refine ⟨v, hv, ?_⟩
    rw [ord_snoc]
    have : ord v ≤ 3 * ord u + l + 1 := o2
    omega
theorem least_none {m : Mac} (h : m.Ok) (e : leastT m = none) (t : List Nat) (ht : ∀ x ∈ t, x < 3) : hasB m t = false := by
  refine Bool.eq_false_iff.mpr fun q => ?_
  obtain ⟨r, hr, hl⟩ := hasB_iff.mp q
  obtain ⟨u, hu, _⟩ := waysT_le h _ rfl ht hr
  unfold leastT at e
  rw [Option.map_eq_none_iff] at e
  have := List.find?_eq_none.mp e (r, txt u) (by rw [← waysT_str]; exact List.mem_map.mpr ⟨_, hu, rfl⟩)
  exact this (decide_eq_true hl)
theorem least_some {m : Mac} (h : m.Ok) {z : Str} (e : leastT m = some z) : ∃ t, z = txt t ∧ (∀ x ∈ t, x < 3) ∧ hasB m t = true ∧ t.length < m.tab.length ∧ ∀ u, (∀ x ∈ u, x < 3) → hasB m u = true → ord t ≤ ord u := by
  unfold leastT at e
  obtain ⟨x, hx, rfl⟩ := Option.map_eq_some_iff.mp e
  have hxm := List.mem_of_find?_eq_some hx
  have wo := ways_ok h
  have wT := waysT_ok h
  rw [← waysT_str] at hxm hx
  obtain ⟨⟨r, t⟩, ht, rfl⟩ := List.mem_map.mp hxm
  obtain ⟨h1, h2⟩ := wT.at_ _ ht
  have hr : r ∈ m.last := by
    have := List.find?_some hx
    exact of_decide_eq_true this
  obtain ⟨i, hi⟩ := List.mem_iff_getElem?.mp ht
  refine ⟨t, rfl, h2, hasB_iff.mpr ⟨r, h1, hr⟩, ?_, fun u hu hb => ?_⟩
  · have hs : (ways m)[i]? = some (r, txt t) := by rw [← waysT_str, List.getElem?_map, hi]; rfl
    have a := wo.len i _ hs
    have b := (List.getElem?_eq_some_iff.mp hs).1
    have c := wo.bd
    rw [show ((r, txt t) : Nat × Str).2 = txt t from rfl, txt_len] at a
    omega
  · obtain ⟨s, hs, hl⟩ := hasB_iff.mp hb
    obtain ⟨v, hv, o⟩ := waysT_le h _ rfl hu hs
    refine Nat.le_trans ?_ o
    obtain ⟨as, bs, e1, e2⟩ := List.find?_eq_some_iff_append.mp hx |>.2
    obtain ⟨as2, bs2, e3, rfl, e4⟩ := List.map_eq_append_iff.mp e1
    rw [e3] at hv
    rcases List.mem_append.mp hv with hv | hv
    · have := e2 (s, txt v) (List.mem_map.mpr ⟨_, hv, rfl⟩)
      rw [show decide ((s, txt v).1 ∈ m.last) = true from decide_eq_true hl] at this
      cases this
    · cases bs2 with
      | nil => cases hv
      | cons y ys =>
        have up := wT.up
        rw [e3] at up
        have up2 := (List.pairwise_append.mp up).2.1
        obtain ⟨e5, _⟩ := List.cons.inj e4
        have hym : y ∈ waysT m := by rw [e3]; exact List.mem_append_right _ List.mem_cons_self
        have ey : y = (r, t) := by
          obtain ⟨y1, y2⟩ := y
          have e6 : y1 = r := congrArg Prod.fst e5
          have e7 : txt y2 = txt t := congrArg Prod.snd e5
          have h4 := wT.at_ _ hym
          have le : y2.length = t.length := by rw [← txt_len, e7, txt_len]
          have : y2 = t := txt_inj h4.2 h2 e7
          rw [e6, this]
        subst ey
        rcases List.mem_cons.mp hv with hv | hv
        · cases hv
          exact Nat.le_refl _
        · exact Nat.le_of_lt ((List.pairwise_cons.mp up2).1 _ hv)
end
end Rk01
open PySem L2 TL
namespace Rk01
section
variable {P : Program} {w : World} {K : PySem.W.Frag} {mg : Str → Option Value} {base : Heap}
def Sub (m1 m2 : Mac) : Prop := ∀ t : List Nat, (∀ x ∈ t, x < 3) → hasB m1 t = true → hasB m2 t = true
def spOpM (Cm Cr : Addr) (z : Str) : Prm := fun ds L KK KE => ∃ m1 m2 : Mac, ds = [macD Cm Cr m1, macD Cm Cr m2] ∧ m1.Ok ∧ m2.Ok ∧ m1.tab.length ≤ 8 ∧ m2.tab.length ≤ 8 ∧ L = [] ∧ ∀ q : Mac, q.Ok → q.tab.length ≤ 81 → (∀ t, (∀ x ∈ t, x < 3) → hasB q t = wishB z (hasB m1 t) (hasB m2 t)) → KK (macD Cm Cr q) []
theorem wov_le {m1 m2 : Mac} {ps : List NKey} {rows : List Row} (wv : WvI m1 m2 ps rows) (e : rows.length = ps.length) (h1 : m1.tab.length ≤ 8) (h2 : m2.tab.length ≤ 8) : rows.length ≤ 81 := by
  have hB : (m1.tab.length + 1) * (m2.tab.length + 1) ≤ 81 := Nat.mul_le_mul (show m1.tab.length + 1 ≤ 9 by omega) (show m2.tab.length + 1 ≤ 9 by omega)
  have := wv.bd
  omega
theorem ok_and {f Cm Cr CB : Addr} {fd : FuncData} (FF : Fun K "__and__" "Machine.__and__" s_Machine_and f fd) (B : Bi mg) (cM : Cls K Cm) (nI : NoAttr K Cm "inner") (g1 : Glob P w K mg base "woven" ["one", "other", "word"] (spWoven Cr) 3) (g2 : Cla P w K mg base "Machine" Cm ["self", "rows", "ends"] (spMInit Cm Cr CB) 4) : Def P w K mg base 6 f fd ["self", "other"] (spOpM Cm Cr "both") := by
  refine def_ok FF sc_Machine_and ?_ ?_
  · rintro ds L KK KE ⟨m1, m2, rfl, _⟩
    rfl
  · rintro ds L KK KE ⟨m1, m2, rfl, o1, o2, h1, h2, rfl, hk⟩ H0 F0
    wtm_at "bg"
    refine run_ret0 (ev_frz ?_)
    wtm_at "ea"
    refine calls0 ⟨m1, m2, _, rfl, o1, o2, h1, h2, rfl, fun ps rows wv e => ?_⟩
    wtm_at "ea"
    refine ⟨Nat.zero_le _, ?_⟩
    wtm_at "ea"
    intro l
    refine calls_1 ⟨l, _, _, rfl, rfl, .inl ⟨_, rfl, rfl, _, _, _, rfl, .here, ?_⟩⟩
    exact hk _ (wov_ok wv e) (wov_le wv e h1 h2) fun t ht => wov_has wv e ht
theorem ok_or {f Cm Cr CB : Addr} {fd : FuncData} (FF : Fun K "__or__" "Machine.__or__" s_Machine_or f fd) (B : Bi mg) (cM : Cls K Cm) (nI : NoAttr K Cm "inner") (g1 : Glob P w K mg base "woven" ["one", "other", "word"] (spWoven Cr) 3) (g2 : Cla P w K mg base "Machine" Cm ["self", "rows", "ends"] (spMInit Cm Cr CB) 4) : Def P w K mg base 6 f fd ["self", "other"] (spOpM Cm Cr "some") := by
  refine def_ok FF sc_Machine_or ?_ ?_
  · rintro ds L KK KE ⟨m1, m2, rfl, _⟩
    rfl
  · rintro ds L KK KE ⟨m1, m2, rfl, o1, o2, h1, h2, rfl, hk⟩ H0 F0
    wtm_at "bg"
    refine run_ret0 (ev_frz ?_)
    wtm_at "ea"
    refine calls0 ⟨m1, m2, _, rfl, o1, o2, h1, h2, rfl, fun ps rows wv e => ?_⟩
    wtm_at "ea"
    refine ⟨Nat.zero_le _, ?_⟩
    wtm_at "ea"
    intro l
    refine calls_1 ⟨l, _, _, rfl, rfl, .inl ⟨_, rfl, rfl, _, _, _, rfl, .here, ?_⟩⟩
    exact hk _ (wov_ok wv e) (wov_le wv e h1 h2) fun t ht => wov_has wv e ht
theorem ok_sub {f Cm Cr CB : Addr} {fd : FuncData} (FF : Fun K "__sub__" "Machine.__sub__" s_Machine_sub f fd) (B : Bi mg) (cM : Cls K Cm) (nI : NoAttr K Cm "inner") (g1 : Glob P w K mg base "woven" ["one", "other", "word"] (spWoven Cr) 3) (g2 : Cla P w K mg base "Machine" Cm ["self", "rows", "ends"] (spMInit Cm Cr CB) 4) : Def P w K mg base 6 f fd ["self", "other"] (spOpM Cm Cr "less") := by
  refine def_ok FF sc_Machine_sub ?_ ?_
  · rintro ds L KK KE ⟨m1, m2, rfl, _⟩
    rfl
  · rintro ds L KK KE ⟨m1, m2, rfl, o1, o2, h1, h2, rfl, hk⟩ H0 F0
    wtm_at "bg"
    refine run_ret0 (ev_frz ?_)
    wtm_at "ea"
    refine calls0 ⟨m1, m2, _, rfl, o1, o2, h1, h2, rfl, fun ps rows wv e => ?_⟩
    wtm_at "ea"
    refine ⟨Nat.zero_le _, ?_⟩
    wtm_at "ea"
    intro l
    refine calls_1 ⟨l, _, _, rfl, rfl, .inl ⟨_, rfl, rfl, _, _, _, rfl, .here, ?_⟩⟩
    exact hk _ (wov_ok wv e) (wov_le wv e h1 h2) fun t ht => wov_has wv e ht
theorem sub_iff {m1 m2 : Mac} {ps : List NKey} {rows : List Row} (wv : WvI m1 m2 ps rows) (e : rows.length = ps.length) : isN (optS (leastT (wovM m1 m2 "less" ps rows))) = true ↔ Sub m1 m2 := by
  have ok := wov_ok (z := "less") wv e
  have hw : ∀ a b, wishB "less" a b = (a && !b) := fun a b => by
    unfold wishB
    rw [if_neg (by decide +kernel), if_neg (by decide +kernel)]
  cases q : leastT (wovM m1 m2 "less" ps rows) with
  | none =>
    refine ⟨fun _ t ht h1 => ?_, fun _ => rfl⟩
    have := least_none ok q t ht
    rw [wov_has wv e ht, hw, h1] at this
    cases h2 : hasB m2 t with
    | true => rfl
    | false => rw [h2] at this; cases this
  | some z =>
    refine ⟨(fun h => nomatch h), fun h => ?_⟩
    obtain ⟨t, _, ht, hb, _⟩ := least_some ok q
    rw [wov_has wv e ht, hw, Bool.and_eq_true] at hb
    rw [h t ht hb.1] at hb
    cases hb.2
def spIsIn (Cm Cr : Addr) : Prm := fun ds L KK KE => ∃ m1 m2 : Mac, ds = [macD Cm Cr m1, macD Cm Cr m2] ∧ m1.Ok ∧ m2.Ok ∧ m1.tab.length ≤ 8 ∧ m2.tab.length ≤ 8 ∧ L = [] ∧ ∀ b : Bool, (b = true ↔ Sub m1 m2) → KK (.bl b) []
theorem ok_is_in {f Cm Cr : Addr} {fd : FuncData} (FF : Fun K "is_in" "Machine.is_in" s_Machine_is_in f fd) (B : Bi mg) (cM : Cls K Cm) (nI : NoAttr K Cm "inner") (g1 : Glob P w K mg base "woven" ["one", "other", "word"] (spWoven Cr) 3) (g2 : Glob P w K mg base "least_text" ["reader"] (spLeastText Cr) 3) : Def P w K mg base 4 f fd ["self", "other"] (spIsIn Cm Cr) := by
  refine def_ok FF sc_Machine_is_in ?_ ?_
  · rintro ds L KK KE ⟨m1, m2, rfl, _⟩
    rfl
  · rintro ds L KK KE ⟨m1, m2, rfl, o1, o2, h1, h2, rfl, hk⟩ H0 F0
    wtm_at "bg"
    refine run_ret0 ?_
    wtm_at "ea"
    refine calls0 ⟨m1, m2, _, rfl, o1, o2, h1, h2, rfl, fun ps rows wv e => ?_⟩
    wtm_at "ea"
    refine calls0 ⟨_, rfl, wov_ok wv e, Nat.lt_of_le_of_lt (wov_le wv e h1 h2) (by decide), rfl, ?_⟩
    wtm_at "ea"
    refine op_isN ?_
    exact hk _ (sub_iff wv e)
def spEqM (Cm Cr : Addr) : Prm := fun ds L KK KE => ∃ m1 m2 : Mac, ds = [macD Cm Cr m1, macD Cm Cr m2] ∧ m1.Ok ∧ m2.Ok ∧ m1.tab.length ≤ 8 ∧ m2.tab.length ≤ 8 ∧ L = [] ∧ ∀ b : Bool, (b = true ↔ Sub m1 m2 ∧ Sub m2 m1) → KK (.bl b) []
theorem ok_eqm {f Cm Cr : Addr} {fd : FuncData} (FF : Fun K "__eq__" "Machine.__eq__" s_Machine_eq f fd) (B : Bi mg) (gM : GVal mg "Machine" (.ref Cm)) (cM : Cls K Cm) (cI : ClsI K Cm) (k4 : PySem.W.kitOne K (.ref Cm) (.ref Cm) = some true) (nI : NoAttr K Cm "inner") (g1 : Glob P w K mg base "woven" ["one", "other", "word"] (spWoven Cr) 3) (g2 : Glob P w K mg base "least_text" ["reader"] (spLeastText Cr) 3) : Def P w K mg base 4 f fd ["self", "other"] (spEqM Cm Cr) := by
  refine def_ok FF sc_Machine_eq ?_ ?_
  · rintro ds L KK KE ⟨m1, m2, rfl, _⟩
    rfl
  · rintro ds L KK KE ⟨m1, m2, rfl, o1, o2, h1, h2, rfl, hk⟩ H0 F0
    wtm_at "bg"
    wtm_at "gm"
    refine run_nil ?_
    wtm_at "gm"
    refine calls0 ⟨m1, m2, _, rfl, o1, o2, h1, h2, rfl, fun ps rows wv e => ?_⟩
    wtm_at "ea"
    refine calls0 ⟨_, rfl, wov_ok wv e, Nat.lt_of_le_of_lt (wov_le wv e h1 h2) (by decide), rfl, ?_⟩
    have s1 := sub_iff wv e
    generalize leastT (wovM m1 m2 "less" ps rows) = x at s1
    refine ⟨_, by wtm_at "pt", ?_⟩
    show TL.Run _ [some (macD Cm Cr m1), some (macD Cm Cr m2), some (optS x)] _ _ _
    refine run_ret0 ?_
    wtm_at "ea"
    refine op_isN ?_
    cases hx : isN (optS x) with
    | false =>
      refine ⟨false, rfl, (fun q => nomatch q), fun _ => hk false ⟨(fun q => nomatch q), fun q => ?_⟩⟩
      rw [s1.mpr q.1] at hx
      cases hx
    | true =>
      refine ⟨true, rfl, fun _ => ?_, (fun q => nomatch q)⟩
      wtm_at "ea"
      refine calls0 ⟨m2, m1, _, rfl, o2, o1, h2, h1, rfl, fun ps2 rows2 wv2 e2 => ?_⟩
      wtm_at "ea"
      refine calls0 ⟨_, rfl, wov_ok wv2 e2, Nat.lt_of_le_of_lt (wov_le wv2 e2 h2 h1) (by decide), rfl, ?_⟩
      wtm_at "ea"
      refine op_isN ?_
      exact hk _ ((sub_iff wv2 e2).trans ⟨fun q => ⟨s1.mp hx, q⟩, fun q => q.2⟩)
end
end Rk01
open PySem L2 TL
namespace Rk01
section
variable {P : Program} {w : World} {K : PySem.W.Frag} {mg : Str → Option Value} {base : Heap}
def EqvR (m : Mac) (r s : Nat) : Prop := ∀ t : List Nat, (∀ x ∈ t, x < 3) → endB m (behL m r t) = endB m (behL m s t)
theorem behL_let {m : Mac} (ok : m.Ok) : ∀ {t : List Nat} {s e : Nat}, behL m s t = some e → ∀ x ∈ t, x < 3
  | [], _, _, _ => fun _ h => nomatch h
  | l :: t, s, e, h => by
    have h' : ((beh m s l).bind fun r => behL m r t) = some e := h
    obtain ⟨r, h1, h2⟩ := Option.bind_eq_some_iff.mp h'
    intro x hx
    rcases List.mem_cons.mp hx with rfl | hx
    · exact beh_l ok h1
    · exact behL_let ok h2 x hx
theorem endB_iff {m : Mac} {o : Option Nat} : endB m o = true ↔ ∃ e, o = some e ∧ e ∈ m.last := by
  cases o with
  | none => exact ⟨(fun h => nomatch h), fun ⟨_, h, _⟩ => nomatch h⟩
  | some e => exact ⟨fun h => ⟨e, rfl, of_decide_eq_true h⟩, fun ⟨_, h, k⟩ => by cases h; exact decide_eq_true k⟩
theorem leads_text {m : Mac} (ok : m.Ok) {a : Nat} (h : a ∈ needed m) : ∃ t : List Nat, (∀ x ∈ t, x < 3) ∧ endB m (behL m a t) = true := by
  obtain ⟨_, e, ⟨n, p⟩, he⟩ := (mem_needed ok).mp h
  obtain ⟨w, _, hw⟩ := pth_behL p
  exact ⟨w, behL_let ok hw, endB_iff.mpr ⟨e, hw, he⟩⟩
theorem dead_text {m : Mac} (ok : m.Ok) {r l a : Nat} (hr : r ∈ needed m) (h : beh m r l = some a) (ha : a ∉ needed m) (t : List Nat) : endB m (behL m a t) = false := by
  refine Bool.eq_false_iff.mpr fun q => ha ?_
  obtain ⟨e, he, hl⟩ := endB_iff.mp q
  exact (mem_needed ok).mpr ⟨((mem_needed ok).mp hr).1.trans (.one h), e, behL_reach he, hl⟩
/-- what stands behind a letter, where it is needed -/
def nxtN (m : Mac) (r l : Nat) : Option Nat := match beh m r l with
  | some a => if a ∈ needed m then some a else none
  | none => none
theorem nxt_mem {m : Mac} {r l a : Nat} (h : nxtN m r l = some a) : a ∈ needed m ∧ beh m r l = some a := by
  unfold nxtN at h
  cases q : beh m r l with
  | none => rw [q] at h; cases h
  | some b =>
    rw [q] at h
    by_cases hb : b ∈ needed m
    · simp only [if_pos hb] at h
      cases h
      exact ⟨hb, rfl⟩
    · simp only [if_neg hb] at h
      cases h
theorem end_cons {m : Mac} (ok : m.Ok) {r l : Nat} (hr : r ∈ needed m) (t : List Nat) : endB m (behL m r (l :: t)) = match nxtN m r l with
    | some a => endB m (behL m a t)
    | none => false := by
  show endB m ((beh m r l).bind fun r => behL m r t) = _
  unfold nxtN
  cases q : beh m r l with
  | none => rfl
  | some a =>
    by_cases ha : a ∈ needed m
    · simp only [if_pos ha]
      rfl
    · simp only [if_neg ha]
      exact dead_text ok hr q ha t
theorem eqv_nxt {m : Mac} (ok : m.Ok) {r s l : Nat} (hr : r ∈ needed m) (hs : s ∈ needed m) (hl : l < 3) (h : EqvR m r s) : (nxtN m r l = none ∧ nxtN m s l = none) ∨ ∃ a b, nxtN m r l = some a ∧ nxtN m s l = some b ∧ EqvR m a b := by
  have e : ∀ t, (∀ x ∈ t, x < 3) → endB m (behL m r (l :: t)) = endB m (behL m s (l :: t)) := fun t ht => h (l :: t) fun x hx => by
    rcases List.mem_cons.mp hx with rfl | hx
    · exact hl
    · exact ht x hx
  simp only [end_cons ok hr, end_cons ok hs] at e
  cases q1 : nxtN m r l with
  | none =>
    cases q2 : nxtN m s l with
    | none => exact .inl ⟨rfl, rfl⟩
    | some b =>
      exfalso
      obtain ⟨t, ht, hb⟩ := leads_text ok (nxt_mem q2).1
      have := e t ht
      rw [q1, q2] at this
      simp only [hb] at this
      cases this
  | some a =>
    cases q2 : nxtN m s l with
    | none =>
      exfalso
      obtain ⟨t, ht, hb⟩ := leads_text ok (nxt_mem q1).1
      have := e t ht
      rw [q1, q2] at this
      simp only [hb] at this
      cases this
    | some b =>
      refine .inr ⟨a, b, rfl, rfl, fun t ht => ?_⟩
      have := e t ht
      rw [q1, q2] at this
      exact this
def sgE (m : Mac) (g : Nat → Nat) (r l : Nat) : Int := match nxtN m r l with
  | some a => ((g a : Nat) : Int)
  | none => -1
def sgn (m : Mac) (g : Nat → Nat) (r : Nat) : List Int := ((g r : Nat) : Int) :: (List.range 3).map (sgE m g r)
theorem sgn_iff {m : Mac} {g : Nat → Nat} {r s : Nat} : sgn m g r = sgn m g s ↔ g r = g s ∧ ∀ l, l < 3 → sgE m g r l = sgE m g s l := by
  unfold sgn
  constructor
  · intro h
    obtain ⟨h1, h2⟩ := List.cons.inj h
    refine ⟨by omega, fun l hl => ?_⟩
    have := congrArg (fun z => z[l]?) h2
    simpa [hl] using this
  · rintro ⟨h1, h2⟩
    rw [h1]
    refine congrArg _ (List.map_congr_left fun l hl => h2 l (List.mem_range.mp hl))
theorem sgE_iff {m : Mac} {g : Nat → Nat} {r s l : Nat} : sgE m g r l = sgE m g s l ↔ (nxtN m r l = none ∧ nxtN m s l = none) ∨ ∃ a b, nxtN m r l = some a ∧ nxtN m s l = some b ∧ g a = g b := by
  unfold sgE
  cases q1 : nxtN m r l with
  | none =>
    cases q2 : nxtN m s l with
    | none => exact ⟨fun _ => .inl ⟨rfl, rfl⟩, fun _ => rfl⟩
    | some b =>
      refine ⟨fun h => ?_, fun h => ?_⟩
      · exfalso
        have : (-1 : Int) = ((g b : Nat) : Int) := h
        omega
      · rcases h with ⟨_, h⟩ | ⟨a, b, h, _⟩ <;> cases h
  | some a =>
    cases q2 : nxtN m s l with
    | none =>
      refine ⟨fun h => ?_, fun h => ?_⟩
      · exfalso
        have : ((g a : Nat) : Int) = (-1 : Int) := h
        omega
      · rcases h with ⟨h, _⟩ | ⟨a, b, _, h, _⟩ <;> cases h
    | some b =>
      refine ⟨fun h => .inr ⟨a, b, rfl, rfl, ?_⟩, fun h => ?_⟩
      · have : ((g a : Nat) : Int) = ((g b : Nat) : Int) := h
        omega
      · rcases h with ⟨h, _⟩ | ⟨a', b', h1, h2, h3⟩
        · cases h
        · cases h1
          cases h2
          show ((g a : Nat) : Int) = ((g b : Nat) : Int)
          rw [h3]
structure GrI (m : Mac) (g : Nat → Nat) : Prop where
  a : ∀ r ∈ needed m, ∀ s ∈ needed m, EqvR m r s → g r = g s
  b : ∀ r ∈ needed m, ∀ s ∈ needed m, g r = g s → (r ∈ m.last ↔ s ∈ m.last)
  c : ∀ r ∈ needed m, g r < 100
theorem eqv_sgn {m : Mac} (ok : m.Ok) {g : Nat → Nat} (h : GrI m g) {r s : Nat} (hr : r ∈ needed m) (hs : s ∈ needed m) (e : EqvR m r s) : sgn m g r = sgn m g s := by
  refine sgn_iff.mpr ⟨h.a r hr s hs e, fun l hl => sgE_iff.mpr ?_⟩
  rcases eqv_nxt ok hr hs hl e with q | ⟨a, b, h1, h2, h3⟩
  · exact .inl q
  · exact .inr ⟨a, b, h1, h2, h.a a (nxt_mem h1).1 b (nxt_mem h2).1 h3⟩
theorem stable_eqv {m : Mac} (ok : m.Ok) {g : Nat → Nat} (h : GrI m g) (st : ∀ r ∈ needed m, ∀ s ∈ needed m, g r = g s → sgn m g r = sgn m g s) : ∀ (t : List Nat), (∀ x ∈ t, x < 3) → ∀ r ∈ needed m, ∀ s ∈ needed m, g r = g s → endB m (behL m r t) = endB m (behL m s t)
  | [], _, r, hr, s, hs, e => by
    show decide (r ∈ m.last) = decide (s ∈ m.last)
    exact decide_eq_decide.mpr (h.b r hr s hs e)
  | l :: t, ht, r, hr, s, hs, e => by
    rw [end_cons ok hr, end_cons ok hs]
    rcases sgE_iff.mp ((sgn_iff.mp (st r hr s hs e)).2 l (ht l List.mem_cons_self)) with ⟨q1, q2⟩ | ⟨a, b, q1, q2, q3⟩
    · rw [q1, q2]
    · rw [q1, q2]
      exact stable_eqv ok h st t (fun x hx => ht x (List.mem_cons_of_mem _ hx)) a (nxt_mem q1).1 b (nxt_mem q2).1 q3
/-- the classes: what the dict of the numbers holds -/
abbrev nkey (n : Nat) : Key := Sum.inl ((n : Nat) : Int)
theorem nkey_inj {a b : Nat} (h : nkey a = nkey b) : a = b := by
  injection h with h
  omega
abbrev clE (m : Mac) (g : Nat → Nat) : List (Key × D) := dispE ((needed m).map fun r => (nkey (g r), .bl true))
theorem cl_keys (m : Mac) (g : Nat → Nat) : ((clE m g).map (·.1)).Nodup ∧ ∀ k, k ∈ (clE m g).map (·.1) ↔ ∃ r ∈ needed m, k = nkey (g r) := by
  obtain ⟨h1, h2⟩ := fill_keys ((needed m).map fun r => (nkey (g r), D.bl true)) [] List.nodup_nil
  refine ⟨h1, fun k => (h2 k).trans ?_⟩
  constructor
  · rintro (h | h)
    · cases h
    · rw [List.map_map] at h
      obtain ⟨r, hr, e⟩ := List.mem_map.mp h
      exact ⟨r, hr, e.symm⟩
  · rintro ⟨r, hr, e⟩
    rw [List.map_map]
    exact .inr (List.mem_map.mpr ⟨r, hr, e.symm⟩)
theorem cl_len (m : Mac) (g : Nat → Nat) : (clE m g).length ≤ (needed m).length := by
  have := fill_len ((needed m).map fun r => (nkey (g r), D.bl true)) []
  rw [List.length_map, List.length_nil, Nat.zero_add] at this
  exact this
theorem cl_pos {m : Mac} {g : Nat → Nat} {r : Nat} (h : r ∈ needed m) : 0 < (clE m g).length := by
  have := ((cl_keys m g).2 (nkey (g r))).mpr ⟨r, h, rfl⟩
  have := List.length_pos_of_mem this
  rwa [List.length_map] at this
theorem nodup_lt {α : Type} [DecidableEq α] {l k : List α} {x : α} (φ : α → α) (nd : l.Nodup) (hx : x ∈ k) (h : ∀ a ∈ l, ∃ b ∈ k, b ≠ x ∧ φ b = a) : l.length < k.length := by
  have h2 := nodup_leG (k := (k.erase x).map φ) nd fun a ha => by
    obtain ⟨b, hb, ne, e⟩ := h a ha
    exact List.mem_map.mpr ⟨b, (List.mem_erase_of_ne ne).mpr hb, e⟩
  rw [List.length_map, List.length_erase_of_mem hx] at h2
  have := List.length_pos_of_mem hx
  omega
theorem cl_same {m : Mac} {g g' : Nat → Nat} (h : ∀ r ∈ needed m, ∀ s ∈ needed m, g' r = g' s → g r = g s) (hl : (clE m g').length ≤ (clE m g).length) : ∀ r ∈ needed m, ∀ s ∈ needed m, g r = g s → g' r = g' s := by
  intro r hr s hs e
  refine Decidable.byContradiction fun ne => ?_
  obtain ⟨n1, k1⟩ := cl_keys m g
  obtain ⟨n2, k2⟩ := cl_keys m g'
  let φ : Key → Key := fun k => match (needed m).find? (fun x => decide (nkey (g' x) = k)) with
    | some x => nkey (g x)
    | none => k
  have hφ : ∀ x ∈ needed m, φ (nkey (g' x)) = nkey (g x) := by
    intro x hx
    show (match (needed m).find? (fun y => decide (nkey (g' y) = nkey (g' x))) with | some x => nkey (g x) | none => _) = _
    cases q : (needed m).find? (fun y => decide (nkey (g' y) = nkey (g' x))) with
    | none => exact absurd (decide_eq_true rfl) (List.find?_eq_none.mp q x hx)
    | some y =>
      have hy := List.mem_of_find?_eq_some q
      have e1 : nkey (g' y) = nkey (g' x) := by
        have := List.find?_some q
        exact of_decide_eq_true this
      show nkey (g y) = nkey (g x)
      rw [h y hy x hx (nkey_inj e1)]
  have hm : nkey (g' r) ∈ (clE m g').map (·.1) := (k2 _).mpr ⟨r, hr, rfl⟩
  have := nodup_lt φ n1 hm fun k hk => by
    obtain ⟨x, hx, rfl⟩ := (k1 k).mp hk
    by_cases q : g' x = g' r
    · exact ⟨nkey (g' s), (k2 _).mpr ⟨s, hs, rfl⟩, fun z => ne (nkey_inj z).symm, by rw [hφ s hs, ← e, h x hx r hr q]⟩
    · exact ⟨nkey (g' x), (k2 _).mpr ⟨x, hx, rfl⟩, fun z => q (nkey_inj z), hφ x hx⟩
  rw [List.length_map, List.length_map] at this
  omega
theorem grp_done {m : Mac} (ok : m.Ok) {g : Nat → Nat} {k : Nat} (h : GrI m g) (hk : k = 0 ∨ ∃ gp, k = (clE m gp).length ∧ ∀ r ∈ needed m, ∀ s ∈ needed m, (g r = g s ↔ sgn m gp r = sgn m gp s)) (hn : ¬ k < (clE m g).length) : ∀ r ∈ needed m, ∀ s ∈ needed m, (g r = g s ↔ EqvR m r s) := by
  intro r hr s hs
  refine ⟨fun e t ht => ?_, fun e => h.a r hr s hs e⟩
  rcases hk with hk | ⟨gp, hk, hg⟩
  · have := cl_pos (g := g) hr
    omega
  · have down : ∀ r ∈ needed m, ∀ s ∈ needed m, g r = g s → gp r = gp s := fun r hr s hs e => (sgn_iff.mp ((hg r hr s hs).mp e)).1
    have up := cl_same down (by omega)
    refine stable_eqv ok h (fun r hr s hs e => sgn_iff.mpr ⟨e, fun l hl => sgE_iff.mpr ?_⟩) t ht r hr s hs e
    rcases sgE_iff.mp ((sgn_iff.mp ((hg r hr s hs).mp e)).2 l hl) with q | ⟨a, b, q1, q2, q3⟩
    · exact .inl q
    · exact .inr ⟨a, b, q1, q2, up a (nxt_mem q1).1 b (nxt_mem q2).1 q3⟩
/-- the numbers of the next turn: places in the list of the signs -/
def nextG (m : Mac) (g : Nat → Nat) (es : List (List Int)) (r : Nat) : Nat := es.idxOf (sgn m g r)
theorem idx_inj {es : List (List Int)} {a b : List Int} (ha : a ∈ es) (h : es.idxOf a = es.idxOf b) : a = b := by
  have h1 := List.idxOf_lt_length_of_mem ha
  have h2 : es.idxOf b < es.length := by rw [← h]; exact h1
  have e1 := List.getElem_idxOf h1
  have e2 := List.getElem_idxOf h2
  rw [← e1, ← e2]
  simp only [h]
theorem next_iff {m : Mac} {g : Nat → Nat} {es : List (List Int)} (hm : ∀ r ∈ needed m, sgn m g r ∈ es) : ∀ r ∈ needed m, ∀ s ∈ needed m, (nextG m g es r = nextG m g es s ↔ sgn m g r = sgn m g s) := fun r hr s _ => ⟨fun h => idx_inj (hm r hr) h, fun h => by unfold nextG; rw [h]⟩
theorem next_inv {m : Mac} (ok : m.Ok) {g : Nat → Nat} {es : List (List Int)} (h : GrI m g) (hm : ∀ r ∈ needed m, sgn m g r ∈ es) (hl : es.length < 64) : GrI m (nextG m g es) := by
  have ni := next_iff hm
  refine ⟨fun r hr s hs e => (ni r hr s hs).mpr (eqv_sgn ok h hr hs e), fun r hr s hs e => h.b r hr s hs (sgn_iff.mp ((ni r hr s hs).mp e)).1, fun r hr => ?_⟩
  have := List.idxOf_lt_length_of_mem (hm r hr)
  show es.idxOf (sgn m g r) < 100
  omega
def startG (m : Mac) (r : Nat) : Nat := if r ∈ m.last then 1 else 0
theorem start_inv (m : Mac) : GrI m (startG m) := by
  refine ⟨fun r hr s hs e => ?_, fun r hr s hs e => ?_, fun r hr => ?_⟩
  · have := e [] (fun _ h => nomatch h)
    have h2 : decide (r ∈ m.last) = decide (s ∈ m.last) := this
    have h3 := decide_eq_decide.mp h2
    unfold startG
    simp only [h3]
  · unfold startG at e
    by_cases h1 : r ∈ m.last
    · by_cases h2 : s ∈ m.last
      · exact ⟨fun _ => h2, fun _ => h1⟩
      · rw [if_pos h1, if_neg h2] at e; cases e
    · by_cases h2 : s ∈ m.last
      · rw [if_neg h1, if_pos h2] at e; cases e
      · exact ⟨fun z => absurd z h1, fun z => absurd z h2⟩
  · unfold startG
    split <;> omega
/-- the keys of the dict of the signs -/
abbrev sgL (m : Mac) (g : Nat → Nat) : List (List Key × D) := fillE ((needed m).map fun r => (isK (sgn m g r), .bl true)) []
def unK (k : List Key) : List Int := k.map fun k => match k with
  | .inl i => i
  | .inr _ => 0
theorem unK_is (e : List Int) : unK (isK e) = e := by
  unfold unK
  rw [List.map_map]
  exact List.map_id _
theorem sg_keys (m : Mac) (g : Nat → Nat) : ∃ es : List (List Int), (sgL m g).map (·.1) = es.map isK ∧ es.length ≤ (needed m).length ∧ ∀ e, e ∈ es ↔ ∃ r ∈ needed m, e = sgn m g r := by
  obtain ⟨h1, h2⟩ := fill_keys ((needed m).map fun r => (isK (sgn m g r), D.bl true)) [] List.nodup_nil
  have h3 : ∀ k ∈ (sgL m g).map (·.1), ∃ r ∈ needed m, k = isK (sgn m g r) := by
    intro k hk
    rcases (h2 k).mp hk with h | h
    · cases h
    · rw [List.map_map] at h
      obtain ⟨r, hr, e⟩ := List.mem_map.mp h
      exact ⟨r, hr, e.symm⟩
  refine ⟨((sgL m g).map (·.1)).map unK, ?_, ?_, fun e => ⟨fun he => ?_, fun ⟨r, hr, he⟩ => ?_⟩⟩
  · rw [List.map_map]
    refine ((List.map_congr_left fun k hk => ?_).trans (List.map_id _)).symm
    obtain ⟨r, _, e⟩ := h3 k hk
    show isK (unK k) = k
    rw [e, unK_is]
  · have := fill_len ((needed m).map fun r => (isK (sgn m g r), D.bl true)) []
    rw [List.length_map, List.length_nil, Nat.zero_add] at this
    rw [List.length_map, List.length_map]
    exact this
  · obtain ⟨k, hk, e2⟩ := List.mem_map.mp he
    obtain ⟨r, hr, e3⟩ := h3 k hk
    exact ⟨r, hr, by rw [← e2, e3, unK_is]⟩
  · refine List.mem_map.mpr ⟨isK (sgn m g r), (h2 _).mpr (.inr ?_), by rw [unK_is, he]⟩
    rw [List.map_map]
    exact List.mem_map.mpr ⟨r, hr, rfl⟩
theorem sgn_bd {m : Mac} {g : Nat → Nat} (h : GrI m g) {r : Nat} (hr : r ∈ needed m) : (sgn m g r).length = 3 + 1 ∧ TS.Bd 102 (addO (sgn m g r)) := by
  refine ⟨by unfold sgn; rw [List.length_cons, List.length_map, List.length_range], fun x hx => ?_⟩
  obtain ⟨y, hy, rfl⟩ := List.mem_map.mp hx
  rcases List.mem_cons.mp hy with rfl | hy
  · have := h.c r hr
    omega
  · obtain ⟨l, _, rfl⟩ := List.mem_map.mp hy
    unfold sgE
    cases q : nxtN m r l with
    | none =>
      show 0 ≤ (-1 : Int) + 1 ∧ (-1 : Int) + 1 < 102
      exact ⟨by decide, by decide⟩
    | some a =>
      have := h.c a (nxt_mem q).1
      show 0 ≤ ((g a : Nat) : Int) + 1 ∧ ((g a : Nat) : Int) + 1 < 102
      omega
end
end Rk01
open PySem L2 TL
namespace Rk01
section
variable {P : Program} {w : World} {K : PySem.W.Frag} {mg : Str → Option Value} {base : Heap}
theorem needed_nd (m : Mac) : (needed m).Nodup := (List.nodup_range.filter _).filter _
theorem needed_lt {m : Mac} {r : Nat} (h : r ∈ needed m) : r < m.tab.length := List.mem_range.mp (List.mem_filter.mp (List.mem_filter.mp h).1).1
theorem needed_len (m : Mac) : (needed m).length ≤ m.tab.length := nodup_bd _ _ (needed_nd m) fun _ h => needed_lt h
abbrev grpD (m : Mac) (g : Nat → Nat) : D := .dK ((needed m).map fun r => (nkey r, nD (g r)))
theorem grp_val (m : Mac) (g : Nat → Nat) (a : Nat) : valD ((needed m).map fun r => (nkey r, nD (g r))) (nkey a) = if a ∈ needed m then some (nD (g a)) else none := by
  have e : ((needed m).map fun r => (nkey r, nD (g r))) = ikD (fun n : Nat => nD n) ((needed m).map fun r => (r, g r)) := by
    rw [ikD, List.map_map]
    rfl
  rw [e, valD_ik]
  have ek : ((needed m).map fun r => (r, g r)).map (·.1) = needed m := by
    rw [List.map_map]
    exact List.map_id _
  by_cases h : a ∈ needed m
  · rw [if_pos h]
    have nd : (((needed m).map fun r => (r, g r)).map (·.1)).Nodup := by rw [ek]; exact needed_nd m
    rw [lookup_mem nd (List.mem_map.mpr ⟨a, h, rfl⟩)]
    rfl
  · rw [if_neg h]
    rw [lookup_none.mpr (by rw [ek]; exact h)]
    rfl
def spSignOf (Cr : Addr) : Prm := fun ds L KK KE => ∃ (m : Mac) (g : Nat → Nat) (r : Nat), ds = [macR Cr m, grpD m g, nD r] ∧ m.Ok ∧ r ∈ needed m ∧ L = [] ∧ KK (intsD (sgn m g r)) []
theorem ok_sign_of {f Cr : Addr} {fd : FuncData} (FF : Fun K "sign_of" "sign_of" s_sign_of f fd) (B : Bi mg) (gL : GTup K mg "LETTERS" letV) (cR : Cls K Cr) (m1 : Mth P w K mg base Cr "behind" ["self", "row", "letter"] (spBehind Cr) 1) : Def P w K mg base 2 f fd ["reader", "groups", "row"] (spSignOf Cr) := by
  refine def_ok FF sc_sign_of ?_ ?_
  · rintro ds L KK KE ⟨m, g, r, rfl, _⟩
    rfl
  · rintro ds L KK KE ⟨m, g, r, rfl, hok, hr, rfl, hk⟩ H0 F0
    wtm_at "bg"
    have hrl : r < m.tab.length := List.mem_range.mp (List.mem_filter.mp (List.mem_filter.mp hr).1).1
    refine run_set (by wtm_at "loc") (by wtm_at "mem") (ev_lst ?_)
    wtm_at "ea"
    refine ix_K (k := nkey r) rfl .frz (d := nD (g r)) (by rw [grp_val, if_pos hr]) ?_
    wtm_at "ea"
    refine ⟨Nat.le_of_ble_eq_true rfl, fun pf => ?_⟩
    refine ⟨_, by wtm_at "pt", ?_⟩
    refine run_for rfl rfl (ei_tup ?_)
    wtm_at "ea"
    refine ⟨_, rfl, ?_⟩
    refine for_map (List.range 3) (fun l => .str (letS l)) let_range (fun l G' L' => ∃ b c : Option D, G' = [some (macR Cr m), some (grpD m g), some (nD r), some (.ref pf), b, c] ∧ L' = [(pf, .lst ((((g r : Nat) : Int) :: (List.range l).map (sgE m g r)).map D.int))]) ⟨_, _, rfl, rfl⟩ (fun _ _ _ _ _ h => (nomatch h)) ?_ ?_
    · rintro F1 l x G' L' hx hlt2 ⟨b, c, rfl, rfl⟩
      rw [List.length_range] at hlt2
      obtain ⟨_, ey⟩ := List.getElem?_eq_some_iff.mp hx
      rw [List.getElem_range] at ey
      subst ey
      have nx : ∀ i : Int, i = sgE m g r l → ((((g r : Nat) : Int) :: (List.range l).map (sgE m g r)).map D.int) ++ [.int i] = (((g r : Nat) : Int) :: (List.range (l + 1)).map (sgE m g r)).map D.int := by
        intro i hi
        rw [List.range_succ, List.map_append, ← List.cons_append, List.map_append, hi]
        rfl
      refine tgt_name (by wtm_at "loc") (by wtm_at "pt") ?_
      refine run_set (by wtm_at "loc") (by wtm_at "mem") ?_
      wtm_at "ea"
      refine calls0 ⟨m, some r, l, rfl, hlt2, hok.len, fun x hx => by cases hx; exact hrl, rfl, ?_⟩
      refine ⟨_, by wtm_at "pt", ?_⟩
      show TL.Run _ [some (macR Cr m), some (grpD m g), some (nD r), some (.ref pf), some (.str (letS l)), some (optN (beh m r l))] _ _ _
      refine run_expr (ev_append ?_)
      wtm_at "ea"
      refine ⟨pf, _, rfl, .head _, ?_⟩
      refine ev_if ?_
      refine tst_cmp ?_
      wtm_at "ea"
      cases hb : beh m r l with
      | none =>
        have en : nxtN m r l = none := by unfold nxtN; rw [hb]
        refine op_inKn .frz ?_
        refine ⟨false, rfl, (fun q => nomatch q), fun _ => ?_⟩
        refine ev_un ?_
        wtm_at "ea"
        refine op_negI ?_
        refine ⟨_, _, .here, by rw [List.length_map, List.length_cons, List.length_map, List.length_range]; exact sz_lt (by omega), ?_⟩
        refine run_nil ⟨_, _, rfl, ?_⟩
        rw [nx (-1) (by unfold sgE; rw [en])]
      | some a =>
        refine op_inK (k := nkey a) rfl .frz ?_
        rw [grp_val]
        by_cases ha : a ∈ needed m
        · have en : nxtN m r l = some a := by unfold nxtN; rw [hb]; simp only [if_pos ha]
          rw [if_pos ha]
          refine ⟨true, rfl, fun _ => ?_, (fun q => nomatch q)⟩
          wtm_at "ea"
          refine ix_K (k := nkey a) rfl .frz (d := nD (g a)) (by rw [grp_val, if_pos ha]) ?_
          refine ⟨_, _, .here, by rw [List.length_map, List.length_cons, List.length_map, List.length_range]; exact sz_lt (by omega), ?_⟩
          refine run_nil ⟨_, _, rfl, ?_⟩
          rw [nx _ (by unfold sgE; rw [en])]
        · have en : nxtN m r l = none := by unfold nxtN; rw [hb]; simp only [if_neg ha]
          rw [if_neg ha]
          refine ⟨false, rfl, (fun q => nomatch q), fun _ => ?_⟩
          refine ev_un ?_
          wtm_at "ea"
          refine op_negI ?_
          refine ⟨_, _, .here, by rw [List.length_map, List.length_cons, List.length_map, List.length_range]; exact sz_lt (by omega), ?_⟩
          refine run_nil ⟨_, _, rfl, ?_⟩
          rw [nx (-1) (by unfold sgE; rw [en])]
    · rintro G' L' ⟨b, c, rfl, rfl⟩
      rw [List.length_range]
      refine run_ret (ev_drop ?_)
      wtm_at "ea"
      exact ⟨[], .cons _ .slnil, hk⟩
end
end Rk01
open PySem L2 TL
namespace Rk01
section
variable {P : Program} {w : World} {K : PySem.W.Frag} {mg : Str → Option Value} {base : Heap}
abbrev pyI (e : List Int) : PyData := .tuple (e.map PyData.int)
theorem pyI_can : ∀ e : List Int, PyData.canLayAll0 (e.map PyData.int) = true ∧ PyData.depthAll (e.map PyData.int) ≤ 0
  | [] => ⟨by simp [PyData.canLayAll0], by simp [PyData.depthAll]⟩
  | x :: e => by
    obtain ⟨a, b⟩ := pyI_can e
    exact ⟨by simp [PyData.canLayAll0, PyData.canLay0, a], by simp [PyData.depthAll, PyData.depth]; omega⟩
theorem pyI_shp (e : List Int) : SeqAt.shaped (pyI e) = true := by
  obtain ⟨a, b⟩ := pyI_can e
  unfold SeqAt.shaped
  simp [PyData.canLay0, PyData.depth, a]
  omega
theorem pyIs_can : ∀ es : List (List Int), PyData.canLayAll0 (es.map pyI) = true ∧ PyData.depthAll (es.map pyI) ≤ 1
  | [] => ⟨by simp [PyData.canLayAll0], by simp [PyData.depthAll]⟩
  | e :: es => by
    obtain ⟨a, b⟩ := pyIs_can es
    obtain ⟨c, d⟩ := pyI_can e
    exact ⟨by simp [PyData.canLayAll0, PyData.canLay0, a, c], by simp [PyData.depthAll, PyData.depth]; omega⟩
theorem pyIs_shp (es : List (List Int)) : SeqAt.shaped (.list (es.map pyI)) = true := by
  obtain ⟨a, b⟩ := pyIs_can es
  unfold SeqAt.shaped
  simp [PyData.canLay0, PyData.depth, a]
  omega
theorem pyI_eqv : ∀ a b : List Int, PyData.eqvAll (a.map PyData.int) (b.map PyData.int) = decide (a = b)
  | [], [] => by simp [PyData.eqvAll]
  | [], _ :: _ => by simp [PyData.eqvAll]
  | _ :: _, [] => by simp [PyData.eqvAll]
  | x :: a, y :: b => by
    have ih := pyI_eqv a b
    simp only [List.map_cons, PyData.eqvAll, PyData.eqv, ih]
    by_cases h : x = y
    · subst h
      simp
    · simp [h]
theorem pyI_eqv2 (a b : List Int) : PyData.eqv (pyI a) (pyI b) = decide (a = b) := by
  show PyData.eqv (.tuple _) (.tuple _) = _
  rw [← pyI_eqv]
  simp only [PyData.eqv]
theorem pyI_of {L : Led} (e : List Int) : PyAll L (e.map D.int) (e.map PyData.int) := by
  induction e with
  | nil => exact .nil
  | cons x e ih => exact .cons (.v rfl) ih
theorem pyIs_of {L : Led} (es : List (List Int)) : PyAll L (es.map intsD) (es.map pyI) := by
  induction es with
  | nil => exact .nil
  | cons x e ih => exact .cons (.tup (pyI_of x)) ih
theorem idx_ne {es : List (List Int)} {a : List Int} {j : Nat} (h : j < es.idxOf a) (hj : j < es.length) : es[j] ≠ a := by
  intro q
  have := List.not_of_lt_findIdx (p := (· == a)) (xs := es) h
  rw [q] at this
  simp at this
theorem kD_isK (e : List Int) : D.tup (kD (isK e)) = intsD e := by
  show D.tup (List.map _ (List.map _ _)) = _
  rw [List.map_map]
  rfl
theorem wrap_keys (m : Mac) (g : Nat → Nat) : keysD ((needed m).map fun r => (nkey r, nD (g r))) = (needed m).map nD := by
  show List.map _ (List.map _ _) = _
  rw [List.map_map]
  rfl
def spGrouped (Cr : Addr) : Prm := fun ds L KK KE => ∃ m : Mac, ds = [macR Cr m, .tup ((needed m).map nD)] ∧ m.Ok ∧ m.tab.length ≤ 8 ∧ L = [] ∧ ∀ g : Nat → Nat, GrI m g → (∀ r ∈ needed m, ∀ s ∈ needed m, (g r = g s ↔ EqvR m r s)) → KK (grpD m g) []
theorem ok_grouped {f Cr : Addr} {fd : FuncData} (FF : Fun K "grouped" "grouped" s_grouped f fd) (B : Bi mg) (cR : Cls K Cr) (nL : NoAttr K Cr "last") (g1 : Glob P w K mg base "sign_of" ["reader", "groups", "row"] (spSignOf Cr) 2) : Def P w K mg base 3 f fd ["reader", "rows"] (spGrouped Cr) := by
  refine def_ok FF sc_grouped ?_ ?_
  · rintro ds L KK KE ⟨m, rfl, _⟩
    rfl
  · rintro ds L KK KE ⟨m, rfl, hok, h8, rfl, hk⟩ H0 F0
    wtm_at "bg"
    have hnl := needed_len m
    have hnd := needed_nd m
    have flr : (m.last.map nD).all flatD = true := by
      rw [List.all_map]
      exact List.all_eq_true.mpr fun _ _ => rfl
    have ft : ((needed m).filter fun _ => true) = needed m := List.filter_eq_self.mpr fun _ _ => rfl
    have nd2 : ∀ g : Nat → Nat, ((((needed m).filter fun _ => true).map fun r => (nkey r, nD (g r))).map (·.1)).Nodup := by
      intro g
      rw [ft, List.map_map]
      exact hnd.map (f := fun r => nkey r) (fun a b ne q => ne (nkey_inj q))
    refine run_setC (by kernel_rfl) rfl (by wtm_at "mem") (ev_dc [("row", 6)] rfl (by kernel_rfl) (ei_tup ?_)) (fun _ h => sw_cellD h)
    wtm_at "ea"
    refine ⟨_, rfl, ?_⟩
    refine dc_map (needed m) nD (fun r => (nkey r, nD (startG m r))) (fun _ => true) rfl (sz_lt (by omega)) (fun _ q => (nomatch q)) ?_ ?_
    · intro F1 Dl r acc hr
      refine tn_name (i := 6) (by wtm_at "loc") rfl (List.mem_singleton.mpr rfl) ?_
      wtm_at "wz"
      refine ⟨rfl, List.Sublist.refl _, fun _ => ?_⟩
      wtm_at "ea"
      refine op_inQ .tup rfl flr ?_
      rw [show inD (nV r) (m.last.map nD) = decide (r ∈ m.last) from in_rows (some r) m.last]
      wtm_at "ea"
      refine cv_intB ?_
      refine ⟨rfl, ?_, List.Sublist.refl _⟩
      unfold startG
      by_cases h : r ∈ m.last
      · rw [decide_eq_true h, if_pos h]; rfl
      · rw [decide_eq_false h, if_neg h]; rfl
    intro pg
    rw [dispE_nodup (nd2 _), ft]
    refine ⟨_, by wtm_at "pt", ?_⟩
    refine run_frz (x := "groups") (by wtm_at "lk") .here (by wtm_at "pt") ?_
    refine run_set (by wtm_at "loc") (by wtm_at "mem") ?_
    wtm_at "ea"
    refine ⟨_, by wtm_at "pt", ?_⟩
    refine run_while rfl (fun n G' L' => ∃ (b c : Option D) (k : Nat) (g : Nat → Nat), G' = [some (macR Cr m), some (.tup ((needed m).map nD)), some (grpD m g), some (nD k), b, c, none] ∧ L' = [] ∧ GrI m g ∧ (k = 0 ∨ ∃ gp, k = (clE m gp).length ∧ ∀ r ∈ needed m, ∀ s ∈ needed m, (g r = g s ↔ sgn m gp r = sgn m gp s)) ∧ n + k = 8 + 1)
      (8 + 1) ⟨_, _, 0, startG m, rfl, rfl, start_inv m, .inl rfl, rfl⟩ ?_
    rintro n G' L' ⟨b, c, k, g, rfl, rfl, gi, hist, hn⟩
    refine tst_cmp ?_
    wtm_at "ea"
    refine ev_dcK [("row", 6)] rfl (by kernel_rfl) (path_name (by wtm_at "lk") (by wtm_at "vis") (by kernel_rfl) (by kernel_rfl)) fun H1 F1 => ?_
    refine dc_map (needed m) nD (fun r => (nkey (g r), .bl true)) (fun _ => true) (wrap_keys m g) (sz_lt (by omega)) (fun _ q => (nomatch q)) ?_ ?_
    · intro F2 Dl r acc hr
      refine tn_name (i := 6) (by wtm_at "loc") rfl (List.mem_singleton.mpr rfl) ?_
      wtm_at "wz"
      refine ⟨rfl, List.Sublist.refl _, fun _ => ?_⟩
      wtm_at "ea"
      refine ix_K (k := nkey r) rfl .frz (d := nD (g r)) (by rw [grp_val, if_pos hr]) ?_
      wtm_at "ea"
      exact ⟨rfl, rfl, List.Sublist.refl _⟩
    intro Dl
    rw [ft]
    wtm_at "ea"
    have hcl := cl_len m g
    refine op_ltI ?_
    by_cases hlt : k < (clE m g).length
    · rw [decide_eq_true (show ((k : Nat) : Int) < (((clE m g).length : Nat) : Int) by omega)]
      refine ⟨true, rfl, fun _ => ?_, (fun q => nomatch q)⟩
      refine run_drop (List.sublist_cons_self _ _) ?_
      refine run_set (by wtm_at "loc") (by wtm_at "mem") ?_
      wtm_at "ea"
      refine ev_dcK [("row", 6)] rfl (by kernel_rfl) (path_name (by wtm_at "lk") (by wtm_at "vis") (by kernel_rfl) (by kernel_rfl)) fun H1 F1 => ?_
      refine dc_map (needed m) nD (fun r => (nkey (g r), .bl true)) (fun _ => true) (wrap_keys m g) (sz_lt (by omega)) (fun _ q => (nomatch q)) ?_ ?_
      · intro F2 Dl r acc hr
        refine tn_name (i := 6) (by wtm_at "loc") rfl (List.mem_singleton.mpr rfl) ?_
        wtm_at "wz"
        refine ⟨rfl, List.Sublist.refl _, fun _ => ?_⟩
        wtm_at "ea"
        refine ix_K (k := nkey r) rfl .frz (d := nD (g r)) (by rw [grp_val, if_pos hr]) ?_
        wtm_at "ea"
        exact ⟨rfl, rfl, List.Sublist.refl _⟩
      intro Dl
      rw [ft]
      wtm_at "ea"
      refine ⟨_, by wtm_at "pt", ?_⟩
      refine run_drop (List.sublist_cons_self _ _) ?_
      refine run_setC (by kernel_rfl) rfl (by wtm_at "mem") (ev_dc [("row", 6)] rfl (by kernel_rfl) (ei_tup ?_)) (fun _ h => sw_cellD h)
      wtm_at "ea"
      refine ⟨_, rfl, ?_⟩
      refine dc_map (needed m) nD (fun r => (nkey r, intsD (sgn m g r))) (fun _ => true) rfl (sz_lt (by omega)) (fun _ q => (nomatch q)) ?_ ?_
      · intro F1 Dl r acc hr
        refine tn_name (i := 6) (by wtm_at "loc") rfl (List.mem_singleton.mpr rfl) ?_
        wtm_at "wz"
        refine ⟨rfl, List.Sublist.refl _, fun _ => ?_⟩
        wtm_at "ea"
        exact calls0 ⟨m, g, r, rfl, hok, hr, rfl, rfl, rfl, List.Sublist.refl _⟩
      intro pz
      have nd3 : ((((needed m).filter fun _ => true).map fun r => (nkey r, intsD (sgn m g r))).map (·.1)).Nodup := by
        rw [ft, List.map_map]
        exact hnd.map (f := fun r => nkey r) (fun a b ne q => ne (nkey_inj q))
      have vs : ∀ r ∈ needed m, valD ((needed m).map fun r => (nkey r, intsD (sgn m g r))) (nkey r) = some (intsD (sgn m g r)) := by
        intro r hr
        have e : ((needed m).map fun r => (nkey r, intsD (sgn m g r))) = ikD (fun z : List Int => intsD z) ((needed m).map fun r => (r, sgn m g r)) := by
          rw [ikD, List.map_map]
          rfl
        have nd : (((needed m).map fun r => (r, sgn m g r)).map (·.1)).Nodup := by
          rw [List.map_map]
          exact (List.map_id (needed m)).symm ▸ hnd
        rw [e, valD_ik, lookup_mem nd (List.mem_map.mpr ⟨r, hr, rfl⟩)]
        rfl
      rw [dispE_nodup nd3, ft]
      refine ⟨_, by wtm_at "pt", ?_⟩
      refine run_frz (x := "signs") (by wtm_at "lk") .here (by wtm_at "pt") ?_
      refine run_setC (by kernel_rfl) rfl (by wtm_at "mem") ?_ (fun _ _ => rfl)
      wtm_at "ea"
      refine ev_dct [("row", 6)] rfl (by kernel_rfl) (ei_tup ?_)
      wtm_at "ea"
      refine ⟨_, rfl, ?_⟩
      refine dct_dup (needed m) nD (fun r => (isK (sgn m g r), .bl true)) rfl (sz_lt (by omega)) (fun _ q => (nomatch q)) ?_ ?_
      · intro F1 Dl r acc hr
        refine tn_name (i := 6) (by wtm_at "loc") rfl (List.mem_singleton.mpr rfl) ?_
        wtm_at "wz"
        wtm_at "ea"
        refine ix_K (k := nkey r) rfl .frz (vs r hr) ?_
        wtm_at "ea"
        exact ⟨(kD_isK _).symm, rfl, List.Sublist.refl _⟩
      intro Dl
      obtain ⟨es, ek, el, em⟩ := sg_keys m g
      wtm_at "ea"
      refine cv_sortedU (B := 102) (d := 3) rfl (.own (.head _)) ek (by omega) (fun e he => ?_) fun ps es' pm => ?_
      · obtain ⟨r, hr, rfl⟩ := (em e).mp he
        exact sgn_bd gi hr
      have em' : ∀ r ∈ needed m, sgn m g r ∈ es' := fun r hr => pm.mem_iff.mpr ((em _).mpr ⟨r, hr, rfl⟩)
      have el' : es'.length ≤ 8 := by rw [pm.length_eq]; omega
      refine ⟨_, by wtm_at "pt", ?_⟩
      refine run_drop (.cons₂ _ (.cons _ .slnil)) ?_
      refine run_frz (x := "order") (by wtm_at "lk") .here (by wtm_at "pt") ?_
      refine run_setC (by kernel_rfl) rfl (by wtm_at "mem") (ev_dc [("row", 6)] rfl (by kernel_rfl) (ei_tup ?_)) (fun _ h => sw_cellD h)
      wtm_at "ea"
      refine ⟨_, rfl, ?_⟩
      refine dc_map (needed m) nD (fun r => (nkey r, nD (nextG m g es' r))) (fun _ => true) rfl (sz_lt (by omega)) (fun _ q => (nomatch q)) ?_ ?_
      · intro F1 Dl r acc hr
        refine tn_name (i := 6) (by wtm_at "loc") rfl (List.mem_singleton.mpr rfl) ?_
        wtm_at "wz"
        refine ⟨rfl, List.Sublist.refl _, fun _ => ?_⟩
        wtm_at "ea"
        refine ev_indexD rfl ?_
        wtm_at "ea"
        refine ⟨_, .frz, ?_⟩
        wtm_at "ea"
        refine ix_K (k := nkey r) rfl .frz (vs r hr) ?_
        have hil := List.idxOf_lt_length_of_mem (em' r hr)
        refine ⟨pyI (sgn m g r), es'.map pyI, nextG m g es' r, pyI (sgn m g r), .lst .frz (pyIs_of es'), .tup (pyI_of _), pyIs_shp _, pyI_shp _, ?_, SeqAt.eqv_refl _ (SeqAt.canLay_of_shaped (pyI_shp _)), fun j z' hj hz' => ?_, ?_⟩
        · show (es'.map pyI)[es'.idxOf (sgn m g r)]? = _
          rw [List.getElem?_map, List.getElem?_eq_getElem hil, List.getElem_idxOf]
          rfl
        · have hj' : j < es'.idxOf (sgn m g r) := hj
          rw [List.getElem?_map, List.getElem?_eq_getElem (by omega)] at hz'
          cases hz'
          rw [pyI_eqv2]
          exact decide_eq_false (idx_ne hj' (by omega))
        · exact ⟨rfl, rfl, List.Sublist.refl _⟩
      intro pg2
      rw [dispE_nodup (nd2 _), ft]
      refine ⟨_, by wtm_at "pt", ?_⟩
      refine run_frz (x := "groups") (by wtm_at "lk") .here (by wtm_at "pt") ?_
      refine run_nil ⟨9 - (clE m g).length, by omega, _, _, (clE m g).length, nextG m g es', rfl, rfl, next_inv hok gi em' (by omega), .inr ⟨g, rfl, next_iff em'⟩, by omega⟩
    · rw [decide_eq_false (show ¬ ((k : Nat) : Int) < (((clE m g).length : Nat) : Int) by omega)]
      refine ⟨false, rfl, (fun q => nomatch q), fun _ => ?_⟩
      refine run_drop (List.sublist_cons_self _ _) ?_
      refine run_ret ?_
      wtm_at "ea"
      exact hk g gi (grp_done hok gi hist hlt)
end
end Rk01
open PySem L2 TL
namespace Rk01
section
variable {P : Program} {w : World} {K : PySem.W.Frag} {mg : Str → Option Value} {base : Heap}
def ordF (g : Nat → Nat) (acc : List Nat) (r : Nat) : List Nat := if g r ∈ acc then acc else acc ++ [g r]
def ordG (m : Mac) (g : Nat → Nat) : List Nat := (needed m).foldl (ordF g) [g 0]
theorem ordF_ok (g : Nat → Nat) : ∀ (rs acc : List Nat), acc.Nodup → (rs.foldl (ordF g) acc).Nodup ∧ ∀ x, x ∈ rs.foldl (ordF g) acc ↔ x ∈ acc ∨ ∃ r ∈ rs, x = g r
  | [], acc, h => ⟨h, fun x => ⟨.inl, fun z => z.elim id fun ⟨_, h, _⟩ => nomatch h⟩⟩
  | r :: rs, acc, h => by
    have nd : (ordF g acc r).Nodup ∧ ∀ x, x ∈ ordF g acc r ↔ x ∈ acc ∨ x = g r := by
      unfold ordF
      by_cases q : g r ∈ acc
      · rw [if_pos q]
        exact ⟨h, fun x => ⟨.inl, fun z => z.elim id fun e => e ▸ q⟩⟩
      · rw [if_neg q]
        refine ⟨List.nodup_append.mpr ⟨h, by simp, fun a ha b hb z => q ?_⟩, fun x => by rw [List.mem_append, List.mem_singleton]⟩
        rw [List.mem_singleton.mp hb] at z
        exact z ▸ ha
    obtain ⟨h1, h2⟩ := ordF_ok g rs (ordF g acc r) nd.1
    refine ⟨h1, fun x => (h2 x).trans ?_⟩
    rw [nd.2 x]
    constructor
    · rintro ((z | z) | ⟨s, hs, z⟩)
      · exact .inl z
      · exact .inr ⟨r, List.mem_cons_self, z⟩
      · exact .inr ⟨s, List.mem_cons_of_mem _ hs, z⟩
    · rintro (z | ⟨s, hs, z⟩)
      · exact .inl (.inl z)
      · rcases List.mem_cons.mp hs with rfl | hs
        · exact .inl (.inr z)
        · exact .inr ⟨s, hs, z⟩
theorem ord_nd (m : Mac) (g : Nat → Nat) : (ordG m g).Nodup := (ordF_ok g _ _ (by simp)).1
theorem ord_mem {m : Mac} {g : Nat → Nat} (h0 : 0 ∈ needed m) (x : Nat) : x ∈ ordG m g ↔ ∃ r ∈ needed m, x = g r := by
  refine ((ordF_ok g _ _ (by simp)).2 x).trans ⟨fun h => ?_, .inr⟩
  rcases h with h | h
  · exact ⟨0, h0, List.mem_singleton.mp h⟩
  · exact h
theorem ord_len {m : Mac} {g : Nat → Nat} (h0 : 0 ∈ needed m) : (ordG m g).length ≤ (needed m).length := by
  have := nodup_leG (k := (needed m).map g) (ord_nd m g) fun x hx => by
    obtain ⟨r, hr, e⟩ := (ord_mem h0 x).mp hx
    exact List.mem_map.mpr ⟨r, hr, e.symm⟩
  rwa [List.length_map] at this
theorem ord_head (m : Mac) (g : Nat → Nat) : ∃ r, ordG m g = g 0 :: r := by
  have go : ∀ (rs acc : List Nat), (∃ r, acc = g 0 :: r) → ∃ r, rs.foldl (ordF g) acc = g 0 :: r := by
    intro rs
    induction rs with
    | nil => intro acc h; exact h
    | cons x rs ih =>
      rintro acc ⟨r, rfl⟩
      refine ih _ ?_
      unfold ordF
      split
      · exact ⟨r, rfl⟩
      · exact ⟨r ++ [g x], rfl⟩
  exact go _ _ ⟨[], rfl⟩
def repG (m : Mac) (g : Nat → Nat) (k : Nat) : Nat := ((needed m).filter fun r => decide (g r = k)).headD 0
theorem rep_ok {m : Mac} {g : Nat → Nat} {k : Nat} (h : ∃ r ∈ needed m, k = g r) : repG m g k ∈ needed m ∧ g (repG m g k) = k ∧ ((needed m).filter fun r => decide (g r = k))[0]? = some (repG m g k) := by
  obtain ⟨r, hr, e⟩ := h
  have hm : r ∈ (needed m).filter fun r => decide (g r = k) := List.mem_filter.mpr ⟨hr, decide_eq_true e.symm⟩
  unfold repG
  cases q : (needed m).filter fun r => decide (g r = k) with
  | nil => rw [q] at hm; cases hm
  | cons x xs =>
    have hx : x ∈ (needed m).filter fun r => decide (g r = k) := by rw [q]; exact List.mem_cons_self
    obtain ⟨h1, h2⟩ := List.mem_filter.mp hx
    exact ⟨h1, of_decide_eq_true h2, rfl⟩
def newE (m : Mac) (g : Nat → Nat) (r l : Nat) : Option Nat := (nxtN m r l).map fun a => (ordG m g).idxOf (g a)
def newRow (m : Mac) (g : Nat → Nat) (k : Nat) : Row := (List.range 3).map (newE m g (repG m g k))
def plainM (m : Mac) (g : Nat → Nat) : Mac := ⟨(ordG m g).map (newRow m g), (List.range (ordG m g).length).filter fun i => (needed m).any fun r => decide (r ∈ m.last) && decide ((ordG m g).idxOf (g r) = i)⟩
theorem idx_lt {m : Mac} {g : Nat → Nat} (h0 : 0 ∈ needed m) {r : Nat} (hr : r ∈ needed m) : (ordG m g).idxOf (g r) < (ordG m g).length := List.idxOf_lt_length_of_mem ((ord_mem h0 _).mpr ⟨r, hr, rfl⟩)
theorem plain_end {m : Mac} {g : Nat → Nat} (h0 : 0 ∈ needed m) (i : Nat) : i ∈ (plainM m g).last ↔ ∃ r ∈ needed m, r ∈ m.last ∧ (ordG m g).idxOf (g r) = i := by
  show i ∈ (List.range _).filter _ ↔ _
  rw [List.mem_filter, List.mem_range, List.any_eq_true]
  constructor
  · rintro ⟨_, r, hr, h⟩
    rw [Bool.and_eq_true] at h
    exact ⟨r, hr, of_decide_eq_true h.1, of_decide_eq_true h.2⟩
  · rintro ⟨r, hr, h1, h2⟩
    refine ⟨h2 ▸ idx_lt h0 hr, r, hr, ?_⟩
    rw [decide_eq_true h1, decide_eq_true h2]
    rfl
theorem plain_ok {m : Mac} {g : Nat → Nat} (h0 : 0 ∈ needed m) : (plainM m g).Ok := by
  have ll : (plainM m g).tab.length = (ordG m g).length := List.length_map _
  refine ⟨?_, fun r hr => ?_, fun r hr x hx => ?_, fun i hi => ?_, (List.pairwise_lt_range (n := (ordG m g).length)).filter _⟩
  · rw [ll]
    obtain ⟨r, e⟩ := ord_head m g
    rw [e]
    exact Nat.succ_pos _
  · obtain ⟨k, _, rfl⟩ := List.mem_map.mp hr
    show ((List.range 3).map _).length ≤ 3
    rw [List.length_map]
    exact Nat.le_refl _
  · obtain ⟨k, _, rfl⟩ := List.mem_map.mp hr
    obtain ⟨l, _, e⟩ := List.mem_map.mp hx
    obtain ⟨a, ha, e2⟩ := Option.map_eq_some_iff.mp e
    rw [ll, ← e2]
    exact idx_lt h0 (nxt_mem ha).1
  · rw [ll]
    obtain ⟨r, hr, _, e⟩ := (plain_end h0 i).mp hi
    exact e ▸ idx_lt h0 hr
theorem idx_inj2 {es : List Nat} {a b : Nat} (ha : a ∈ es) (h : es.idxOf a = es.idxOf b) : a = b := by
  have h1 := List.idxOf_lt_length_of_mem ha
  have h2 : es.idxOf b < es.length := by rw [← h]; exact h1
  have e1 := List.getElem_idxOf h1
  have e2 := List.getElem_idxOf h2
  rw [← e1, ← e2]
  simp only [h]
theorem plain_beh {m : Mac} {g : Nat → Nat} (h0 : 0 ∈ needed m) {r l : Nat} (hr : r ∈ needed m) (hl : l < 3) : beh (plainM m g) ((ordG m g).idxOf (g r)) l = newE m g (repG m g (g r)) l := by
  have hi := idx_lt (g := g) h0 hr
  unfold beh
  have e : (plainM m g).tab.getD ((ordG m g).idxOf (g r)) [] = newRow m g (g r) := by
    show ((ordG m g).map (newRow m g)).getD _ [] = _
    rw [List.getD_eq_getElem?_getD, List.getElem?_map, List.getElem?_eq_getElem hi, List.getElem_idxOf]
    rfl
  rw [e]
  show ((List.range 3).map _).getD l none = _
  rw [List.getD_eq_getElem?_getD, List.getElem?_map, List.getElem?_range hl]
  rfl
theorem plain_text {m : Mac} (ok : m.Ok) {g : Nat → Nat} (h0 : 0 ∈ needed m) (hg : ∀ r ∈ needed m, ∀ s ∈ needed m, (g r = g s ↔ EqvR m r s)) : ∀ (t : List Nat), (∀ x ∈ t, x < 3) → ∀ r ∈ needed m, endB (plainM m g) (behL (plainM m g) ((ordG m g).idxOf (g r)) t) = endB m (behL m r t)
  | [], _, r, hr => by
    show decide (_ ∈ (plainM m g).last) = decide (r ∈ m.last)
    refine decide_eq_decide.mpr ((plain_end h0 _).trans ⟨fun ⟨s, hs, h1, h2⟩ => ?_, fun h => ⟨r, hr, h, rfl⟩⟩)
    have e := (hg s hs r hr).mp (idx_inj2 ((ord_mem h0 _).mpr ⟨s, hs, rfl⟩) h2) [] (fun _ z => nomatch z)
    have e2 : decide (s ∈ m.last) = decide (r ∈ m.last) := e
    exact (decide_eq_decide.mp e2).mp h1
  | l :: t, ht, r, hr => by
    have hl := ht l List.mem_cons_self
    obtain ⟨h1, h2, _⟩ := rep_ok (g := g) ⟨r, hr, rfl⟩
    have ev := (hg _ h1 r hr).mp h2
    rw [← ev (l :: t) ht, end_cons ok h1]
    show endB (plainM m g) ((beh (plainM m g) ((ordG m g).idxOf (g r)) l).bind fun r => behL (plainM m g) r t) = _
    rw [plain_beh h0 hr hl]
    unfold newE
    cases q : nxtN m (repG m g (g r)) l with
    | none => rfl
    | some a => exact plain_text ok h0 hg t (fun x hx => ht x (List.mem_cons_of_mem _ hx)) a (nxt_mem q).1
theorem plain_has {m : Mac} (ok : m.Ok) {g : Nat → Nat} (h0 : 0 ∈ needed m) (hg : ∀ r ∈ needed m, ∀ s ∈ needed m, (g r = g s ↔ EqvR m r s)) {t : List Nat} (ht : ∀ x ∈ t, x < 3) : hasB (plainM m g) t = hasB m t := by
  have e : (ordG m g).idxOf (g 0) = 0 := by
    obtain ⟨r, e⟩ := ord_head m g
    rw [e]
    simp
  have := plain_text ok h0 hg t ht 0 h0
  rw [e] at this
  exact this
/-- the machine without texts -/
def nilM : Mac := ⟨[[]], []⟩
theorem nilM_ok : nilM.Ok := ⟨Nat.one_pos, fun r hr => by cases List.mem_singleton.mp hr; exact Nat.zero_le _, fun r hr x hx => (by cases List.mem_singleton.mp hr; cases hx), (fun _ h => nomatch h), .nil⟩
theorem nilM_has (t : List Nat) : hasB nilM t = false := by
  unfold hasB
  split <;> rfl
theorem none_has {m : Mac} (ok : m.Ok) (h0 : 0 ∉ needed m) (t : List Nat) : hasB m t = false := by
  refine Bool.eq_false_iff.mpr fun q => h0 ?_
  obtain ⟨e, he, hl⟩ := hasB_iff.mp q
  exact (mem_needed ok).mpr ⟨Reach.refl m 0, e, behL_reach he, hl⟩
/-- the classes, counted: any list of one row each is as long -/
theorem cls_len {m : Mac} {g : Nat → Nat} (h0 : 0 ∈ needed m) (hg : ∀ r ∈ needed m, ∀ s ∈ needed m, (g r = g s ↔ EqvR m r s)) {fs : List Nat} (hs : ∀ r ∈ fs, r ∈ needed m) (hp : fs.Pairwise fun a b => ¬ EqvR m a b) (ha : ∀ r ∈ needed m, ∃ s ∈ fs, EqvR m r s) : fs.length = (ordG m g).length := by
  refine Nat.le_antisymm ?_ ?_
  · have nd : (fs.map g).Nodup := by
      refine List.pairwise_map.mpr (List.Pairwise.imp_of_mem (fun {a b} h1 h2 h q => h ((hg a (hs a h1) b (hs b h2)).mp q)) hp)
    have := nodup_leG nd (k := ordG m g) fun x hx => by
      obtain ⟨r, hr, rfl⟩ := List.mem_map.mp hx
      exact (ord_mem h0 _).mpr ⟨r, hs r hr, rfl⟩
    rwa [List.length_map] at this
  · have := nodup_leG (ord_nd m g) (k := fs.map g) fun x hx => by
      obtain ⟨r, hr, rfl⟩ := (ord_mem h0 x).mp hx
      obtain ⟨s, h1, h2⟩ := ha r hr
      exact List.mem_map.mpr ⟨s, h1, ((hg r hr s (hs s h1)).mpr h2).symm⟩
    rwa [List.length_map] at this
end
end Rk01
open PySem L2 TL
namespace Rk01
section
variable {P : Program} {w : World} {K : PySem.W.Frag} {mg : Str → Option Value} {base : Heap}
abbrev pyN (n : Nat) : PyData := .int ((n : Nat) : Int)
theorem pyN_of {L : Led} (ns : List Nat) : PyAll L (ns.map nD) (ns.map pyN) := by
  induction ns with
  | nil => exact .nil
  | cons x e ih => exact .cons (.v rfl) ih
theorem pyN_can : ∀ e : List Nat, PyData.canLayAll0 (e.map pyN) = true ∧ PyData.depthAll (e.map pyN) ≤ 0
  | [] => ⟨by simp [PyData.canLayAll0], by simp [PyData.depthAll]⟩
  | x :: e => by
    obtain ⟨a, b⟩ := pyN_can e
    exact ⟨by simp [PyData.canLayAll0, PyData.canLay0, a], by simp [PyData.depthAll, PyData.depth]; omega⟩
theorem pyN_shp (e : List Nat) : SeqAt.shaped (.list (e.map pyN)) = true := by
  obtain ⟨a, b⟩ := pyN_can e
  unfold SeqAt.shaped
  simp [PyData.canLay0, PyData.depth, a]
  omega
theorem idx_ne2 {es : List Nat} {a : Nat} {j : Nat} (h : j < es.idxOf a) (hj : j < es.length) : es[j] ≠ a := by
  intro q
  have := List.not_of_lt_findIdx (p := (· == a)) (xs := es) h
  rw [q] at this
  simp at this
/-- order.index(n) -/
theorem ev_idxN {M : Mode} {G : List (Option D)} {L : Led} {K : D → Led → Prop} {pos : Pos} (hc : M.C.cm = true) {apos : Pos} {o e : Expr} {ns : List Nat} (h : Ev M G L o fun x L1 => x = .lst (ns.map nD) ∧ Ev M G L1 e fun d L2 => ∃ n : Nat, d = nD n ∧ n ∈ ns ∧ K (nD (ns.idxOf n)) L2)
    (hbase : ∀ X : Cx, attributeBase o "index" X.env (eval o X.env) = eval o X.env := by intro _; rfl)
    (hfew : ∀ X : Cx, ((backTo pos (starEach [e] X.env)).all (fun x => !x.1) && (backToKw pos (keywordEach [] X.env)).all (fun x => x.1.isSome) && decide (([e] : List Expr).length + ([] : List Keyword).length + (if ([] : List Keyword).isEmpty then 0 else 1) < 30)) = true := by intro _; rfl)
    (hline : (apos.endLine == pos.line) = true := by rfl) (hs : ∀ X : Cx, starEach [e] X.env = (false, eval e X.env) :: starEach [] X.env := by intro _; rfl) : Ev M G L (.Call (.Attribute o "index" apos) [e] [] pos) K := by
  refine ev_indexD hc (h.imp fun x L1 ⟨ex, h2⟩ => ?_) hbase hfew hline hs
  subst ex
  refine ⟨_, .frz, h2.imp fun d L2 ⟨n, ed, hn, hk⟩ => ?_⟩
  subst ed
  have hil := List.idxOf_lt_length_of_mem hn
  refine ⟨pyN n, ns.map pyN, ns.idxOf n, pyN n, .lst .frz (pyN_of ns), .v rfl, pyN_shp ns, rfl, ?_, ?_, fun j z' hj hz' => ?_, hk⟩
  · rw [List.getElem?_map, List.getElem?_eq_getElem hil, List.getElem_idxOf]
    rfl
  · simp [PyData.eqv]
  · rw [List.getElem?_map, List.getElem?_eq_getElem (by omega)] at hz'
    cases hz'
    have := idx_ne2 hj (by omega)
    simp [PyData.eqv]
    omega
theorem row_fil (f : Nat → Option Nat) : ((List.range 3).filter fun l => (f l).isSome).map (fun l => (lkey l, nD ((f l).getD 0))) = (rowK ((List.range 3).map f)).map fun kv => (kv.1, D.v kv.2) := by
  show (([0, 1, 2] : List Nat).filter fun l => (f l).isSome).map _ = (rowK [f 0, f 1, f 2]).map _
  simp only [List.filter_cons, List.filter_nil]
  cases h0 : f 0 <;> cases h1 : f 1 <;> cases h2 : f 2 <;> simp [h0, h1, h2, rowK, rowKf]
theorem unk_ends {m : Mac} {g : Nat → Nat} (h0 : 0 ∈ needed m) : ∃ ks : List Nat, (dispE (((needed m).filter fun r => decide (r ∈ m.last)).map fun r => (nkey ((ordG m g).idxOf (g r)), D.bl true))).map (·.1) = ks.map nkey ∧ ks.Nodup ∧ ks.length ≤ (needed m).length ∧ ∀ k, k ∈ ks ↔ k ∈ (plainM m g).last := by
  obtain ⟨h1, h2⟩ := fill_keys (((needed m).filter fun r => decide (r ∈ m.last)).map fun r => (nkey ((ordG m g).idxOf (g r)), D.bl true)) [] List.nodup_nil
  have h3 : ∀ k, k ∈ (fillE (((needed m).filter fun r => decide (r ∈ m.last)).map fun r => (nkey ((ordG m g).idxOf (g r)), D.bl true)) []).map (·.1) ↔ ∃ n ∈ (plainM m g).last, k = nkey n := by
    intro k
    refine (h2 k).trans ⟨fun h => ?_, fun ⟨n, hn, e⟩ => .inr ?_⟩
    · rcases h with h | h
      · cases h
      · rw [List.map_map] at h
        obtain ⟨r, hr, e⟩ := List.mem_map.mp h
        obtain ⟨h4, h5⟩ := List.mem_filter.mp hr
        exact ⟨_, (plain_end h0 _).mpr ⟨r, h4, of_decide_eq_true h5, rfl⟩, e.symm⟩
    · obtain ⟨r, hr, h4, h5⟩ := (plain_end h0 n).mp hn
      rw [List.map_map]
      exact List.mem_map.mpr ⟨r, List.mem_filter.mpr ⟨hr, decide_eq_true h4⟩, by rw [e, ← h5]; rfl⟩
  let un : Key → Nat := fun k => match k with
    | .inl i => i.toNat
    | .inr _ => 0
  have hun : ∀ n : Nat, un (nkey n) = n := fun n => Int.toNat_natCast n
  refine ⟨((fillE (((needed m).filter fun r => decide (r ∈ m.last)).map fun r => (nkey ((ordG m g).idxOf (g r)), D.bl true)) []).map (·.1)).map un, ?_, ?_, ?_, fun n => ?_⟩
  · rw [List.map_map]
    refine ((List.map_congr_left fun k hk => ?_).trans (List.map_id _)).symm
    obtain ⟨n, _, e⟩ := (h3 k).mp hk
    show nkey (un k) = k
    rw [e, hun]
  · refine List.pairwise_map.mpr (List.Pairwise.imp_of_mem (fun {a b} ha hb h q => h ?_) h1)
    obtain ⟨x, _, e1⟩ := (h3 a).mp ha
    obtain ⟨y, _, e2⟩ := (h3 b).mp hb
    rw [e1, e2, hun, hun] at q
    rw [e1, e2, q]
  · have := fill_len (((needed m).filter fun r => decide (r ∈ m.last)).map fun r => (nkey ((ordG m g).idxOf (g r)), D.bl true)) []
    rw [List.length_nil, Nat.zero_add, List.length_map] at this
    rw [List.length_map, List.length_map]
    exact Nat.le_trans this (List.length_filter_le _ _)
  · constructor
    · intro h
      obtain ⟨k, hk, e⟩ := List.mem_map.mp h
      obtain ⟨x, hx, e1⟩ := (h3 k).mp hk
      rw [e1, hun] at e
      exact e ▸ hx
    · intro h
      exact List.mem_map.mpr ⟨nkey n, (h3 _).mpr ⟨n, h, rfl⟩, hun n⟩
theorem ends_eq {m : Mac} {g : Nat → Nat} (h0 : 0 ∈ needed m) {ks : List Nat} {ys : List Int} (nd : ks.Nodup) (hm : ∀ k, k ∈ ks ↔ k ∈ (plainM m g).last) (hp : ys.Perm (ks.map fun k => ((k : Nat) : Int))) (hs : ys.Pairwise (· ≤ ·)) : ys = (plainM m g).last.map fun k => ((k : Nat) : Int) := by
  have ok := plain_ok (g := g) h0
  have ll : (plainM m g).tab.length = (ordG m g).length := List.length_map _
  have e := sorted_eq (n := (plainM m g).tab.length) hp hs nd fun k hk => ok.ends k ((hm k).mp hk)
  rw [e]
  refine congrArg (List.map _) ?_
  show _ = (List.range _).filter _
  rw [ll]
  refine List.filter_congr fun i hi => ?_
  have h1 : (i ∈ (plainM m g).last) ↔ ((needed m).any fun r => decide (r ∈ m.last) && decide ((ordG m g).idxOf (g r) = i)) = true := by
    show i ∈ (List.range _).filter _ ↔ _
    rw [List.mem_filter]
    exact ⟨fun h => h.2, fun h => ⟨hi, h⟩⟩
  exact Bool.eq_iff_iff.mpr (decide_eq_true_iff.trans ((hm i).trans h1))
def spPlainR (Cr : Addr) : Prm := fun ds L KK KE => ∃ m : Mac, ds = [macR Cr m] ∧ m.Ok ∧ m.tab.length ≤ 8 ∧ L = [] ∧ (0 ∉ needed m → KK (macR Cr nilM) []) ∧
  (0 ∈ needed m → ∀ g : Nat → Nat, (∀ r ∈ needed m, ∀ s ∈ needed m, (g r = g s ↔ EqvR m r s)) → KK (macR Cr (plainM m g)) [])
theorem ok_plain_reader {f Cr : Addr} {fd : FuncData} (FF : Fun K "plain_reader" "plain_reader" s_plain_reader f fd) (B : Bi mg) (gL : GTup K mg "LETTERS" letV) (cR : Cls K Cr) (nL : NoAttr K Cr "last") (g1 : Glob P w K mg base "needed_rows" ["reader"] (spNeeded Cr) 3) (g2 : Glob P w K mg base "grouped" ["reader", "rows"] (spGrouped Cr) 3)
    (m1 : Mth P w K mg base Cr "behind" ["self", "row", "letter"] (spBehind Cr) 1) (g3 : Cla P w K mg base "Reader" Cr ["self", "rows", "ends"] (spRInit Cr) 1) (g4 : Cla P w K mg base "Reader" Cr ["self", "rows", "ends"] (spRInit2 Cr) 1) : Def P w K mg base 4 f fd ["reader"] (spPlainR Cr) := by
  refine def_ok FF sc_plain_reader ?_ ?_
  · rintro ds L KK KE ⟨m, rfl, _⟩
    rfl
  · rintro ds L KK KE ⟨m, rfl, hok, h8, rfl, hk0, hk1⟩ H0 F0
    wtm_at "bg"
    have hnl := needed_len m
    have hnd := needed_nd m
    have flr : (m.last.map nD).all flatD = true := by
      rw [List.all_map]
      exact List.all_eq_true.mpr fun _ _ => rfl
    have fln : ∀ ns : List Nat, (ns.map nD).all flatD = true := fun ns => by
      rw [List.all_map]
      exact List.all_eq_true.mpr fun _ _ => rfl
    refine run_set (by wtm_at "loc") (by wtm_at "mem") ?_
    wtm_at "ea"
    refine calls0 ⟨m, rfl, hok, by omega, rfl, ?_⟩
    refine ⟨_, by wtm_at "pt", ?_⟩
    refine run_if (tst_cmp ?_)
    wtm_at "ea"
    refine op_niQ .tup rfl (fln _) ?_
    rw [show inD (.int 0) ((needed m).map nD) = decide (0 ∈ needed m) from in_rows (some 0) _]
    by_cases h0 : 0 ∈ needed m
    · rw [decide_eq_true h0]
      refine ⟨false, rfl, (fun q => nomatch q), fun _ => ?_⟩
      refine run_nil ?_
      have hk := hk1 h0
      refine run_setC (by kernel_rfl) rfl (by wtm_at "mem") ?_ (fun _ _ => rfl)
      wtm_at "ea"
      refine calls0 ⟨m, rfl, hok, h8, rfl, fun g gi hg => ?_⟩
      have hol := ord_len (g := g) h0
      refine ⟨_, by wtm_at "pt", ?_⟩
      refine run_setC (by kernel_rfl) rfl (by wtm_at "mem") (ev_lst ?_) (fun _ _ => rfl)
      wtm_at "ea"
      refine ix_K (k := nkey 0) rfl .frz (d := nD (g 0)) (by rw [grp_val, if_pos h0]) ?_
      wtm_at "ea"
      refine ⟨Nat.le_of_ble_eq_true rfl, fun po => ?_⟩
      refine ⟨_, by wtm_at "pt", ?_⟩
      refine run_for rfl rfl (ei_tup ?_)
      wtm_at "ea"
      refine ⟨_, rfl, ?_⟩
      refine for_pre (needed m) nD rfl (fun pre G' L' => ∃ x : Option D, G' = [some (macR Cr m), some (.tup ((needed m).map nD)), some (grpD m g), some (.ref po), x, none, none, none, none, none, none] ∧ L' = [(po, .lst ((pre.foldl (ordF g) [g 0]).map nD))]) ⟨_, rfl, rfl⟩ (fun _ _ _ _ _ h => nomatch h) ?_ ?_
      · rintro F2 pre r suf G' L' hsp ⟨x, rfl, rfl⟩
        have hr : r ∈ needed m := by rw [hsp]; exact List.mem_append_right _ List.mem_cons_self
        have hpl : (pre.foldl (ordF g) [g 0]).length ≤ 100 := by
          have := (ordF_ok g pre [g 0] (by simp)).1
          have := nodup_leG this (k := g 0 :: pre.map g) fun x hx => by
            rcases ((ordF_ok g pre [g 0] (by simp)).2 x).mp hx with h | ⟨s, hs, e⟩
            · rw [List.mem_singleton.mp h]; exact List.mem_cons_self
            · exact List.mem_cons_of_mem _ (List.mem_map.mpr ⟨s, hs, e.symm⟩)
          rw [List.length_cons, List.length_map] at this
          have hl := congrArg List.length hsp
          rw [List.length_append] at hl
          omega
        have nx : (pre ++ [r]).foldl (ordF g) [g 0] = ordF g (pre.foldl (ordF g) [g 0]) r := by rw [List.foldl_append]; rfl
        rw [nx]
        generalize pre.foldl (ordF g) [g 0] = acc at hpl
        refine tgt_name (by wtm_at "loc") (by wtm_at "pt") ?_
        refine run_if (tst_cmp ?_)
        wtm_at "ea"
        refine ix_K (k := nkey r) rfl .frz (d := nD (g r)) (by rw [grp_val, if_pos hr]) ?_
        wtm_at "ea"
        refine op_niQ (.lst (.own (.head _))) rfl (fln _) ?_
        rw [show inD (nV (g r)) (acc.map nD) = decide (g r ∈ acc) from in_rows (some (g r)) acc]
        unfold ordF
        by_cases hin : g r ∈ acc
        · rw [decide_eq_true hin, if_pos hin]
          refine ⟨false, rfl, (fun q => nomatch q), fun _ => ?_⟩
          exact run_nil (run_nil ⟨_, rfl, rfl⟩)
        · rw [decide_eq_false hin, if_neg hin]
          refine ⟨true, rfl, fun _ => ?_, (fun q => nomatch q)⟩
          refine run_expr (ev_append ?_)
          wtm_at "ea"
          refine ⟨po, _, rfl, .head _, ?_⟩
          wtm_at "ea"
          refine ix_K (k := nkey r) rfl .frz (d := nD (g r)) (by rw [grp_val, if_pos hr]) ?_
          refine ⟨_, _, .here, by rw [List.length_map]; exact sz_lt (by omega), ?_⟩
          refine run_nil (run_nil ⟨_, rfl, ?_⟩)
          rw [List.map_append]
          rfl
      · rintro G' L' ⟨x, rfl, rfl⟩
        refine run_frz (x := "order") (by wtm_at "lk") .here (by wtm_at "pt") ?_
        refine run_set (by wtm_at "loc") (by wtm_at "mem") (ev_lst (ea_nil ⟨Nat.zero_le _, fun pf => ?_⟩))
        refine ⟨_, by wtm_at "pt", ?_⟩
        refine run_for rfl rfl (ei_lst ?_)
        wtm_at "ea"
        refine ⟨_, .frz, ?_⟩
        refine for_pre (ordG m g) nD rfl (fun pre G' L' => ∃ x y z : Option D, G' = [some (macR Cr m), some (.tup ((needed m).map nD)), some (grpD m g), some (.lst ((ordG m g).map nD)), x, some (.ref pf), y, z, none, none, none] ∧ L' = [(pf, .lst ((pre.map (newRow m g)).map rowD))]) ⟨_, _, _, rfl, rfl⟩ (fun _ _ _ _ _ h => nomatch h) ?_ ?_
        · rintro F2 pre k suf G' L' hsp ⟨x, y, z, rfl, rfl⟩
          have hkm : k ∈ ordG m g := by rw [hsp]; exact List.mem_append_right _ List.mem_cons_self
          obtain ⟨rp1, rp2, rp3⟩ := rep_ok ((ord_mem h0 k).mp hkm)
          have hpl : pre.length ≤ 100 := by
            have hl := congrArg List.length hsp
            rw [List.length_append] at hl
            omega
          refine tgt_name (by wtm_at "loc") (by wtm_at "pt") ?_
          refine run_setC (by kernel_rfl) rfl (by wtm_at "mem") ?_ (fun _ _ => rfl)
          wtm_at "ea"
          refine ev_lc [("one", 9)] rfl (by kernel_rfl) (ei_tup ?_)
          wtm_at "ea"
          refine ⟨_, rfl, ?_⟩
          refine lc_map (needed m) nD nD (fun r => decide (g r = k)) rfl (sz_lt (by omega)) (fun _ q => (nomatch q)) ?_ ?_
          · intro F1 Dl r acc hr
            refine tn_name (i := 9) (by wtm_at "loc") rfl (List.mem_singleton.mpr rfl) ?_
            wtm_at "wz"
            show TL.Tst _ _ _ _ _
            refine tst_cmp ?_
            wtm_at "ea"
            refine ix_K (k := nkey r) rfl .frz (d := nD (g r)) (by rw [grp_val, if_pos hr]) ?_
            wtm_at "ea"
            refine op_eqI ?_
            rw [show decide (((g r : Nat) : Int) = ((k : Nat) : Int)) = decide (g r = k) from decide_eq_decide.mpr (by omega)]
            refine ⟨_, rfl, rfl, List.Sublist.refl _, fun _ => ?_⟩
            wtm_at "ea"
            exact ⟨rfl, List.Sublist.refl _⟩
          intro Dl
          wtm_at "ea"
          refine ix_L (.own (.head _)) (at_nat (j := 0) rfl (by rw [List.getElem?_map, rp3]; rfl)) ?_
          refine ⟨_, by wtm_at "pt", ?_⟩
          refine run_drop (List.sublist_cons_self _ _) ?_
          generalize hrp : repG m g k = rp at rp1 rp2
          have hrl : rp < m.tab.length := needed_lt rp1
          refine run_setC (by kernel_rfl) rfl (by wtm_at "mem") (ev_dc [("letter", 10)] rfl (by kernel_rfl) (ei_tup ?_)) (fun _ h => sw_cellD h)
          wtm_at "ea"
          refine ⟨_, rfl, ?_⟩
          refine dc_map (List.range 3) (fun l => .str (letS l)) (fun l => (lkey l, optN (beh m rp l))) (fun _ => true) let_range (sz_lt (by decide)) (fun _ q => (nomatch q)) ?_ ?_
          · intro F1 Dl l acc hl
            refine tn_name (i := 10) (by wtm_at "loc") rfl (List.mem_singleton.mpr rfl) ?_
            wtm_at "wz"
            refine ⟨rfl, List.Sublist.refl _, fun _ => ?_⟩
            wtm_at "ea"
            exact calls0 ⟨m, some rp, l, rfl, List.mem_range.mp hl, hok.len, fun x hx => by cases hx; exact hrl, rfl, rfl, rfl, List.Sublist.refl _⟩
          intro pb
          have e3 : dispE (((List.range 3).filter fun _ => true).map fun l => (lkey l, optN (beh m rp l))) = [(lkey 0, optN (beh m rp 0)), (lkey 1, optN (beh m rp 1)), (lkey 2, optN (beh m rp 2))] := by
            rw [dispE_nodup]
            · rfl
            · show [lkey 0, lkey 1, lkey 2].Nodup
              decide +kernel
          have hval : ∀ l, l < 3 → valD [(lkey 0, optN (beh m rp 0)), (lkey 1, optN (beh m rp 1)), (lkey 2, optN (beh m rp 2))] (lkey l) = some (optN (beh m rp l)) := by
            intro l hl
            obtain ⟨⟨a0, a1, a2⟩, ⟨b0, b1, b2⟩, c0, c1, c2⟩ := lk_decs
            rcases (show l = 0 ∨ l = 1 ∨ l = 2 by omega) with rfl | rfl | rfl
            · rw [valD_cons, a0]; rfl
            · rw [valD_cons, a1, valD_cons, b1]; rfl
            · rw [valD_cons, a2, valD_cons, b2, valD_cons, c2]; rfl
          rw [e3]
          refine ⟨_, by wtm_at "pt", ?_⟩
          refine run_frz (x := "behind") (by wtm_at "lk") .here (by wtm_at "pt") ?_
          show TL.Run _ [some (macR Cr m), some (.tup ((needed m).map nD)), some (grpD m g), some (.lst ((ordG m g).map nD)), some (nD rp), some (.ref pf), some (nD k), some (.dK [(lkey 0, optN (beh m rp 0)), (lkey 1, optN (beh m rp 1)), (lkey 2, optN (beh m rp 2))]), none, none, none] _ _ _
          refine run_expr (ev_append ?_)
          wtm_at "ea"
          refine ⟨pf, _, rfl, .head _, ?_⟩
          refine ev_frz (ev_dcK [("letter", 10)] rfl (by kernel_rfl) (path_name (by wtm_at "lk") (by wtm_at "vis") (by kernel_rfl) (by kernel_rfl)) fun H1 F1 => ?_)
          refine dc_map (List.range 3) (fun l => .str (letS l)) (fun l => (lkey l, nD ((newE m g rp l).getD 0))) (fun l => (newE m g rp l).isSome) rfl (sz_lt (by decide)) (fun _ q => (nomatch q)) ?_ ?_
          · intro F1 Dl l acc hl
            have hl3 := List.mem_range.mp hl
            refine tn_name (i := 10) (by wtm_at "loc") rfl (List.mem_singleton.mpr rfl) ?_
            wtm_at "wz"
            show TL.Tst _ _ _ _ _
            refine tst_cmp ?_
            wtm_at "ea"
            refine ix_K (k := lkey l) rfl .frz (hval l hl3) ?_
            wtm_at "ea"
            have hv := hval l hl3
            cases hb : beh m rp l with
            | none =>
              have en : newE m g rp l = none := by unfold newE nxtN; rw [hb]; rfl
              refine op_inKn .frz ?_
              rw [en]
              exact ⟨false, rfl, rfl, List.Sublist.refl _, (fun q => nomatch q)⟩
            | some a =>
              rw [hb] at hv
              refine op_inK (k := nkey a) rfl .frz ?_
              rw [grp_val]
              by_cases ha : a ∈ needed m
              · have en : newE m g rp l = some ((ordG m g).idxOf (g a)) := by unfold newE nxtN; rw [hb]; simp only [if_pos ha]; rfl
                rw [if_pos ha, en]
                refine ⟨true, rfl, rfl, List.Sublist.refl _, fun _ => ?_⟩
                wtm_at "ea"
                refine ev_idxN (ns := ordG m g) rfl ?_
                wtm_at "ea"
                refine ⟨rfl, ?_⟩
                wtm_at "ea"
                refine ix_K (k := lkey l) rfl .frz hv ?_
                refine ix_K (k := nkey a) rfl .frz (d := nD (g a)) (by rw [grp_val, if_pos ha]) ?_
                exact ⟨g a, rfl, (ord_mem h0 _).mpr ⟨a, ha, rfl⟩, rfl, rfl, List.Sublist.refl _⟩
              · have en : newE m g rp l = none := by unfold newE nxtN; rw [hb]; simp only [if_neg ha]; rfl
                rw [if_neg ha, en]
                exact ⟨false, rfl, rfl, List.Sublist.refl _, (fun q => nomatch q)⟩
          intro Dl
          refine ⟨_, _, _, rfl, .here, ?_⟩
          have e4 : dispE (((List.range 3).filter fun l => (newE m g rp l).isSome).map fun l => (lkey l, nD ((newE m g rp l).getD 0))) = (rowK (newRow m g k)).map fun kv => (kv.1, D.v kv.2) := by
            rw [dispE_nodup]
            · rw [row_fil]
              unfold newRow
              rw [hrp]
            · rw [List.map_map]
              have nl : ([0, 1, 2].map fun l => lkey l).Nodup := by decide +kernel
              exact List.Nodup.sublist (List.Sublist.map _ List.filter_sublist) nl
          rw [e4]
          refine ⟨_, _, .here, by rw [List.length_map, List.length_map]; exact sz_lt (by omega), ?_⟩
          refine run_nil ⟨_, _, _, rfl, ?_⟩
          rw [List.map_append, List.map_append]
          rfl
        · rintro G' L' ⟨x, y, z, rfl, rfl⟩
          obtain ⟨ks, k1, k2, k3, k4⟩ := unk_ends (g := g) h0
          refine run_set (by wtm_at "loc") (by wtm_at "mem") ?_
          wtm_at "ea"
          refine ev_dc [("row", 4)] rfl (by kernel_rfl) (ei_tup ?_)
          wtm_at "ea"
          refine ⟨_, rfl, ?_⟩
          refine dc_map (needed m) nD (fun r => (nkey ((ordG m g).idxOf (g r)), .bl true)) (fun r => decide (r ∈ m.last)) rfl (sz_lt (by omega)) (fun s hs => (by cases hs)) ?_ ?_
          · intro F1 Dl r acc hr
            refine tn_name (i := 4) (by wtm_at "loc") rfl (List.mem_singleton.mpr rfl) ?_
            wtm_at "wz"
            show TL.Tst _ _ _ _ _
            refine tst_cmp ?_
            wtm_at "ea"
            refine op_inQ .tup rfl flr ?_
            rw [show inD (nV r) (m.last.map nD) = decide (r ∈ m.last) from in_rows (some r) m.last]
            refine ⟨_, rfl, rfl, List.Sublist.refl _, fun _ => ?_⟩
            refine ev_idxN (ns := ordG m g) rfl ?_
            wtm_at "ea"
            refine ⟨rfl, ?_⟩
            wtm_at "ea"
            refine ix_K (k := nkey r) rfl .frz (d := nD (g r)) (by rw [grp_val, if_pos hr]) ?_
            refine ⟨g r, rfl, (ord_mem h0 _).mpr ⟨r, hr, rfl⟩, ?_⟩
            wtm_at "ea"
            exact ⟨rfl, rfl, List.Sublist.refl _⟩
          intro Dl
          wtm_at "ea"
          refine cv_sortedDI rfl (.own (.head _)) (ks := ks.map fun k => ((k : Nat) : Int)) (by rw [k1, List.map_map]; rfl) (by rw [List.length_map]; omega) fun ys p hp hs => ?_
          rw [ends_eq h0 k2 k4 hp hs]
          have ell := last_len (plain_ok (g := g) h0)
          have etl : (plainM m g).tab.length = (ordG m g).length := List.length_map _
          refine ⟨_, by wtm_at "pt", ?_⟩
          refine run_drop (.cons₂ _ (.cons _ (List.Sublist.refl _))) ?_
          refine run_frz (x := "ends") (by wtm_at "lk") .here (by wtm_at "pt") ?_
          refine run_frz (x := "found") (by wtm_at "lk") .here (by wtm_at "pt") ?_
          refine run_ret0 (ev_frz ?_)
          refine ev_make g4 rfl (Nat.le_of_ble_eq_true rfl) (by wtm_at "gl") ?_
          wtm_at "ea"
          intro l
          refine calls_1 ⟨l, (plainM m g).tab.map rowK, (plainM m g).last.map nV, ?_, by rw [List.length_map]; omega, by rw [List.length_map]; omega, rfl, rfl, _, _, _, rfl, .here, ?_⟩
          · have e1 : ((plainM m g).tab.map rowK).map rowV = ((ordG m g).map (newRow m g)).map rowD := by rw [List.map_map]; rfl
            have e2 : ((plainM m g).last.map nV).map D.v = ((plainM m g).last.map fun k => ((k : Nat) : Int)).map D.int := by rw [List.map_map, List.map_map]; rfl
            rw [e1, e2]
            rfl
          · have e : rdrD Cr ((plainM m g).tab.map rowK) ((plainM m g).last.map nV) = macR Cr (plainM m g) := rdr_mac Cr (plain_ok h0).len
            have hk2 := hk g hg
            rw [← e] at hk2
            exact hk2
    · rw [decide_eq_false h0]
      refine ⟨true, rfl, fun _ => ?_, (fun q => nomatch q)⟩
      refine run_ret0 (ev_frz ?_)
      refine ev_make g3 rfl (Nat.le_of_ble_eq_true rfl) (by wtm_at "gl") ?_
      wtm_at "ea"
      refine ev_dnewF ?_
      wtm_at "ea"
      refine ⟨Nat.le_of_ble_eq_true rfl, ?_⟩
      wtm_at "ea"
      refine ⟨Nat.zero_le _, ?_⟩
      wtm_at "ea"
      intro l
      refine calls_1 ⟨l, _, [[]], [], rfl, .inl rfl, by decide, rfl, rfl, _, _, _, rfl, .here, ?_⟩
      have e : rdrD Cr (nilM.tab.map rowK) (nilM.last.map nV) = macR Cr nilM := rdr_mac Cr nilM_ok.len
      have hk := hk0 h0
      rw [← e] at hk
      exact hk
def spPlainM (Cm Cr : Addr) : Prm := fun ds L KK KE => ∃ m : Mac, ds = [macD Cm Cr m] ∧ m.Ok ∧ m.tab.length ≤ 8 ∧ L = [] ∧ ∀ q : Mac, q.Ok → q.tab.length ≤ 8 → (∀ t, (∀ x ∈ t, x < 3) → hasB q t = hasB m t) → (0 ∉ needed m → q.tab.length = 1) →
  (0 ∈ needed m → ∀ fs : List Nat, (∀ r ∈ fs, r ∈ needed m) → fs.Pairwise (fun a b => ¬ EqvR m a b) → (∀ r ∈ needed m, ∃ s ∈ fs, EqvR m r s) → q.tab.length = fs.length) → KK (macD Cm Cr q) []
theorem ok_plain {f Cm Cr CB : Addr} {fd : FuncData} (FF : Fun K "plain" "Machine.plain" s_Machine_plain f fd) (B : Bi mg) (cM : Cls K Cm) (nI : NoAttr K Cm "inner") (g1 : Glob P w K mg base "plain_reader" ["reader"] (spPlainR Cr) 4) (g2 : Cla P w K mg base "Machine" Cm ["self", "rows", "ends"] (spMInit Cm Cr CB) 4) : Def P w K mg base 6 f fd ["self"] (spPlainM Cm Cr) := by
  refine def_ok FF sc_Machine_plain ?_ ?_
  · rintro ds L KK KE ⟨m, rfl, _⟩
    rfl
  · rintro ds L KK KE ⟨m, rfl, hok, h8, rfl, hk⟩ H0 F0
    wtm_at "bg"
    refine run_ret0 (ev_frz ?_)
    wtm_at "ea"
    refine calls0 ⟨m, rfl, hok, h8, rfl, fun h0 => ?_, fun h0 g hg => ?_⟩
    · wtm_at "ea"
      refine ⟨Nat.zero_le _, ?_⟩
      wtm_at "ea"
      intro l
      refine calls_1 ⟨l, _, _, rfl, rfl, .inl ⟨_, rfl, rfl, _, _, _, rfl, .here, ?_⟩⟩
      exact hk nilM nilM_ok (by decide) (fun t ht => by rw [nilM_has, none_has hok h0]) (fun _ => rfl) fun q => absurd q h0
    · have ll : (plainM m g).tab.length = (ordG m g).length := List.length_map _
      have ol := ord_len (g := g) h0
      have nl := needed_len m
      wtm_at "ea"
      refine ⟨Nat.zero_le _, ?_⟩
      wtm_at "ea"
      intro l
      refine calls_1 ⟨l, _, _, rfl, rfl, .inl ⟨_, rfl, rfl, _, _, _, rfl, .here, ?_⟩⟩
      exact hk (plainM m g) (plain_ok h0) (by omega) (fun t ht => plain_has hok h0 hg ht) (fun q => absurd h0 q) fun _ fs h1 h2 h3 => by rw [ll, cls_len h0 hg h1 h2 h3]
end
end Rk01
open PySem L2 TL
namespace Rk01
section
variable {P : Program} {w : World} {K : PySem.W.Frag} {mg : Str → Option Value} {base : Heap}
def behN (m1 m2 : Mac) (k : NKey) (t : List Nat) : NKey := (k.1.bind fun r => behL m1 r t, k.2.bind fun r => behL m2 r t)
theorem behN_nil (m1 m2 : Mac) (k : NKey) : behN m1 m2 k [] = k := by
  obtain ⟨a, b⟩ := k
  cases a <;> cases b <;> rfl
theorem behN_snoc (m1 m2 : Mac) (k : NKey) (t : List Nat) (l : Nat) : behN m1 m2 k (t ++ [l]) = succN m1 m2 (behN m1 m2 k t) l := by
  obtain ⟨a, b⟩ := k
  have e : ∀ (m : Mac) (o : Option Nat), (o.bind fun r => behL m r (t ++ [l])) = ((o.bind fun r => behL m r t).bind fun r => beh m r l) := by
    intro m o
    cases o with
    | none => rfl
    | some r => exact behL_snoc m r t l
  show (_, _) = (_, _)
  rw [e, e]
  rfl
structure BfI (m1 m2 : Mac) (k0 : NKey) (i : Nat) (ps : List NKey) : Prop where
  nd : ps.Nodup
  v : ∀ k ∈ ps, VN m1 m2 k
  z : ps[0]? = some k0
  done : ∀ j k, j < i → ps[j]? = some k → ∀ l, l < 3 → succN m1 m2 k l ∈ ps
  rc : ∀ k ∈ ps, ∃ t : List Nat, (∀ x ∈ t, x < 3) ∧ k = behN m1 m2 k0 t
theorem BfI.bd {m1 m2 : Mac} {k0 : NKey} {i : Nat} {ps : List NKey} (h : BfI m1 m2 k0 i ps) : ps.length ≤ (m1.tab.length + 1) * (m2.tab.length + 1) := by
  rw [← all_len]
  exact nodup_leG h.nd fun k hk => List.mem_flatMap.mpr ⟨k.1, opts_mem (h.v k hk).1, List.mem_map.mpr ⟨k.2, opts_mem (h.v k hk).2, rfl⟩⟩
theorem BfI.start {m1 m2 : Mac} {k0 : NKey} (hv : VN m1 m2 k0) : BfI m1 m2 k0 0 [k0] := ⟨by simp, fun k hk => by rw [List.mem_singleton.mp hk]; exact hv, rfl, fun j _ hj => absurd hj (Nat.not_lt_zero j), fun k hk => ⟨[], (fun _ h => nomatch h), by rw [behN_nil]; exact List.mem_singleton.mp hk⟩⟩
def addK (ps : List NKey) (k : NKey) : List NKey := if k ∈ ps then ps else ps ++ [k]
theorem addK_mem (ps : List NKey) (k : NKey) : k ∈ addK ps k ∧ (∀ x ∈ ps, x ∈ addK ps k) ∧ ∃ ext, addK ps k = ps ++ ext := by
  unfold addK
  by_cases h : k ∈ ps
  · rw [if_pos h]
    exact ⟨h, fun x hx => hx, [], (List.append_nil _).symm⟩
  · rw [if_neg h]
    exact ⟨List.mem_append_right _ List.mem_cons_self, fun x hx => List.mem_append_left _ hx, [k], rfl⟩
theorem BfI.add {m1 m2 : Mac} (o1 : m1.Ok) (o2 : m2.Ok) {k0 k : NKey} {i : Nat} {ps : List NKey} (h : BfI m1 m2 k0 i ps) (hk : k ∈ ps) (hi : i ≤ ps.length) {l : Nat} (hl : l < 3) : BfI m1 m2 k0 i (addK ps (succN m1 m2 k l)) := by
  unfold addK
  by_cases q : succN m1 m2 k l ∈ ps
  · rw [if_pos q]
    exact h
  · rw [if_neg q]
    have hp : 0 < ps.length := (List.getElem?_eq_some_iff.mp h.z).1
    refine ⟨List.nodup_append.mpr ⟨h.nd, by simp, fun a ha b hb e => q ?_⟩, fun x hx => ?_, by rw [List.getElem?_append_left hp]; exact h.z, fun j x hj hx c hc => ?_, fun x hx => ?_⟩
    · rw [List.mem_singleton.mp hb] at e
      exact e ▸ ha
    · rcases List.mem_append.mp hx with hx | hx
      · exact h.v x hx
      · rw [List.mem_singleton.mp hx]
        exact vn_succ o1 o2 k l
    · rw [List.getElem?_append_left (by omega)] at hx
      exact List.mem_append_left _ (h.done j x hj hx c hc)
    · rcases List.mem_append.mp hx with hx | hx
      · exact h.rc x hx
      · obtain ⟨t, ht, e⟩ := h.rc k hk
        refine ⟨t ++ [l], fun y hy => ?_, by rw [List.mem_singleton.mp hx, behN_snoc, ← e]⟩
        rcases List.mem_append.mp hy with hy | hy
        · exact ht y hy
        · rw [List.mem_singleton.mp hy]; exact hl
/-- a turn: the three letters -/
theorem BfI.turn {m1 m2 : Mac} (o1 : m1.Ok) (o2 : m2.Ok) {k0 k : NKey} {i : Nat} {ps : List NKey} (h : BfI m1 m2 k0 i ps) (hk : ps[i]? = some k) : ∀ c, c ≤ 3 → BfI m1 m2 k0 i ((List.range c).foldl (fun ps l => addK ps (succN m1 m2 k l)) ps) ∧ (∃ ext, (List.range c).foldl (fun ps l => addK ps (succN m1 m2 k l)) ps = ps ++ ext) ∧ ∀ l, l < c → succN m1 m2 k l ∈ (List.range c).foldl (fun ps l => addK ps (succN m1 m2 k l)) ps
  | 0, _ => ⟨h, ⟨[], (List.append_nil _).symm⟩, fun l hl => absurd hl (Nat.not_lt_zero l)⟩
  | c + 1, hc => by
    obtain ⟨h1, ⟨ext, h2⟩, h3⟩ := BfI.turn o1 o2 h hk c (by omega)
    have hi := (List.getElem?_eq_some_iff.mp hk).1
    rw [List.range_succ, List.foldl_append]
    show BfI m1 m2 k0 i (addK _ _) ∧ (∃ ext, addK _ _ = _) ∧ ∀ l, l < c + 1 → _ ∈ addK _ _
    obtain ⟨a1, a2, ext2, a3⟩ := addK_mem ((List.range c).foldl (fun ps l => addK ps (succN m1 m2 k l)) ps) (succN m1 m2 k c)
    refine ⟨h1.add o1 o2 (by rw [h2]; exact List.mem_append_left _ (List.mem_of_getElem? hk)) (by rw [h2, List.length_append]; omega) (by omega), ⟨ext ++ ext2, by rw [a3, h2, List.append_assoc]⟩, fun l hl => ?_⟩
    rcases Nat.lt_or_ge l c with q | q
    · exact a2 _ (h3 l q)
    · rw [show l = c by omega]
      exact a1
theorem BfI.next {m1 m2 : Mac} (o1 : m1.Ok) (o2 : m2.Ok) {k0 k : NKey} {i : Nat} {ps : List NKey} (h : BfI m1 m2 k0 i ps) (hk : ps[i]? = some k) : BfI m1 m2 k0 (i + 1) ((List.range 3).foldl (fun ps l => addK ps (succN m1 m2 k l)) ps) := by
  obtain ⟨h1, ⟨ext, h2⟩, h3⟩ := BfI.turn o1 o2 h hk 3 (Nat.le_refl _)
  refine ⟨h1.nd, h1.v, h1.z, fun j x hj hx l hl => ?_, h1.rc⟩
  rcases Nat.lt_or_ge j i with q | q
  · exact h1.done j x q hx l hl
  · have e : j = i := by omega
    subst e
    have hi := (List.getElem?_eq_some_iff.mp hk).1
    rw [h2, List.getElem?_append_left hi, hk] at hx
    cases hx
    exact h3 l hl
theorem BfI.all {m1 m2 : Mac} {k0 : NKey} {i : Nat} {ps : List NKey} (h : BfI m1 m2 k0 i ps) (hi : ps.length ≤ i) : ∀ (n : Nat) {t : List Nat}, t.length = n → (∀ x ∈ t, x < 3) → behN m1 m2 k0 t ∈ ps := by
  intro n
  induction n with
  | zero =>
    intro t ht _
    cases List.length_eq_zero_iff.mp ht
    rw [behN_nil]
    exact List.mem_of_getElem? h.z
  | succ n ih =>
    intro t ht h3
    rcases snoc_cases t with rfl | ⟨t, l, rfl⟩
    · cases ht
    rw [List.length_append, List.length_singleton] at ht
    have hm := ih (t := t) (by omega) fun x hx => h3 x (List.mem_append_left _ hx)
    obtain ⟨j, hj⟩ := List.mem_iff_getElem?.mp hm
    have := (List.getElem?_eq_some_iff.mp hj).1
    rw [behN_snoc]
    exact h.done j _ (by omega) hj l (h3 l (List.mem_append_right _ List.mem_cons_self))
def optPy (o : Option Nat) : PyData := match o with
  | none => .none
  | some n => .int ((n : Nat) : Int)
def pyK (k : NKey) : PyData := .tuple [optPy k.1, optPy k.2]
theorem optPy_of {L : Led} (o : Option Nat) : PyOf L (D.v (oV o)) (optPy o) := by
  cases o <;> exact .v rfl
theorem pyK_of {L : Led} (k : NKey) : PyOf L (pairD k) (pyK k) := .tup (.cons (optPy_of _) (.cons (optPy_of _) .nil))
theorem pyKs_of {L : Led} (ps : List NKey) : PyAll L (ps.map pairD) (ps.map pyK) := by
  induction ps with
  | nil => exact .nil
  | cons k ps ih => exact .cons (pyK_of k) ih
theorem optPy_can (o : Option Nat) : (optPy o).canLay0 = true ∧ (optPy o).depth = 0 := by
  cases o <;> exact ⟨by simp [optPy, PyData.canLay0], by simp [optPy, PyData.depth]⟩
theorem pyK_can (k : NKey) : (pyK k).canLay0 = true ∧ (pyK k).depth ≤ 1 := by
  obtain ⟨a, b⟩ := optPy_can k.1
  obtain ⟨c, d⟩ := optPy_can k.2
  exact ⟨by simp [pyK, PyData.canLay0, PyData.canLayAll0, a, c], by simp [pyK, PyData.depth, PyData.depthAll, b, d]⟩
theorem pyK_shp (k : NKey) : SeqAt.shaped (pyK k) = true := by
  obtain ⟨a, b⟩ := pyK_can k
  unfold SeqAt.shaped
  rw [a, decide_eq_true (by omega)]
  rfl
theorem pyKs_can : ∀ ps : List NKey, PyData.canLayAll0 (ps.map pyK) = true ∧ PyData.depthAll (ps.map pyK) ≤ 1
  | [] => ⟨by simp [PyData.canLayAll0], by simp [PyData.depthAll]⟩
  | k :: ps => by
    obtain ⟨a, b⟩ := pyKs_can ps
    obtain ⟨c, d⟩ := pyK_can k
    exact ⟨by simp [PyData.canLayAll0, a, c], by simp [PyData.depthAll]; omega⟩
theorem pyKs_shp (ps : List NKey) : SeqAt.shaped (.list (ps.map pyK)) = true := by
  obtain ⟨a, b⟩ := pyKs_can ps
  unfold SeqAt.shaped
  simp [PyData.canLay0, PyData.depth, a]
  omega
theorem optPy_eqv (a b : Option Nat) : PyData.eqv (optPy a) (optPy b) = decide (a = b) := by
  cases a with
  | none => cases b <;> simp [optPy, PyData.eqv]
  | some x =>
    cases b with
    | none => simp [optPy, PyData.eqv]
    | some y =>
      have e : PyData.eqv (optPy (some x)) (optPy (some y)) = (((x : Nat) : Int) == ((y : Nat) : Int)) := by simp only [optPy, PyData.eqv]
      rw [e]
      refine Bool.eq_iff_iff.mpr ⟨fun h => ?_, fun h => ?_⟩
      · have := beq_iff_eq.mp h
        exact decide_eq_true (by rw [show x = y by omega])
      · have := of_decide_eq_true h
        cases this
        exact beq_self_eq_true _
theorem pyK_eqv (a b : NKey) : PyData.eqv (pyK a) (pyK b) = decide (a = b) := by
  obtain ⟨a1, a2⟩ := a
  obtain ⟨b1, b2⟩ := b
  have e : PyData.eqv (pyK (a1, a2)) (pyK (b1, b2)) = (PyData.eqv (optPy a1) (optPy b1) && (PyData.eqv (optPy a2) (optPy b2) && true)) := by
    show PyData.eqv (.tuple _) (.tuple _) = _
    simp only [PyData.eqv, PyData.eqvAll]
  rw [e, optPy_eqv, optPy_eqv, Bool.and_true, ← Bool.decide_and]
  exact decide_eq_decide.mpr ⟨fun ⟨h1, h2⟩ => by rw [h1, h2], fun h => by cases h; exact ⟨rfl, rfl⟩⟩
theorem any_pyK (ps : List NKey) (k : NKey) : (ps.map pyK).any (fun z => PyData.eqv z (pyK k)) = decide (k ∈ ps) := by
  rw [List.any_map]
  refine Bool.eq_iff_iff.mpr ⟨fun h => ?_, fun h => ?_⟩
  · obtain ⟨x, hx, q⟩ := List.any_eq_true.mp h
    have q' : PyData.eqv (pyK x) (pyK k) = true := q
    rw [pyK_eqv] at q'
    exact decide_eq_true (of_decide_eq_true q' ▸ hx)
  · exact List.any_eq_true.mpr ⟨k, of_decide_eq_true h, by show PyData.eqv (pyK k) (pyK k) = true; rw [pyK_eqv]; exact decide_eq_true rfl⟩
end
end Rk01
open PySem L2 TL
namespace Rk01
section
variable {P : Program} {w : World} {K : PySem.W.Frag} {mg : Str → Option Value} {base : Heap}
theorem behN_some (m1 m2 : Mac) (a b : Nat) (t : List Nat) : behN m1 m2 (some a, some b) t = (behL m1 a t, behL m2 b t) := rfl
def spLPairs : Prm := fun ds L KK KE => ∃ m1 m2 : Mac, ds = [.lst (lawD m1), .lst (lawD m2)] ∧ m1.Ok ∧ m2.Ok ∧ m1.tab.length ≤ 8 ∧ m2.tab.length ≤ 8 ∧ L = [] ∧ ∀ p i ps, BfI m1 m2 (some 0, some 0) i ps → ps.length ≤ i → KK (.ref p) [(p, .lst (ps.map pairD))]
theorem ok_lpairs {f : Addr} {fd : FuncData} (FF : Fun K "_law_pairs" "_law_pairs" s__law_pairs f fd) (B : Bi mg) (g1 : Glob P w K mg base "_law_after" ["_law_machine_here", "_law_row_here", "_law_letter"] spLAfter2 1) : Def P w K mg base 2 f fd ["_law_one", "_law_two"] spLPairs := by
  refine def_ok FF sc__law_pairs ?_ ?_
  · rintro ds L KK KE ⟨a1, a2, rfl, _⟩
    rfl
  · rintro ds L KK KE ⟨a1, a2, rfl, o1, o2, h1, h2, rfl, hk⟩ H0 F0
    wtm_at "bg"
    refine run_set (by wtm_at "loc") (by wtm_at "mem") (ev_lst ?_)
    wtm_at "ea"
    refine ⟨Nat.le_of_ble_eq_true rfl, ?_⟩
    wtm_at "ea"
    refine ⟨Nat.le_of_ble_eq_true rfl, fun pp => ?_⟩
    refine ⟨_, by wtm_at "pt", ?_⟩
    refine run_set (by wtm_at "loc") (by wtm_at "mem") ?_
    wtm_at "ea"
    refine ⟨_, by wtm_at "pt", ?_⟩
    have v0 : VN a1 a2 (some 0, some 0) := ⟨fun r hr => by cases hr; exact o1.pos, fun r hr => by cases hr; exact o2.pos⟩
    have hB : (a1.tab.length + 1) * (a2.tab.length + 1) ≤ 81 := Nat.mul_le_mul (show a1.tab.length + 1 ≤ 9 by omega) (show a2.tab.length + 1 ≤ 9 by omega)
    refine run_while rfl (fun n G' L' => ∃ (c d e f : Option D) (i : Nat) (ps : List NKey), G' = [some (.lst (lawD a1)), some (.lst (lawD a2)), some (.ref pp), some (nD i), c, d, e, f] ∧ L' = [(pp, .lst (ps.map pairD))] ∧ BfI a1 a2 (some 0, some 0) i ps ∧ i ≤ ps.length ∧ n + i = (a1.tab.length + 1) * (a2.tab.length + 1))
      ((a1.tab.length + 1) * (a2.tab.length + 1)) ⟨_, _, _, _, 0, [(some 0, some 0)], rfl, rfl, BfI.start v0, Nat.zero_le _, rfl⟩ ?_
    rintro n G' L' ⟨c, d, e, f, i, ps, rfl, rfl, bf, hi, hn⟩
    have hb := bf.bd
    wtm_at "gm"
    · rename_i q
      have q' : i < ps.length := by
        rw [List.length_map] at q
        have := of_decide_eq_true q
        omega
      have hpi : ps[i]? = some ps[i] := List.getElem?_eq_getElem q'
      generalize hk0 : ps[i] = k at hpi
      have hv := bf.v k (List.mem_of_getElem? hpi)
      refine run_for rfl rfl (ei_lst (ev_lstF ?_))
      wtm_at "ea"
      refine ⟨Nat.le_of_ble_eq_true rfl, _, .frz, ?_⟩
      refine for_map (List.range 3) (fun l => .str (letS l)) rfl (fun l G' L' => ∃ (c d e f : Option D), G' = [some (.lst (lawD a1)), some (.lst (lawD a2)), some (.ref pp), some (nD i), c, d, e, f] ∧
        L' = [(pp, .lst (((List.range l).foldl (fun ps l => addK ps (succN a1 a2 k l)) ps).map pairD))]) ⟨_, _, _, _, rfl, rfl⟩ (fun _ _ _ _ _ h => nomatch h) ?_ ?_
      · rintro F1 l x G' L' hx hlt ⟨c, d, e, f, rfl, rfl⟩
        rw [List.length_range] at hlt
        obtain ⟨_, ey⟩ := List.getElem?_eq_some_iff.mp hx
        rw [List.getElem_range] at ey
        subst ey
        obtain ⟨b1, ⟨ext, b2⟩, _⟩ := bf.turn o1 o2 hpi l (by omega)
        have e1 : (List.range (l + 1)).foldl (fun ps l => addK ps (succN a1 a2 k l)) ps = addK ((List.range l).foldl (fun ps l => addK ps (succN a1 a2 k l)) ps) (succN a1 a2 k l) := by
          rw [List.range_succ, List.foldl_append]
          rfl
        have hbl := b1.bd
        have hfi : ((List.range l).foldl (fun ps l => addK ps (succN a1 a2 k l)) ps)[i]? = some k := by rw [b2, List.getElem?_append_left q', hpi]
        rw [e1]
        generalize (List.range l).foldl (fun ps l => addK ps (succN a1 a2 k l)) ps = fs at hbl hfi
        refine tgt_name (by wtm_at "loc") (by wtm_at "pt") ?_
        refine run_asg ?_
        wtm_at "ea"
        refine ix_L (.own (by wtm_at "nm")) (at_nat (j := i) rfl (by rw [List.getElem?_map, hfi]; rfl)) ?_
        refine tgt_two rfl (tgt_name (by wtm_at "loc") (by wtm_at "pt") (tgt_name (by wtm_at "loc") (by wtm_at "pt") ?_))
        refine run_set (by wtm_at "loc") (by wtm_at "mem") ?_
        wtm_at "ea"
        refine calls0 ⟨a1, k.1, l, by rw [optN_oV], o1, hv.1, hlt, rfl, ?_⟩
        rw [optN_oV]
        wtm_at "ea"
        refine calls0 ⟨a2, k.2, l, by rw [optN_oV], o2, hv.2, hlt, rfl, ?_⟩
        rw [optN_oV]
        wtm_at "ea"
        refine ⟨Nat.le_of_ble_eq_true rfl, ?_⟩
        refine ⟨_, by wtm_at "pt", ?_⟩
        show TL.Run _ [some (.lst (lawD a1)), some (.lst (lawD a2)), some (.ref pp), some (nD i), some (.str (letS l)), some (D.v (oV k.1)), some (D.v (oV k.2)), some (pairD (succN a1 a2 k l))] _ _ _
        generalize succN a1 a2 k l = ks
        refine run_if (tst_cmp ?_)
        wtm_at "ea"
        refine op_niP rfl (pyK_of ks) (.lst (.own (by wtm_at "nm")) (pyKs_of fs)) (pyK_shp ks) (pyKs_shp fs) ?_
        rw [any_pyK]
        by_cases hin : ks ∈ fs
        · rw [decide_eq_true hin]
          refine ⟨false, rfl, (fun q => nomatch q), fun _ => ?_⟩
          refine run_nil (run_nil ⟨_, _, _, _, rfl, ?_⟩)
          unfold addK
          rw [if_pos hin]
          rfl
        · rw [decide_eq_false hin]
          refine ⟨true, rfl, fun _ => ?_, (fun q => nomatch q)⟩
          refine run_expr (ev_append ?_)
          wtm_at "ea"
          refine ⟨pp, _, rfl, by wtm_at "nm", ?_⟩
          wtm_at "ea"
          refine ⟨_, _, .here, by rw [List.length_map]; exact sz_lt (by omega), ?_⟩
          refine run_nil (run_nil ⟨_, _, _, _, rfl, ?_⟩)
          unfold addK
          rw [if_neg hin, List.map_append]
          rfl
      · rintro G' L' ⟨c, d, e, f, rfl, rfl⟩
        have b1 := bf.next o1 o2 hpi
        obtain ⟨_, ⟨ext, b2⟩, _⟩ := bf.turn o1 o2 hpi 3 (Nat.le_refl _)
        have hbl := b1.bd
        refine run_set (by wtm_at "loc") (by wtm_at "mem") ?_
        wtm_at "ea"
        refine op_addI ?_
        refine ⟨_, by wtm_at "pt", ?_⟩
        refine run_nil ⟨n - 1, by omega, _, _, _, _, i + 1, _, rfl, rfl, b1, ?_, by omega⟩
        show i + 1 ≤ ((List.range 3).foldl (fun ps l => addK ps (succN a1 a2 k l)) ps).length
        rw [b2, List.length_append]
        omega
    · rename_i q
      have q' : ps.length ≤ i := by
        rw [List.length_map] at q
        have := of_decide_eq_false q
        omega
      refine run_ret ?_
      wtm_at "ea"
      exact hk pp i ps bf q'
def spLIn : Prm := fun ds L KK KE => ∃ m1 m2 : Mac, ds = [.lst (lawD m1), .lst (lawD m2)] ∧ m1.Ok ∧ m2.Ok ∧ m1.tab.length ≤ 8 ∧ m2.tab.length ≤ 8 ∧ L = [] ∧ ∀ b : Bool, (b = true ↔ Sub m1 m2) → KK (.bl b) []
theorem hasB_end (m : Mac) (t : List Nat) : hasB m t = endB m (behL m 0 t) := by
  unfold hasB endB
  cases behL m 0 t <;> rfl
theorem flat_oV (o : Option Nat) : flatV (oV o) = true := by cases o <;> rfl
theorem in_oV (o : Option Nat) (m : Mac) : inD (oV o) (m.last.map nD) = endB m o := by
  have := in_rows o m.last
  cases o <;> exact this
theorem sub_pairs {m1 m2 : Mac} {i : Nat} {ps : List NKey} (bf : BfI m1 m2 (some 0, some 0) i ps) (hi : ps.length ≤ i) : (∀ k ∈ ps, endB m1 k.1 = true → endB m2 k.2 = true) ↔ Sub m1 m2 := by
  refine ⟨fun h t ht h1 => ?_, fun h k hk h1 => ?_⟩
  · have hm := bf.all hi _ rfl ht
    rw [behN_some] at hm
    rw [hasB_end] at h1 ⊢
    exact h _ hm h1
  · obtain ⟨t, ht, e⟩ := bf.rc k hk
    rw [behN_some] at e
    subst e
    have := h t ht
    rw [hasB_end, hasB_end] at this
    exact this h1
theorem ok_lin {f : Addr} {fd : FuncData} (FF : Fun K "_law_in" "_law_in" s__law_in f fd) (B : Bi mg) (g1 : Glob P w K mg base "_law_pairs" ["_law_one", "_law_two"] spLPairs 2) : Def P w K mg base 3 f fd ["_law_one", "_law_two"] spLIn := by
  refine def_ok FF sc__law_in ?_ ?_
  · rintro ds L KK KE ⟨a1, a2, rfl, _⟩
    rfl
  · rintro ds L KK KE ⟨a1, a2, rfl, o1, o2, h1, h2, rfl, hk⟩ H0 F0
    wtm_at "bg"
    have flr : ∀ m : Mac, (m.last.map nD).all flatD = true := fun m => by
      rw [List.all_map]
      exact List.all_eq_true.mpr fun _ _ => rfl
    refine run_for rfl rfl (ei_lst (ev_frz ?_))
    wtm_at "ea"
    refine calls0 ⟨a1, a2, rfl, o1, o2, h1, h2, rfl, fun p i ps bf hi => ?_⟩
    have sp := sub_pairs bf hi
    refine ⟨_, _, _, rfl, .here, _, .frz, ?_⟩
    refine for_pre ps (fun k => pairD k) rfl (fun pre G' L' => ∃ (c d : Option D), G' = [some (.lst (lawD a1)), some (.lst (lawD a2)), c, d] ∧ L' = [] ∧ ∀ k ∈ pre, endB a1 k.1 = true → endB a2 k.2 = true) ⟨_, _, rfl, rfl, fun _ h => nomatch h⟩ (fun _ _ _ _ _ h => nomatch h) ?_ ?_
    · rintro F1 pre k suf G' L' hsp ⟨c, d, rfl, rfl, hpre⟩
      have hkm : k ∈ ps := by rw [hsp]; exact List.mem_append_right _ List.mem_cons_self
      refine tgt_two rfl (tgt_name (by wtm_at "loc") (by wtm_at "pt") (tgt_name (by wtm_at "loc") (by wtm_at "pt") ?_))
      have nx : (endB a1 k.1 = true → endB a2 k.2 = true) → ∀ x ∈ pre ++ [k], endB a1 x.1 = true → endB a2 x.2 = true := fun h x hx => by
        rcases List.mem_append.mp hx with hx | hx
        · exact hpre x hx
        · rw [List.mem_singleton.mp hx]; exact h
      refine run_if (tst_bool (tw_and (tst_cmp ?_)))
      wtm_at "ea"
      refine ix_L .frz (at_nat (j := 1) rfl rfl) ?_
      refine op_inQ (.lst .frz) (flat_oV _) (flr a1) ?_
      rw [in_oV]
      cases e1 : endB a1 k.1 with
      | false =>
        refine ⟨false, rfl, (fun q => nomatch q), fun _ => ?_⟩
        refine ⟨(fun q => nomatch q), fun _ => ?_⟩
        exact run_nil (run_nil ⟨_, _, rfl, rfl, nx fun q => by rw [e1] at q; cases q⟩)
      | true =>
        refine ⟨true, rfl, (fun _ => ?_), fun q => nomatch q⟩
        refine tw_and1 (tst_cmp ?_)
        wtm_at "ea"
        refine ix_L .frz (at_nat (j := 1) rfl rfl) ?_
        refine op_niQ (.lst .frz) (flat_oV _) (flr a2) ?_
        rw [in_oV]
        cases e2 : endB a2 k.2 with
        | true =>
          refine ⟨false, rfl, (fun q => nomatch q), fun _ => ?_⟩
          exact run_nil (run_nil ⟨_, _, rfl, rfl, nx fun _ => e2⟩)
        | false =>
          refine ⟨true, rfl, (fun _ => ?_), fun q => nomatch q⟩
          refine run_ret0 ?_
          wtm_at "ea"
          refine hk false ⟨(fun q => nomatch q), fun q => ?_⟩
          have := sp.mpr q k hkm e1
          rw [e2] at this
          cases this
    · rintro G' L' ⟨c, d, rfl, rfl, hall⟩
      refine run_ret0 ?_
      wtm_at "ea"
      exact hk true ⟨fun _ => sp.mp hall, fun _ => rfl⟩
end
end Rk01
open PySem L2 TL
namespace Rk01
section
variable {P : Program} {w : World} {K : PySem.W.Frag} {mg : Str → Option Value} {base : Heap}
def spLAlike : Prm := fun ds L KK KE => ∃ (m : Mac) (r s : Nat), ds = [.lst (lawD m), nD r, nD s] ∧ m.Ok ∧ m.tab.length ≤ 8 ∧ r < m.tab.length ∧ s < m.tab.length ∧ L = [] ∧ ∀ b : Bool, (b = true ↔ EqvR m r s) → KK (.bl b) []
theorem eqv_pairs {m : Mac} {r s : Nat} {i : Nat} {ps : List NKey} (bf : BfI m m (some r, some s) i ps) (hi : ps.length ≤ i) : (∀ k ∈ ps, endB m k.1 = endB m k.2) ↔ EqvR m r s := by
  refine ⟨fun h t ht => ?_, fun h k hk => ?_⟩
  · have hm := bf.all hi _ rfl ht
    rw [behN_some] at hm
    exact h _ hm
  · obtain ⟨t, ht, e⟩ := bf.rc k hk
    rw [behN_some] at e
    subst e
    exact h t ht
theorem ok_lalike {f : Addr} {fd : FuncData} (FF : Fun K "_law_alike" "_law_alike" s__law_alike f fd) (B : Bi mg) (g1 : Glob P w K mg base "_law_after" ["_law_machine_here", "_law_row_here", "_law_letter"] spLAfter2 1) : Def P w K mg base 2 f fd ["_law_machine_here", "_law_row_here", "_law_other"] spLAlike := by
  refine def_ok FF sc__law_alike ?_ ?_
  · rintro ds L KK KE ⟨m, r, s, rfl, _⟩
    rfl
  · rintro ds L KK KE ⟨m, r, s, rfl, ok, h8, hr, hs, rfl, hk⟩ H0 F0
    wtm_at "bg"
    have flr : (m.last.map nD).all flatD = true := by
      rw [List.all_map]
      exact List.all_eq_true.mpr fun _ _ => rfl
    refine run_set (by wtm_at "loc") (by wtm_at "mem") (ev_lst ?_)
    wtm_at "ea"
    refine ⟨Nat.le_of_ble_eq_true rfl, ?_⟩
    wtm_at "ea"
    refine ⟨Nat.le_of_ble_eq_true rfl, fun pp => ?_⟩
    refine ⟨_, by wtm_at "pt", ?_⟩
    refine run_set (by wtm_at "loc") (by wtm_at "mem") ?_
    wtm_at "ea"
    refine ⟨_, by wtm_at "pt", ?_⟩
    have v0 : VN m m (some r, some s) := ⟨fun x hx => by cases hx; exact hr, fun x hx => by cases hx; exact hs⟩
    have hB : (m.tab.length + 1) * (m.tab.length + 1) ≤ 81 := Nat.mul_le_mul (show m.tab.length + 1 ≤ 9 by omega) (show m.tab.length + 1 ≤ 9 by omega)
    refine run_while rfl (fun n G' L' => ∃ (c d e f : Option D) (i : Nat) (ps : List NKey), G' = [some (.lst (lawD m)), some (nD r), some (nD s), some (.ref pp), some (nD i), c, d, e, f] ∧ L' = [(pp, .lst (ps.map pairD))] ∧ BfI m m (some r, some s) i ps ∧ i ≤ ps.length ∧ (∀ j k, j < i → ps[j]? = some k → endB m k.1 = endB m k.2) ∧ n + i = (m.tab.length + 1) * (m.tab.length + 1))
      ((m.tab.length + 1) * (m.tab.length + 1)) ⟨_, _, _, _, 0, [(some r, some s)], rfl, rfl, BfI.start v0, Nat.zero_le _, fun j k hj => absurd hj (Nat.not_lt_zero j), rfl⟩ ?_
    rintro n G' L' ⟨c, d, e, f, i, ps, rfl, rfl, bf, hi, hev, hn⟩
    have hb := bf.bd
    wtm_at "gm"
    · rename_i q
      have q' : i < ps.length := by
        rw [List.length_map] at q
        have := of_decide_eq_true q
        omega
      have hpi : ps[i]? = some ps[i] := List.getElem?_eq_getElem q'
      generalize hk0 : ps[i] = k at hpi
      have hv := bf.v k (List.mem_of_getElem? hpi)
      refine run_asg ?_
      wtm_at "ea"
      refine ix_L (.own (by wtm_at "nm")) (at_nat (j := i) rfl (by rw [List.getElem?_map, hpi]; rfl)) ?_
      refine tgt_two rfl (tgt_name (by wtm_at "loc") (by wtm_at "pt") (tgt_name (by wtm_at "loc") (by wtm_at "pt") ?_))
      refine run_if (tst_cmp ?_)
      wtm_at "ea"
      refine ix_L .frz (at_nat (j := 1) rfl rfl) ?_
      refine op_inQ (.lst .frz) (flat_oV _) flr ?_
      rw [in_oV]
      wtm_at "ea"
      refine ix_L .frz (at_nat (j := 1) rfl rfl) ?_
      refine op_inQ (.lst .frz) (flat_oV _) flr ?_
      rw [in_oV]
      refine op_neB ?_
      by_cases he : endB m k.1 = endB m k.2
      · rw [decide_eq_true he]
        refine ⟨false, rfl, (fun q => nomatch q), fun _ => ?_⟩
        refine run_nil ?_
        refine run_for rfl rfl (ei_lst (ev_lstF ?_))
        wtm_at "ea"
        refine ⟨Nat.le_of_ble_eq_true rfl, _, .frz, ?_⟩
        refine for_map (List.range 3) (fun l => .str (letS l)) rfl (fun l G' L' => ∃ (e f : Option D), G' = [some (.lst (lawD m)), some (nD r), some (nD s), some (.ref pp), some (nD i), some (D.v (oV k.1)), some (D.v (oV k.2)), e, f] ∧
          L' = [(pp, .lst (((List.range l).foldl (fun ps l => addK ps (succN m m k l)) ps).map pairD))]) ⟨_, _, rfl, rfl⟩ (fun _ _ _ _ _ h => nomatch h) ?_ ?_
        · rintro F1 l x G' L' hx hlt ⟨e, f, rfl, rfl⟩
          rw [List.length_range] at hlt
          obtain ⟨_, ey⟩ := List.getElem?_eq_some_iff.mp hx
          rw [List.getElem_range] at ey
          subst ey
          obtain ⟨b1, _, _⟩ := bf.turn ok ok hpi l (by omega)
          have e1 : (List.range (l + 1)).foldl (fun ps l => addK ps (succN m m k l)) ps = addK ((List.range l).foldl (fun ps l => addK ps (succN m m k l)) ps) (succN m m k l) := by
            rw [List.range_succ, List.foldl_append]
            rfl
          have hbl := b1.bd
          rw [e1]
          generalize (List.range l).foldl (fun ps l => addK ps (succN m m k l)) ps = fs at hbl
          refine tgt_name (by wtm_at "loc") (by wtm_at "pt") ?_
          refine run_set (by wtm_at "loc") (by wtm_at "mem") ?_
          wtm_at "ea"
          refine calls0 ⟨m, k.1, l, by rw [optN_oV], ok, hv.1, hlt, rfl, ?_⟩
          rw [optN_oV]
          wtm_at "ea"
          refine calls0 ⟨m, k.2, l, by rw [optN_oV], ok, hv.2, hlt, rfl, ?_⟩
          rw [optN_oV]
          wtm_at "ea"
          refine ⟨Nat.le_of_ble_eq_true rfl, ?_⟩
          refine ⟨_, by wtm_at "pt", ?_⟩
          show TL.Run _ [some (.lst (lawD m)), some (nD r), some (nD s), some (.ref pp), some (nD i), some (D.v (oV k.1)), some (D.v (oV k.2)), some (.str (letS l)), some (pairD (succN m m k l))] _ _ _
          generalize succN m m k l = ks
          refine run_if (tst_cmp ?_)
          wtm_at "ea"
          refine op_niP rfl (pyK_of ks) (.lst (.own (by wtm_at "nm")) (pyKs_of fs)) (pyK_shp ks) (pyKs_shp fs) ?_
          rw [any_pyK]
          by_cases hin : ks ∈ fs
          · rw [decide_eq_true hin]
            refine ⟨false, rfl, (fun q => nomatch q), fun _ => ?_⟩
            refine run_nil (run_nil ⟨_, _, rfl, ?_⟩)
            unfold addK
            rw [if_pos hin]
            rfl
          · rw [decide_eq_false hin]
            refine ⟨true, rfl, fun _ => ?_, (fun q => nomatch q)⟩
            refine run_expr (ev_append ?_)
            wtm_at "ea"
            refine ⟨pp, _, rfl, by wtm_at "nm", ?_⟩
            wtm_at "ea"
            refine ⟨_, _, .here, by rw [List.length_map]; exact sz_lt (by omega), ?_⟩
            refine run_nil (run_nil ⟨_, _, rfl, ?_⟩)
            unfold addK
            rw [if_neg hin, List.map_append]
            rfl
        · rintro G' L' ⟨e, f, rfl, rfl⟩
          have b1 := bf.next ok ok hpi
          obtain ⟨_, ⟨ext, b2⟩, _⟩ := bf.turn ok ok hpi 3 (Nat.le_refl _)
          have hbl := b1.bd
          refine run_set (by wtm_at "loc") (by wtm_at "mem") ?_
          wtm_at "ea"
          refine op_addI ?_
          refine ⟨_, by wtm_at "pt", ?_⟩
          refine run_nil ⟨n - 1, by omega, _, _, _, _, i + 1, _, rfl, rfl, b1, ?_, fun j x hj hx => ?_, by omega⟩
          · show i + 1 ≤ ((List.range 3).foldl (fun ps l => addK ps (succN m m k l)) ps).length
            rw [b2, List.length_append]
            omega
          · have hx : ((List.range 3).foldl (fun ps l => addK ps (succN m m k l)) ps)[j]? = some x := hx
            rw [b2, List.getElem?_append_left (by omega)] at hx
            rcases Nat.lt_or_ge j i with z | z
            · exact hev j x z hx
            · rw [show j = i by omega, hpi] at hx
              cases hx
              exact he
      · rw [decide_eq_false he]
        refine ⟨true, rfl, (fun _ => ?_), fun q => nomatch q⟩
        refine run_ret0 ?_
        wtm_at "ea"
        refine hk false ⟨(fun q => nomatch q), fun q => ?_⟩
        obtain ⟨t, ht, e⟩ := bf.rc k (List.mem_of_getElem? hpi)
        rw [behN_some] at e
        subst e
        exact absurd (q t ht) he
    · rename_i q
      have q' : ps.length ≤ i := by
        rw [List.length_map] at q
        have := of_decide_eq_false q
        omega
      refine run_ret0 ?_
      wtm_at "ea"
      refine hk true ⟨fun _ => (eqv_pairs bf q').mp fun k hkm => ?_, fun _ => rfl⟩
      obtain ⟨j, hj⟩ := List.mem_iff_getElem?.mp hkm
      have := (List.getElem?_eq_some_iff.mp hj).1
      exact hev j k (by omega) hj
def spLFew : Prm := fun ds L KK KE => ∃ m : Mac, ds = [.lst (lawD m)] ∧ m.Ok ∧ m.tab.length ≤ 8 ∧ L = [] ∧ ∀ fs : List Nat, (∀ r ∈ fs, r ∈ needed m) → fs.Pairwise (fun a b => ¬ EqvR m a b) → (∀ r ∈ needed m, ∃ s ∈ fs, EqvR m r s) → KK (nD (max 1 fs.length)) []
theorem ok_lfew {f : Addr} {fd : FuncData} (FF : Fun K "_law_fewest" "_law_fewest" s__law_fewest f fd) (B : Bi mg) (g1 : Glob P w K mg base "_law_needed" ["_law_machine_here"] spLNeeded 1) (g2 : Glob P w K mg base "_law_alike" ["_law_machine_here", "_law_row_here", "_law_other"] spLAlike 2) : Def P w K mg base 3 f fd ["_law_machine_here"] spLFew := by
  refine def_ok FF sc__law_fewest ?_ ?_
  · rintro ds L KK KE ⟨m, rfl, _⟩
    rfl
  · rintro ds L KK KE ⟨m, rfl, ok, h8, rfl, hk⟩ H0 F0
    wtm_at "bg"
    have hnl := needed_len m
    refine run_set (by wtm_at "loc") (by wtm_at "mem") (ev_frz ?_)
    wtm_at "ea"
    refine calls0 ⟨m, rfl, ok, by omega, rfl, fun p => ?_⟩
    refine ⟨_, _, _, rfl, .here, ?_⟩
    refine ⟨_, by wtm_at "pt", ?_⟩
    refine run_set (by wtm_at "loc") (by wtm_at "mem") (ev_lst ?_)
    wtm_at "ea"
    refine ⟨Nat.zero_le _, fun pf => ?_⟩
    refine ⟨_, by wtm_at "pt", ?_⟩
    refine run_for rfl rfl (ei_lst ?_)
    wtm_at "ea"
    refine ⟨_, .frz, ?_⟩
    refine for_pre (needed m) (fun r => nD r) rfl (fun pre G' L' => ∃ (c d e : Option D) (fs : List Nat), G' = [some (.lst (lawD m)), some (.lst ((needed m).map nD)), some (.ref pf), c, d, e] ∧ L' = [(pf, .lst (fs.map nD))] ∧
      (∀ r ∈ fs, r ∈ needed m) ∧ fs.Pairwise (fun a b => ¬ EqvR m a b) ∧ (∀ r ∈ pre, ∃ s ∈ fs, EqvR m r s) ∧ fs.length ≤ pre.length) ⟨_, _, _, [], rfl, rfl, (fun _ h => nomatch h), .nil, (fun _ h => nomatch h), Nat.zero_le _⟩ (fun _ _ _ _ _ h => nomatch h) ?_ ?_
    · rintro F1 pre r suf G' L' hsp ⟨c, d, e, fs, rfl, rfl, f1, f2, f3, f4⟩
      have hrm : r ∈ needed m := by rw [hsp]; exact List.mem_append_right _ List.mem_cons_self
      have hpl : pre.length < 8 := by
        have := congrArg List.length hsp
        rw [List.length_append, List.length_cons] at this
        omega
      refine tgt_name (by wtm_at "loc") (by wtm_at "pt") ?_
      refine run_set (by wtm_at "loc") (by wtm_at "mem") ?_
      wtm_at "ea"
      refine ⟨_, by wtm_at "pt", ?_⟩
      refine run_for rfl rfl (ei_lst ?_)
      wtm_at "ea"
      refine ⟨_, .own (by wtm_at "nm"), ?_⟩
      refine for_pre fs (fun r => nD r) rfl (fun p2 G' L' => ∃ (e : Option D) (b : Bool), G' = [some (.lst (lawD m)), some (.lst ((needed m).map nD)), some (.ref pf), some (nD r), some (.bl b), e] ∧ L' = [(pf, .lst (fs.map nD))] ∧ (b = true ↔ ∃ s ∈ p2, EqvR m r s))
        ⟨_, _, rfl, rfl, (fun q => nomatch q), fun ⟨_, q, _⟩ => nomatch q⟩ (fun _ _ _ ⟨_, _, _, e2, _⟩ s hs => by subst e2; rw [List.mem_singleton.mp hs]; exact .head _) ?_ ?_
      · rintro F2 p2 s suf2 G' L' hsp2 ⟨e, b, rfl, rfl, hb⟩
        have hsm := f1 s (by rw [hsp2]; exact List.mem_append_right _ List.mem_cons_self)
        have nx : (b = true ∨ EqvR m r s) ↔ ∃ x ∈ p2 ++ [s], EqvR m r x := by
          constructor
          · rintro (h | h)
            · obtain ⟨x, hx, q⟩ := hb.mp h
              exact ⟨x, List.mem_append_left _ hx, q⟩
            · exact ⟨s, List.mem_append_right _ List.mem_cons_self, h⟩
          · rintro ⟨x, hx, q⟩
            rcases List.mem_append.mp hx with hx | hx
            · exact .inl (hb.mpr ⟨x, hx, q⟩)
            · rw [List.mem_singleton.mp hx] at q
              exact .inr q
        refine tgt_name (by wtm_at "loc") (by wtm_at "pt") ?_
        wtm_at "gm"
        refine calls0 ⟨m, r, s, rfl, ok, h8, needed_lt hrm, needed_lt hsm, rfl, fun b2 hb2 => ?_⟩
        refine ⟨b2, tr_bl, fun hq => ?_, fun hq => ?_⟩
        · refine run_set (by wtm_at "loc") (by wtm_at "mem") ?_
          wtm_at "ea"
          refine ⟨_, by wtm_at "pt", ?_⟩
          exact run_nil (run_nil ⟨_, true, rfl, rfl, (fun _ => nx.mp (.inr (hb2.mp hq))), fun _ => rfl⟩)
        · refine run_nil (run_nil ⟨_, b, rfl, rfl, (fun q => nx.mp (.inl q)), fun q => ?_⟩)
          rcases nx.mpr q with q | q
          · exact q
          · rw [hb2.mpr q] at hq
            cases hq
      · rintro G' L' ⟨e, b, rfl, rfl, hb⟩
        cases b with
        | true =>
          refine run_if (tst_not (tst_val ?_))
          wtm_at "ea"
          refine ⟨_, tr_bl, (fun q => nomatch q), fun _ => ?_⟩
          refine run_nil (run_nil ⟨_, _, _, fs, rfl, rfl, f1, f2, fun x hx => ?_, by rw [List.length_append]; omega⟩)
          rcases List.mem_append.mp hx with hx | hx
          · exact f3 x hx
          · rw [List.mem_singleton.mp hx]
            exact hb.mp rfl
        | false =>
          refine run_if (tst_not (tst_val ?_))
          wtm_at "ea"
          refine ⟨_, tr_bl, (fun _ => ?_), fun q => nomatch q⟩
          refine run_expr (ev_append ?_)
          wtm_at "ea"
          refine ⟨pf, _, rfl, by wtm_at "nm", ?_⟩
          wtm_at "ea"
          refine ⟨_, _, .here, by rw [List.length_map]; exact sz_lt (by omega), ?_⟩
          refine run_nil (run_nil ⟨_, _, _, fs ++ [r], rfl, ?_, ?_, ?_, fun x hx => ?_, by rw [List.length_append, List.length_append]; exact Nat.add_le_add_right f4 _⟩)
          · rw [List.map_append]
            rfl
          · intro x hx
            rcases List.mem_append.mp hx with hx | hx
            · exact f1 x hx
            · rw [List.mem_singleton.mp hx]
              exact hrm
          · refine List.pairwise_append.mpr ⟨f2, List.pairwise_singleton _ _, fun a ha x hx q => ?_⟩
            rw [List.mem_singleton.mp hx] at q
            have := hb.mpr ⟨a, ha, fun t ht => (q t ht).symm⟩
            cases this
          · rcases List.mem_append.mp hx with hx | hx
            · obtain ⟨s, hs, q⟩ := f3 x hx
              exact ⟨s, List.mem_append_left _ hs, q⟩
            · rw [List.mem_singleton.mp hx]
              exact ⟨r, List.mem_append_right _ List.mem_cons_self, fun _ _ => rfl⟩
    · rintro G' L' ⟨c, d, e, fs, rfl, rfl, f1, f2, f3, f4⟩
      have hf := hk fs f1 f2 f3
      refine run_ret0 ?_
      wtm_at "ea"
      rw [List.length_map, show max (1 : Int) ((fs.length : Nat) : Int) = ((max 1 fs.length : Nat) : Int) by omega]
      exact hf
end
end Rk01
open PySem L2 TL
namespace Rk01
section
variable {P : Program} {w : World} {K : PySem.W.Frag} {mg : Str → Option Value} {base : Heap}
def layerN (nl : Nat) : Nat → List (List Nat)
  | 0 => [[]]
  | k + 1 => (layerN nl k).flatMap fun w => (List.range nl).map fun l => w ++ [l]
def foundN (nl : Nat) : Nat → List (List Nat)
  | 0 => [[]]
  | k + 1 => foundN nl k ++ layerN nl (k + 1)
theorem layerN_len (nl : Nat) : ∀ k, (layerN nl k).length = nl ^ k
  | 0 => rfl
  | k + 1 => by
    have h : ∀ l : List (List Nat), (l.flatMap fun w => (List.range nl).map fun l => w ++ [l]).length = l.length * nl := by
      intro l
      induction l with
      | nil => rw [List.flatMap_nil, List.length_nil, Nat.zero_mul]
      | cons x l ih => rw [List.flatMap_cons, List.length_append, ih, List.length_cons, Nat.succ_mul, Nat.add_comm, List.length_map, List.length_range]
    rw [layerN, h, layerN_len nl k, Nat.pow_succ]
theorem layerN_mem {nl : Nat} : ∀ {k : Nat} {w : List Nat}, w ∈ layerN nl k ↔ w.length = k ∧ ∀ x ∈ w, x < nl
  | 0, w => by
    rw [layerN, List.mem_singleton]
    constructor
    · rintro rfl
      exact ⟨rfl, fun _ h => (nomatch h)⟩
    · rintro ⟨h, _⟩
      exact List.length_eq_zero_iff.mp h
  | k + 1, w => by
    rw [layerN, List.mem_flatMap]
    constructor
    · rintro ⟨v, hv, h⟩
      obtain ⟨h1, h2⟩ := layerN_mem.mp hv
      obtain ⟨l, hl, rfl⟩ := List.mem_map.mp h
      refine ⟨by rw [List.length_append, h1]; rfl, fun x hx => ?_⟩
      rcases List.mem_append.mp hx with hx | hx
      · exact h2 x hx
      · rw [List.mem_singleton.mp hx]; exact List.mem_range.mp hl
    · rintro ⟨h1, h2⟩
      obtain ⟨v, x, rfl⟩ : ∃ v x, w = v ++ [x] := ⟨w.dropLast, w.getLast (fun q => by rw [q] at h1; cases h1), (List.dropLast_concat_getLast _).symm⟩
      refine ⟨v, layerN_mem.mpr ⟨?_, fun y hy => h2 y (List.mem_append_left _ hy)⟩, List.mem_map.mpr ⟨x, List.mem_range.mpr (h2 x (List.mem_append_right _ List.mem_cons_self)), rfl⟩⟩
      rw [List.length_append] at h1
      simpa using h1
theorem foundN_mem {nl : Nat} : ∀ {k : Nat} {w : List Nat}, w ∈ foundN nl k ↔ w.length ≤ k ∧ ∀ x ∈ w, x < nl
  | 0, w => by
    rw [foundN]
    exact (layerN_mem (nl := nl) (k := 0)).trans ⟨fun ⟨h1, h2⟩ => ⟨Nat.le_of_eq h1, h2⟩, fun ⟨h1, h2⟩ => ⟨Nat.le_zero.mp h1, h2⟩⟩
  | k + 1, w => by
    rw [foundN, List.mem_append, foundN_mem (k := k), layerN_mem]
    constructor
    · rintro (⟨h1, h2⟩ | ⟨h1, h2⟩)
      · exact ⟨by omega, h2⟩
      · exact ⟨by omega, h2⟩
    · rintro ⟨h1, h2⟩
      rcases Nat.lt_or_ge k w.length with h | h
      · exact .inr ⟨by omega, h2⟩
      · exact .inl ⟨h, h2⟩
theorem ord_bd : ∀ (k : Nat) {w : List Nat}, w.length = k → (∀ x ∈ w, x < 3) → 3 ^ k ≤ 2 * ord w + 1 ∧ 2 * ord w + 3 ≤ 3 ^ (k + 1) := by
  intro k
  induction k with
  | zero =>
    intro w h _
    cases List.length_eq_zero_iff.mp h
    exact ⟨by decide, by decide⟩
  | succ k ih =>
    intro w h h3
    rcases snoc_cases w with rfl | ⟨v, x, rfl⟩
    · cases h
    rw [List.length_append, List.length_singleton] at h
    obtain ⟨i1, i2⟩ := ih (w := v) (by omega) fun y hy => h3 y (List.mem_append_left _ hy)
    have hx := h3 x (List.mem_append_right _ List.mem_cons_self)
    rw [ord_snoc, Nat.pow_succ 3 (k + 1), Nat.pow_succ 3 k] at *
    omega
theorem ord_shorter {a b : List Nat} (ha : ∀ x ∈ a, x < 3) (hb : ∀ x ∈ b, x < 3) (h : a.length < b.length) : ord a < ord b := by
  obtain ⟨_, h1⟩ := ord_bd _ rfl ha
  obtain ⟨h2, _⟩ := ord_bd _ rfl hb
  have := Nat.pow_le_pow_right (n := 3) (by decide) (show a.length + 1 ≤ b.length from h)
  omega
theorem layerN_up {nl : Nat} (h3 : nl ≤ 3) : ∀ k, (layerN nl k).Pairwise fun a b => ord a < ord b
  | 0 => List.pairwise_singleton _ _
  | k + 1 => by
    rw [layerN]
    refine List.pairwise_flatMap.mpr ⟨fun w _ => ?_, (layerN_up h3 k).imp fun {a b} hab x hx y hy => ?_⟩
    · refine List.pairwise_map.mpr ((List.pairwise_lt_range (n := nl)).imp fun {a b} h => ?_)
      rw [ord_snoc, ord_snoc]
      omega
    · obtain ⟨l, hl, rfl⟩ := List.mem_map.mp hx
      obtain ⟨l', hl', rfl⟩ := List.mem_map.mp hy
      have := List.mem_range.mp hl
      rw [ord_snoc, ord_snoc]
      omega
theorem foundN_up {nl : Nat} (h3 : nl ≤ 3) : ∀ k, (foundN nl k).Pairwise fun a b => ord a < ord b
  | 0 => List.pairwise_singleton _ _
  | k + 1 => by
    rw [foundN]
    refine List.pairwise_append.mpr ⟨foundN_up h3 k, layerN_up h3 (k + 1), fun a ha b hb => ?_⟩
    obtain ⟨a1, a2⟩ := foundN_mem.mp ha
    obtain ⟨b1, b2⟩ := layerN_mem.mp hb
    exact ord_shorter (fun x hx => Nat.lt_of_lt_of_le (a2 x hx) h3) (fun x hx => Nat.lt_of_lt_of_le (b2 x hx) h3) (by omega)
theorem layerN_bd {nl k : Nat} (h3 : nl ≤ 3) (hk : k ≤ 6) : (layerN nl k).length ≤ 729 := by
  rw [layerN_len]
  exact Nat.le_trans (Nat.pow_le_pow_left h3 k) (Nat.le_trans (Nat.pow_le_pow_right (by decide) hk) (by decide))
theorem foundN_len {nl : Nat} (h3 : nl ≤ 3) : ∀ k, k ≤ 6 → (foundN nl k).length ≤ (k + 1) * 729
  | 0, _ => by rw [foundN]; decide
  | k + 1, h => by
    have := foundN_len h3 k (by omega)
    have := layerN_bd (nl := nl) h3 h
    rw [foundN, List.length_append]
    omega
theorem flatN_len {α β : Type} (f : α → List β) (n : Nat) (xs : List α) (h : ∀ x ∈ xs, (f x).length ≤ n) : (xs.flatMap f).length ≤ n * xs.length := by
  induction xs with
  | nil => exact Nat.zero_le _
  | cons x xs ih =>
    have h1 := h x List.mem_cons_self
    have h2 := ih fun y hy => h y (List.mem_cons_of_mem _ hy)
    rw [List.flatMap_cons, List.length_append, List.length_cons, Nat.mul_succ]
    omega
abbrev txtsD (xs : List (List Nat)) : List D := xs.map fun w => D.str (txt w)
def spLTexts : Prm := fun ds L KK KE => ∃ nl k : Nat, ds = [.str (abS nl), nD k] ∧ (nl = 2 ∨ nl = 3) ∧ k ≤ 6 ∧ L = [] ∧ ∀ q, KK (.ref q) [(q, .lst (txtsD (foundN nl k)))]
theorem ok_ltexts {f : Addr} {fd : FuncData} (FF : Fun K "_law_texts" "_law_texts" s__law_texts f fd) (B : Bi mg) : Def P w K mg base 1 f fd ["_law_letters", "_law_size"] spLTexts := by
  refine def_ok FF sc__law_texts ?_ ?_
  · rintro ds L KK KE ⟨nl, k, rfl, _⟩
    rfl
  · rintro ds L KK KE ⟨nl, n, rfl, hnl, hn, rfl, hk⟩ H0 F0
    wtm_at "bg"
    have h3 : nl ≤ 3 := by omega
    have lets : (abS nl).cps.toList.map (fun c => D.str ⟨#[c]⟩) = (List.range nl).map fun l => D.str (letS l) := by
      rcases hnl with rfl | rfl <;> rfl
    generalize abS nl = Z at lets
    refine run_set (by wtm_at "loc") (by wtm_at "mem") (ev_lst (ea_cons (ev_str (ea_nil ⟨Nat.le_of_ble_eq_true rfl, fun pf0 => ?_⟩))))
    refine ⟨_, by wtm_at "pt", ?_⟩
    refine run_set (by wtm_at "loc") (by wtm_at "mem") (ev_lstF (ea_cons (ev_str (ea_nil ⟨Nat.le_of_ble_eq_true rfl, ?_⟩))))
    refine ⟨_, by wtm_at "pt", ?_⟩
    refine run_for rfl rfl (ei_rng1 (by wtm_at "gl") (by wtm_at "bi") ?_)
    wtm_at "ea"
    refine ⟨_, rfl, by omega, by omega, ?_⟩
    refine for_map (List.range n) (fun k => nD k) (rng0 n) (fun i G' L' => ∃ (pf : Addr) (x4 x5 x6 x7 : Option D), G' = [some (.str Z), some (nD n), some (.ref pf), some (.lst (txtsD (layerN nl i))), x4, x5, x6, x7] ∧ L' = [(pf, .lst (txtsD (foundN nl i)))]) ⟨pf0, _, _, _, _, rfl, rfl⟩ (fun _ _ _ _ _ h => nomatch h) ?_ ?_
    · rintro F2 i x G' L' hx hlt ⟨pf, x4, x5, x6, x7, rfl, rfl⟩
      rw [List.length_range] at hlt
      have hL := layerN_len nl i
      have b1 := layerN_bd (nl := nl) (k := i) h3 (by omega)
      have b2 := layerN_bd (nl := nl) (k := i + 1) h3 (by omega)
      have b3 := foundN_len (nl := nl) h3 i (by omega)
      refine tgt_name (by wtm_at "loc") (by wtm_at "pt") ?_
      refine run_set (by wtm_at "loc") (by wtm_at "mem") (ev_lst (ea_nil ⟨Nat.zero_le _, fun pn0 => ?_⟩))
      refine ⟨_, by wtm_at "pt", ?_⟩
      refine run_for rfl rfl (ei_lst ?_)
      wtm_at "ea"
      refine ⟨_, .frz, ?_⟩
      refine for_pre (layerN nl i) (fun w => D.str (txt w)) rfl (fun pre G' L' => ∃ (pn : Addr) (x4 x6 x7 : Option D), G' = [some (.str Z), some (nD n), some (.ref pf), some (.lst (txtsD (layerN nl i))), x4, some (.ref pn), x6, x7] ∧ L' = [(pn, .lst (txtsD (pre.flatMap fun w => (List.range nl).map fun l => w ++ [l]))), (pf, .lst (txtsD (foundN nl i)))]) ⟨pn0, _, _, _, rfl, rfl⟩ (fun _ _ _ _ _ h => nomatch h) ?_ ?_
      · rintro F3 pre v suf G' L' hsp ⟨pn, x4, x6, x7, rfl, rfl⟩
        have hpl : pre.length ≤ 729 := by
          have := congrArg List.length hsp
          rw [List.length_append] at this
          omega
        have hvl : v.length = i := (layerN_mem.mp (by rw [hsp]; exact List.mem_append_right _ List.mem_cons_self)).1
        have hfl := flatN_len (fun w : List Nat => (List.range nl).map fun l => w ++ [l]) 3 pre fun _ _ => by rw [List.length_map, List.length_range]; exact h3
        refine tgt_name (by wtm_at "loc") (by wtm_at "pt") ?_
        refine run_set (by wtm_at "loc") (by wtm_at "mem") ?_
        wtm_at "ea"
        refine ev_lc [("_law_letter", 7)] rfl (by kernel_rfl) (ei_str ?_)
        wtm_at "ea"
        refine ⟨_, rfl, ?_⟩
        refine lc_all (List.range nl) (fun l => D.str (letS l)) (fun l => D.str (txt (v ++ [l]))) lets (sz_lt (by rw [List.length_range]; omega)) (fun _ h => (nomatch h)) ?_ ?_
        · intro F5 Dl l acc hl
          refine tn_name (i := 7) (by wtm_at "loc") rfl (List.mem_singleton.mpr rfl) ?_
          wtm_at "wz"
          wtm_at "ea"
          refine op_addS (by rw [txt_len, letS_len]; exact Nat.le_of_lt (sz_lt (by omega))) ?_
          rw [← txt_snoc]
          exact ⟨rfl, List.Sublist.refl _⟩
        intro pc
        refine op_catL (.own (.tail _ (.head _))) (.own (.head _)) (by simp only [List.length_map, List.length_range]; exact Nat.le_of_lt (sz_lt (by omega))) fun p4 => ?_
        refine ⟨_, by wtm_at "pt", ?_⟩
        refine run_drop (.cons₂ _ (.cons _ (.cons _ (List.Sublist.refl _)))) ?_
        refine run_nil ⟨p4, _, _, _, rfl, ?_⟩
        rw [List.flatMap_append, List.flatMap_singleton]
        show _ = [(p4, OW.lst (List.map _ (_ ++ _))), _]
        rw [List.map_append, List.map_map (f := fun l => v ++ [l])]
        rfl
      · rintro G' L' ⟨pn, x4, x6, x7, rfl, rfl⟩
        refine run_set (by wtm_at "loc") (by wtm_at "mem") ?_
        wtm_at "ea"
        refine ⟨_, by wtm_at "pt", ?_⟩
        refine run_frz (x := "_law_layer") (by wtm_at "lk") .here (by wtm_at "pt") ?_
        refine run_set (by wtm_at "loc") (by wtm_at "mem") ?_
        wtm_at "ea"
        refine op_catL (.own (.head _)) .frz (by
          have e1 : (txtsD (foundN nl i)).length ≤ 6000 := by rw [List.length_map]; omega
          have e2 : (txtsD ((layerN nl i).flatMap fun w => (List.range nl).map fun l => w ++ [l])).length ≤ 729 := by rw [List.length_map]; exact b2
          exact Nat.le_of_lt (sz_lt (by omega))) fun p5 => ?_
        refine ⟨_, by wtm_at "pt", ?_⟩
        refine run_drop (.cons₂ _ (.cons _ .slnil)) ?_
        refine run_nil ⟨p5, _, _, _, _, rfl, ?_⟩
        show _ = [(p5, OW.lst (List.map _ (_ ++ _)))]
        rw [List.map_append]
        rfl
    · rintro G' L' ⟨pf, x4, x5, x6, x7, rfl, rfl⟩
      rw [List.length_range]
      refine run_ret ?_
      wtm_at "ea"
      exact hk pf
def spNeededM (Cm Cr : Addr) : Prm := fun ds L KK KE => ∃ m : Mac, ds = [macD Cm Cr m] ∧ m.Ok ∧ m.tab.length ≤ 8 ∧ L = [] ∧ KK (.tup ((needed m).map nD)) []
theorem ok_neededm {f Cm Cr : Addr} {fd : FuncData} (FF : Fun K "needed" "Machine.needed" s_Machine_needed f fd) (B : Bi mg) (cM : Cls K Cm) (nI : NoAttr K Cm "inner") (g1 : Glob P w K mg base "needed_rows" ["reader"] (spNeeded Cr) 3) : Def P w K mg base 4 f fd ["self"] (spNeededM Cm Cr) := by
  refine def_ok FF sc_Machine_needed ?_ ?_
  · rintro ds L KK KE ⟨m, rfl, _⟩
    rfl
  · rintro ds L KK KE ⟨m, rfl, hok, h8, rfl, hk⟩ H0 F0
    wtm_at "bg"
    refine run_ret0 ?_
    wtm_at "ea"
    exact calls0 ⟨m, rfl, hok, by omega, rfl, hk⟩
def spLTold1 (Cm Cr : Addr) : Prm := fun ds L KK KE => ∃ m : Mac, ds = [macD Cm Cr m] ∧ m.Ok ∧ m.tab.length ≤ 8 ∧ L = [] ∧ KK (optS (leastT m)) []
theorem ok_ltold1 {f Cm Cr CN : Addr} {fd : FuncData} (FF : Fun K "_law_told" "_law_told" s__law_told f fd) (B : Bi mg) (cM : Cls K Cm) (m1 : Mth P w K mg base Cm "least" ["self"] (spLeast Cm Cr CN) 4) (mB : mg "NoTexts" = some (.ref CN))
    (hx : PySem.W.exmOne K (.ref CN) (.ref CN) = some true) : Def P w K mg base 5 f fd ["_law_machine_here"] (spLTold1 Cm Cr) := by
  refine def_ok FF sc__law_told ?_ ?_
  · rintro ds L KK KE ⟨m, rfl, _⟩
    rfl
  · rintro ds L KK KE ⟨m, rfl, hok, h8, rfl, hk⟩ H0 F0
    wtm_at "bg"
    refine run_set (by wtm_at "loc") (by wtm_at "mem") ?_
    wtm_at "ea"
    refine ⟨_, by wtm_at "pt", ?_⟩
    refine run_try [.ref CN] rfl ⟨⟨by wtm_at "gl", by decide +kernel, mB⟩, trivial⟩ ?_
    refine run_set (by wtm_at "loc") (by wtm_at "mem") ?_
    wtm_at "ea"
    refine calls0 ⟨m, rfl, hok, by omega, rfl, fun z hz => ?_, fun hz => ?_⟩
    · rw [hz] at hk
      refine ⟨_, by wtm_at "pt", ?_⟩
      refine run_nil ?_
      refine run_ret ?_
      wtm_at "ea"
      exact hk
    · rw [hz] at hk
      refine ⟨true, hx, fun _ => ?_, fun e => nomatch e⟩
      refine run_set (by wtm_at "loc") (by wtm_at "mem") ?_
      wtm_at "ea"
      refine ⟨_, by wtm_at "pt", ?_⟩
      refine run_nil ?_
      refine run_ret ?_
      wtm_at "ea"
      exact hk
end
end Rk01
open PySem L2 TL
namespace Rk01
section
variable {P : Program} {w : World} {K : PySem.W.Frag} {mg : Str → Option Value} {base : Heap}
inductive Plain : Nat → D → Prop
  | fl {n : Nat} {x : V} : scalV x = true → okV x = true → Plain n (.v x)
  | tup {n : Nat} {ds : List D} : (∀ d ∈ ds, Plain n d) → ds.length < 1000 → Plain (n + 1) (.tup ds)
  | lst {n : Nat} {ds : List D} : (∀ d ∈ ds, Plain n d) → ds.length < 1000 → Plain (n + 1) (.lst ds)
  | dK {n : Nat} {kvs : List (Key × D)} : (∀ kv ∈ kvs, Plain n kv.2) → kvs.length < 1000 → (∀ kv ∈ kvs, okV (kV kv.1) = true) → Plain (n + 1) (.dK kvs)
def spLike (n : Nat) : Prm := fun ds L KK KE => ∃ x : D, ds = [x, x] ∧ Plain n x ∧ L = [] ∧ KK (.bl true) []
theorem valD_mem {kvs : List (Key × D)} {kv : Key × D} (h : kv ∈ kvs) : ∃ d, valD kvs kv.1 = some d ∧ (kv.1, d) ∈ kvs := by
  unfold valD
  cases e : kvs.find? fun a => decide (a.1 = kv.1) with
  | none => exact absurd (List.find?_eq_none.mp e kv h) (by simp)
  | some b =>
    have h1 := List.mem_of_find?_eq_some e
    have h2 : b.1 = kv.1 := by simpa using List.find?_some e
    refine ⟨b.2, rfl, ?_⟩
    rw [← h2]
    exact h1
theorem plain_tail {n : Nat} {KK : D → Led → Prop} {T : EX → List (Option D) → Led → Prop} {H0 F0 : Hp} {ds : List D} {x : D} (B : Bi mg)
    (g : Glob P w K mg base "_law_like" ["_law_actual", "_law_due"] (spLike n) (n + 1)) (hx : IsSq [] x ds) (hp : ∀ d ∈ ds, Plain n d) (hl : ds.length < 1000) (hk : KK (.bl true) [])
    (hi : ∀ {M : Mode} {G : List (Option D)} {K2 : D → Led → Prop} (j : Nat) {d : D}, ds[j]? = some d → K2 d [] → IxV M G [] x (.int (j : Nat)) K2) :
    Run ⟨ctxOf P w K mg base ["_law_actual", "_law_due", "_law_k", "_law_key"] s__law_like (n + 1), H0, F0, T⟩ [some x, some x, none, none] [] ((defBody s__law_like).drop 6) ⟨fun _ L' => KK .non L', KK, fun _ _ => False, fun _ _ => False⟩ := by
  refine run_for rfl rfl (ei_rng1 (by wtm_at "gl") (by wtm_at "bi") ?_)
  wtm_at "ev"
  wtm_at "ev"
  wtm_at "ev"
  wtm_at "ev"
  refine cv_lenQ hx ?_
  refine ⟨_, rfl, by omega, by omega, ?_⟩
  refine for_map (List.range ds.length) (fun k => nD k) (rng0 _) (fun i G' L' => ∃ a : Option D, G' = [some x, some x, a, none] ∧ L' = []) ⟨_, rfl, rfl⟩ (fun _ _ _ _ _ h => (nomatch h)) ?_ ?_
  · rintro F1 i y G' L' hy hlt ⟨a, rfl, rfl⟩
    rw [List.length_range] at hlt
    obtain ⟨hlt3, ey⟩ := List.getElem?_eq_some_iff.mp hy
    rw [List.getElem_range] at ey
    subst ey
    refine tgt_name (by wtm_at "loc") (by wtm_at "pt") ?_
    have hd : ds[i]? = some ds[i] := List.getElem?_eq_getElem hlt
    wtm_at "go"
    refine ev_call g rfl (Nat.le_refl _) (by wtm_at "gl") ?_
    wtm_at "go"
    refine hi i hd ?_
    wtm_at "go"
    refine hi i hd ?_
    wtm_at "go"
    refine calls0 ⟨_, rfl, hp _ (List.getElem_mem hlt), rfl, ?_⟩
    wtm_at "go"
    first | exact ⟨_, rfl, rfl⟩ | rfl
  · rintro G' L' ⟨a, rfl, rfl⟩
    wtm_at "go"
theorem ok_like {f : Addr} {fd : FuncData} (FF : Fun K "_law_like" "_law_like" s__law_like f fd) (B : Bi mg) (gm : mg "_law_like" = some (.ref f)) (gk : PySem.W.keepIn K (.ref f) = true) (gb : Binds K fd ["_law_actual", "_law_due"] []) :
    ∀ n : Nat, Def P w K mg base (n + 1) f fd ["_law_actual", "_law_due"] (spLike n) := by
  have flat : ∀ {H0 F0 : Hp} {x : V} {k : Nat} {KK : D → Led → Prop} {T : EX → List (Option D) → Led → Prop}, scalV x = true → KK (.bl true) [] →
      Run ⟨ctxOf P w K mg base ["_law_actual", "_law_due", "_law_k", "_law_key"] s__law_like k, H0, F0, T⟩ [some (.v x), some (.v x), none, none] [] (defBody s__law_like) ⟨fun _ L' => KK .non L', KK, fun _ _ => False, fun _ _ => False⟩ := by
    intro H0 F0 x k KK T hx hk
    rcases scal_cases hx with ⟨i, rfl⟩ | ⟨b, rfl⟩ | ⟨z, rfl⟩ | rfl
    all_goals wtm_at "go"
    all_goals first | refine op_eqB ?_ | skip
    all_goals (show KK _ [])
    all_goals first | exact hk | simpa using hk
  intro n
  induction n with
  | zero =>
    refine def_ok FF sc__law_like ?_ ?_
    · rintro ds L KK KE ⟨x, rfl, _⟩
      rfl
    · rintro ds L KK KE ⟨x, rfl, hp, rfl, hk⟩ H0 F0
      wtm_at "bg"
      cases hp with
      | fl h1 h2 => exact flat h1 hk
  | succ n ih =>
    have g : Glob P w K mg base "_law_like" ["_law_actual", "_law_due"] (spLike n) (n + 1) := ⟨_, _, ih, gm, gk, gb⟩
    refine def_ok FF sc__law_like ?_ ?_
    · rintro ds L KK KE ⟨x, rfl, _⟩
      rfl
    · rintro ds L KK KE ⟨x, rfl, hp, rfl, hk⟩ H0 F0
      wtm_at "bg"
      cases hp with
      | fl h1 h2 => exact flat h1 hk
      | @tup _ ds hp hl =>
        wtm_at "gn"
        · rename_i hb
          simp at hb
        · exact plain_tail B g .tup hp hl hk fun j d hd hk2 => ix_T (at_nat rfl hd) hk2
      | @lst _ ds hp hl =>
        wtm_at "gn"
        · rename_i hb
          simp at hb
        · exact plain_tail B g (.lst .frz) hp hl hk fun j d hd hk2 => ix_L .frz (at_nat rfl hd) hk2
      | @dK _ kvs hp hl hok =>
        have e : keysD kvs = (kvs.map fun kv => kV kv.1).map D.v := by
          unfold keysD
          rw [List.map_map]
          rfl
        have hz : ∀ z ∈ kvs.map (fun kv => kV kv.1), okV z = true := by
          intro z hz
          obtain ⟨kv, hkv, rfl⟩ := List.mem_map.mp hz
          exact hok kv hkv
        wtm_at "gn"
        refine cv_listD rfl .frz fun p1 => ?_
        wtm_at "gn"
        refine cv_listD rfl .frz fun p2 => ?_
        rw [e]
        refine op_neSame rfl (.own (.tail _ (.head _))) (.own (.head _)) hz ?_
        wtm_at "gn"
        refine run_ret0 ?_
        wtm_at "ev"
        wtm_at "ev"
        refine ev_lcK [("_law_key", 3)] rfl (by kernel_rfl) (path_name (by wtm_at "lk") (by wtm_at "vis")) ?_
        intro H1 F1
        rw [e]
        refine lc_all (kvs.map fun kv => kV kv.1) D.v (fun _ => .bl true) rfl (sz_lt (by rw [List.length_map]; omega)) (fun _ h => (nomatch h)) ?_ ?_
        · intro F2 Dl z acc hz2
          obtain ⟨kv, hkv, rfl⟩ := List.mem_map.mp hz2
          obtain ⟨d, hd1, hd2⟩ := valD_mem hkv
          refine tn_name (i := 3) (by wtm_at "loc") rfl (List.mem_singleton.mpr rfl) ?_
          wtm_at "wz"
          refine ev_call g rfl (Nat.le_refl _) (by wtm_at "gl") ?_
          wtm_at "go"
          refine ix_K rfl .frz hd1 ?_
          wtm_at "go"
          refine ix_K rfl .frz hd1 ?_
          wtm_at "go"
          exact calls0 ⟨_, rfl, hp _ hd2, rfl, rfl, List.Sublist.refl _⟩
        · intro Dl
          wtm_at "go"
          have e2 : ((kvs.map fun kv => kV kv.1).all fun _ => true) = true := by simp
          rw [e2]
          exact hk
end
end Rk01
open PySem L2 TL
namespace Rk01
section
variable {P : Program} {w : World} {K : PySem.W.Frag} {mg : Str → Option Value} {base : Heap}
theorem wide_two {m : Mac} (h : ∀ r ∈ m.tab, r.length ≤ 2) (a : Nat) : beh m a 2 = none := by
  unfold beh
  rw [List.getD_eq_getElem?_getD (l := m.tab)]
  cases e : m.tab[a]? with
  | none => rfl
  | some r =>
    have := h r (List.mem_of_getElem? e)
    show r.getD 2 none = none
    rw [List.getD_eq_getElem?_getD, List.getElem?_eq_none this]
    rfl
theorem find_first {α : Type} {R : α → α → Prop} {p : α → Bool} : ∀ {l : List α} {w t : α}, l.Pairwise R → l.find? p = some w → t ∈ l → p t = true → t = w ∨ R w t := by
  intro l
  induction l with
  | nil => intro w t _ h; cases h
  | cons x l ih =>
    intro w t hp hf ht hpt
    rw [List.find?_cons] at hf
    obtain ⟨p1, p2⟩ := List.pairwise_cons.mp hp
    cases hx : p x with
    | true =>
      rw [hx] at hf
      cases hf
      rcases List.mem_cons.mp ht with h | h
      · exact .inl h
      · exact .inr (p1 t h)
    | false =>
      rw [hx] at hf
      rcases List.mem_cons.mp ht with h | h
      · rw [h, hx] at hpt; cases hpt
      · exact ih p2 hf h hpt
theorem small_let {m : Mac} (ok : m.Ok) {nl : Nat} (hnl : nl = 3 ∨ ∀ a, beh m a 2 = none) (h2 : 2 ≤ nl) : ∀ {w : List Nat} {s e : Nat}, behL m s w = some e → ∀ x ∈ w, x < nl := by
  intro w
  induction w with
  | nil => intro s e _ x hx; cases hx
  | cons y w ih =>
    intro s e h x hx
    cases q : beh m s y with
    | none => rw [behL, q] at h; cases h
    | some r =>
      rw [behL, q] at h
      rcases List.mem_cons.mp hx with rfl | hx
      · have h3 := beh_l ok q
        rcases hnl with rfl | two
        · exact h3
        · rcases (show x = 0 ∨ x = 1 ∨ x = 2 by omega) with rfl | rfl | rfl
          · omega
          · omega
          · rw [two s] at q; cases q
      · exact ih h x hx
theorem least_found {m : Mac} (ok : m.Ok) {nl n : Nat} (hnl : nl = 3 ∨ ∀ a, beh m a 2 = none) (h2 : 2 ≤ nl) (h3 : nl ≤ 3) (hn : m.tab.length ≤ n) : leastT m = ((foundN nl n).find? (hasB m)).map txt := by
  have up := foundN_up h3 n
  cases q : leastT m with
  | none =>
    have : (foundN nl n).find? (hasB m) = none := List.find?_eq_none.mpr fun t ht => by
      rw [least_none ok q t fun x hx => Nat.lt_of_lt_of_le ((foundN_mem.mp ht).2 x hx) h3]
      exact Bool.false_ne_true
    rw [this]
    rfl
  | some z =>
    obtain ⟨t, rfl, t3, tb, tl, tle⟩ := least_some ok q
    obtain ⟨e, he, _⟩ := hasB_iff.mp tb
    have ht : t ∈ foundN nl n := foundN_mem.mpr ⟨by omega, small_let ok hnl h2 he⟩
    cases w : (foundN nl n).find? (hasB m) with
    | none =>
      have := List.find?_eq_none.mp w t ht
      rw [tb] at this
      exact absurd rfl this
    | some v =>
      have hv := List.mem_of_find?_eq_some w
      have hb := List.find?_some w
      have := tle v (fun x hx => Nat.lt_of_lt_of_le ((foundN_mem.mp hv).2 x hx) h3) hb
      rcases find_first up w ht tb with h | h
      · rw [h]; rfl
      · omega
abbrev optT (o : Option (List Nat)) : D := optS (o.map txt)
theorem find_snoc {p : List Nat → Bool} (pre : List (List Nat)) (t : List Nat) : (pre ++ [t]).find? p = match pre.find? p with
    | some w => some w
    | none => if p t = true then some t else none := by
  rw [List.find?_append]
  cases pre.find? p with
  | some w => rfl
  | none =>
    rw [Option.none_or, List.find?_cons, List.find?_nil]
    cases p t <;> rfl
theorem op_neO {M : Mode} {G : List (Option D)} {L : Led} {K : D → Led → Prop} (hc : M.C.cm = true) (o : Option Str) (h : K (.bl false) L) : Op2 M G L (compareOp .NotEq) (optS o) (optS o) K := by
  cases o with
  | none => exact op_neP hc (.v rfl) (.v rfl) rfl rfl h
  | some z => exact op_neS (by rw [decide_eq_true rfl]; exact h)
theorem bool_iff {a b : Bool} {p : Prop} (h1 : a = true ↔ p) (h2 : b = true ↔ p) : a = b := Bool.eq_iff_iff.mpr (h1.trans h2.symm)
def spLaw : Prm := fun ds L KK KE => ∃ ns : List Int, ds = [.sq (ns.map D.int)] ∧ ns.length ≤ 63 ∧ L = [] ∧ KK (.bl true) []
theorem ok_law {f Cm Cr : Addr} {fd : FuncData} (FF : Fun K "law" "law" s_law f fd) (B : Bi mg) (cM : Cls K Cm) (cI : ClsI K Cm) (sf : PySem.W.selfFirst K Cm = true) (g1 : Glob P w K mg base "_law_begin" ["_law_script"] spBegin 1) (g2 : Glob P w K mg base "_law_draw" ["_law_draws", "_law_size"] spDraw 1)
    (g3 : Glob P w K mg base "_law_machine" ["_law_draws", "_law_many", "_law_letters"] spLMach 2) (g4 : Glob P w K mg base "_law_make" ["_law_machine_here"] (spMake Cm Cr) 6) (g5 : Glob P w K mg base "_law_texts" ["_law_letters", "_law_size"] spLTexts 1) (g6 : Glob P w K mg base "_law_has" ["_law_machine_here", "_law_text"] spLHas 3)
    (g7 : Glob P w K mg base "_law_like" ["_law_actual", "_law_due"] (spLike 2) 3) (g8 : Glob P w K mg base "_law_needed" ["_law_machine_here"] spLNeeded 1) (g9 : Glob P w K mg base "_law_told" ["_law_machine_here"] (spLTold1 Cm Cr) 5) (g10 : Glob P w K mg base "_law_in" ["_law_one", "_law_two"] spLIn 3) (g11 : Glob P w K mg base "_law_fewest" ["_law_machine_here"] spLFew 3)
    (m1 : Mth P w K mg base Cm "has" ["self", "text"] (spHas Cm Cr) 3) (m2 : Mth P w K mg base Cm "needed" ["self"] (spNeededM Cm Cr) 4) (m3 : Mth P w K mg base Cm "is_in" ["self", "other"] (spIsIn Cm Cr) 4) (m4 : Mth P w K mg base Cm "rows" ["self"] (spRows Cm Cr) 1) (m5 : Mth P w K mg base Cm "plain" ["self"] (spPlainM Cm Cr) 6)
    (m6 : Mth P w K mg base Cm "__and__" ["self", "other"] (spOpM Cm Cr "both") 6) (m7 : Mth P w K mg base Cm "__or__" ["self", "other"] (spOpM Cm Cr "some") 6) (m8 : Mth P w K mg base Cm "__sub__" ["self", "other"] (spOpM Cm Cr "less") 6) (m9 : Mth P w K mg base Cm "__eq__" ["self", "other"] (spEqM Cm Cr) 4) : Def P w K mg base 7 f fd ["_law_script"] spLaw := by
  refine def_ok FF sc_law ?_ ?_
  · rintro ds L KK KE ⟨z, rfl, _⟩
    rfl
  · rintro ds L KK KE ⟨ns, rfl, hn, rfl, hk⟩ H0 F0
    wtm_at "bg"
    refine run_set (by wtm_at "loc") (by wtm_at "mem") ?_
    wtm_at "ea"
    refine calls0 ⟨ns, rfl, hn, rfl, fun p => ?_⟩
    refine ⟨_, by wtm_at "pt", ?_⟩
    refine run_set (by wtm_at "loc") (by wtm_at "mem") ?_
    wtm_at "lw"
    refine calls_1 (draw_sp ns p _ _ _ 2 (by decide) (by decide) (by decide) (by decide) fun q1 pos wv s hq0 hq1 hp hw => ?_)
    obtain ⟨n1, rfl⟩ : ∃ n : Nat, q1 = (n : Nat) := ⟨q1.toNat, by omega⟩
    obtain ⟨nl, hnl, hix⟩ : ∃ nl, (nl = 2 ∨ nl = 3) ∧ ([D.str "ab", D.str "abc"] : List D)[n1]? = some (.str (abS nl)) := by
      rcases (show n1 = 0 ∨ n1 = 1 by omega) with rfl | rfl
      · exact ⟨2, .inl rfl, rfl⟩
      · exact ⟨3, .inr rfl, rfl⟩
    refine ix_L .frz (at_nat (j := n1) rfl hix) ?_
    refine ⟨_, by wtm_at "pt", ?_⟩
    refine run_set (by wtm_at "loc") (by wtm_at "mem") ?_
    wtm_at "ea"
    refine calls_1 (draw_sp ns p _ _ _ 4 hp hw (by decide) (by decide) fun q2 pos wv s hq20 hq21 hp hw => ?_)
    refine op_addI ?_
    wtm_at "ea"
    obtain ⟨n2, rfl⟩ : ∃ n : Nat, q2 = (n : Nat) := ⟨q2.toNat, by omega⟩
    rw [show (1 : Int) + ((n2 : Nat) : Int) = ((1 + n2 : Nat) : Int) by omega]
    refine calls_1 ⟨p, ns, pos, wv, s, 1 + n2, nl, rfl, hnl, rfl, hp, hw, by omega, by omega, fun a1 qa pos wv s hm1 hp hw => ?_⟩
    refine ⟨_, by wtm_at "pt", ?_⟩
    refine run_frz (x := "_law_one") (by wtm_at "lk") .here (by wtm_at "pt") ?_
    refine run_set (by wtm_at "loc") (by wtm_at "mem") ?_
    wtm_at "ea"
    refine calls_1 (draw_sp ns p _ _ _ 4 hp hw (by decide) (by decide) fun q3 pos wv s hq30 hq31 hp hw => ?_)
    refine op_addI ?_
    wtm_at "ea"
    obtain ⟨n3, rfl⟩ : ∃ n : Nat, q3 = (n : Nat) := ⟨q3.toNat, by omega⟩
    rw [show (1 : Int) + ((n3 : Nat) : Int) = ((1 + n3 : Nat) : Int) by omega]
    refine calls_1 ⟨p, ns, pos, wv, s, 1 + n3, nl, rfl, hnl, rfl, hp, hw, by omega, by omega, fun a2 qb pos wv s hm2 hp hw => ?_⟩
    refine ⟨_, by wtm_at "pt", ?_⟩
    refine run_frz (x := "_law_two") (by wtm_at "lk") .here (by wtm_at "pt") ?_
    refine run_drop (List.nil_sublist _) ?_
    have o1 := hm1.ok
    have o2 := hm2.ok
    have l1 : a1.tab.length ≤ 4 := by rw [hm1.many]; omega
    have l2 : a2.tab.length ≤ 4 := by rw [hm2.many]; omega
    have p1 : 0 < a1.tab.length := by rw [hm1.many]; omega
    have p2 : 0 < a2.tab.length := by rw [hm2.many]; omega
    have two : nl = 3 ∨ ∀ a, beh a1 a 2 = none := hnl.elim (fun h => .inr fun a => wide_two (fun r hr => by rw [hm1.wide r hr, h]; exact Nat.le_refl 2) a) .inl
    refine run_par rfl (by kernel_rfl) (by kernel_rfl) (by kernel_rfl) (by wtm_at "mem") (by wtm_at "mem") (by decide +kernel) rfl ?_
    wtm_at "ea"
    refine calls0 ⟨a1, rfl, o1, by omega, rfl, ?_⟩
    wtm_at "ea"
    refine calls0 ⟨a2, rfl, o2, by omega, rfl, ?_⟩
    refine ⟨_, _, by wtm_at "pt", by wtm_at "pt", ?_⟩
    refine run_par rfl (by kernel_rfl) (by kernel_rfl) (by kernel_rfl) (by wtm_at "mem") (by wtm_at "mem") (by decide +kernel) rfl (ev_binO m6 sf rfl rfl ?_)
    wtm_at "ea"
    refine ⟨_, _, .frz, .frz, calls0 ⟨a1, a2, rfl, o1, o2, by omega, by omega, rfl, fun qb ob lb hb => ?_⟩⟩
    refine ev_binO m7 sf rfl rfl ?_
    wtm_at "ea"
    refine ⟨_, _, .frz, .frz, calls0 ⟨a1, a2, rfl, o1, o2, by omega, by omega, rfl, fun qs os ls hs => ?_⟩⟩
    refine ⟨_, _, by wtm_at "pt", by wtm_at "pt", ?_⟩
    refine run_par rfl (by kernel_rfl) (by kernel_rfl) (by kernel_rfl) (by wtm_at "mem") (by wtm_at "mem") (by decide +kernel) rfl (ev_binO m8 sf rfl rfl ?_)
    wtm_at "ea"
    refine ⟨_, _, .frz, .frz, calls0 ⟨a1, a2, rfl, o1, o2, by omega, by omega, rfl, fun ql ol ll hl => ?_⟩⟩
    wtm_at "ea"
    refine calls0 ⟨a1, rfl, o1, by omega, rfl, fun qp op lp hpl hp0 hp1 => ?_⟩
    refine ⟨_, _, by wtm_at "pt", by wtm_at "pt", ?_⟩
    refine run_set (by wtm_at "loc") (by wtm_at "mem") ?_
    wtm_at "ea"
    refine ⟨_, by wtm_at "pt", ?_⟩
    obtain ⟨n, hn4, hn6, hix2⟩ : ∃ n, 4 ≤ n ∧ n ≤ 6 ∧ ([D.int 6, D.int 5] : List D)[nl - 2]? = some (nD n) := by
      rcases hnl with rfl | rfl
      · exact ⟨6, by decide, by decide, rfl⟩
      · exact ⟨5, by decide, by decide, rfl⟩
    have zlen : (abS nl).length = nl := by rcases hnl with rfl | rfl <;> rfl
    have lf := least_found o1 two (by omega) (by omega) (show a1.tab.length ≤ n by omega)
    refine run_for rfl rfl (ei_lst (ev_frz ?_))
    wtm_at "lw"
    refine cv_lenS (Nat.le_of_lt (sz_lt (show (abS nl).length ≤ 1000000 by omega))) ?_
    wtm_at "ea"
    refine op_subI ?_
    rw [zlen, show ((nl : Nat) : Int) - 2 = ((nl - 2 : Nat) : Int) by omega]
    refine ix_L .frz (at_nat (j := nl - 2) rfl hix2) ?_
    wtm_at "ea"
    refine calls0 ⟨nl, n, rfl, hnl, hn6, rfl, fun q => ?_⟩
    refine ⟨_, _, _, rfl, .here, _, .frz, ?_⟩
    have tx := fun t (ht : t ∈ foundN nl n) => (foundN_mem (nl := nl) (k := n)).mp ht
    refine for_pre (foundN nl n) (fun w => D.str (txt w)) rfl (fun pre G' L' => ∃ x12 x13 x14 x15 : Option D, G' = [some (.sq (ns.map D.int)), some (.ref p), some (.str (abS nl)), some (.lst (lawD a1)), some (.lst (lawD a2)), some (macD Cm Cr a1), some (macD Cm Cr a2), some (macD Cm Cr qb), some (macD Cm Cr qs), some (macD Cm Cr ql), some (macD Cm Cr qp), some (optT (pre.find? (hasB a1))), x12, x13, x14, x15] ∧ L' = [])
      ⟨_, _, _, _, rfl, rfl⟩ (fun _ _ _ _ _ h => nomatch h) ?_ ?_
    · rintro F1 pre t suf G' L' hsp ⟨x12, x13, x14, x15, rfl, rfl⟩
      obtain ⟨t1, t2⟩ := tx t (by rw [hsp]; exact List.mem_append_right _ List.mem_cons_self)
      have t3 : ∀ x ∈ t, x < 3 := fun x hx => by have := t2 x hx; omega
      have wb : ∀ a b, wishB "both" a b = (a && b) := fun a b => by unfold wishB; rw [if_pos rfl]
      have ws : ∀ a b, wishB "some" a b = (a || b) := fun a b => by unfold wishB; rw [if_neg (by decide +kernel), if_pos rfl]
      have wl : ∀ a b, wishB "less" a b = (a && !b) := fun a b => by unfold wishB; rw [if_neg (by decide +kernel), if_neg (by decide +kernel)]
      rw [find_snoc]
      generalize pre.find? (hasB a1) = fo
      refine tgt_name (by wtm_at "loc") (by wtm_at "pt") ?_
      refine run_par rfl (by kernel_rfl) (by kernel_rfl) (by kernel_rfl) (by wtm_at "mem") (by wtm_at "mem") (by decide +kernel) rfl ?_
      wtm_at "ea"
      refine calls0 ⟨a1, t, rfl, o1, p1, t3, rfl, ?_⟩
      wtm_at "ea"
      refine calls0 ⟨a2, t, rfl, o2, p2, t3, rfl, ?_⟩
      refine ⟨_, _, by wtm_at "pt", by wtm_at "pt", ?_⟩
      refine run_set (by wtm_at "loc") (by wtm_at "mem") (ev_lstF ?_)
      wtm_at "ea"
      refine calls0 ⟨a1, t, rfl, o1, p1, t3, by omega, rfl, ?_⟩
      wtm_at "ea"
      refine calls0 ⟨qb, t, rfl, ob, ob.pos, t3, by omega, rfl, ?_⟩
      wtm_at "ea"
      refine calls0 ⟨qs, t, rfl, os, os.pos, t3, by omega, rfl, ?_⟩
      wtm_at "ea"
      refine calls0 ⟨ql, t, rfl, ol, ol.pos, t3, by omega, rfl, ?_⟩
      wtm_at "ea"
      refine calls0 ⟨qp, t, rfl, op, op.pos, t3, by omega, rfl, ?_⟩
      rw [hb t t3, hs t t3, hl t t3, hpl t t3, wb, ws, wl]
      wtm_at "ea"
      refine ⟨Nat.le_of_ble_eq_true rfl, ?_⟩
      refine ⟨_, by wtm_at "pt", ?_⟩
      refine run_if (tst_not (tst_val ?_))
      generalize hasB a1 t = a
      generalize hasB a2 t = b
      have pl : ∀ bs : List Bool, bs.length < 1000 → Plain 2 (.lst (bs.map D.bl)) := fun bs h => .lst (fun d hd => by
        obtain ⟨b, _, rfl⟩ := List.mem_map.mp hd
        exact .fl rfl rfl) (by rw [List.length_map]; exact h)
      cases a <;> cases b
      all_goals wtm_at "lw"
      all_goals refine calls0 ⟨_, rfl, pl [_, _, _, _, _] (Nat.le_of_ble_eq_true rfl), rfl, ?_⟩
      all_goals refine ⟨true, tr_bl, (fun q => nomatch q), fun _ => ?_⟩
      all_goals refine run_nil ?_
      all_goals cases fo
      all_goals wtm_at "gm"
      all_goals exact run_nil (run_nil ⟨_, _, _, _, rfl, rfl⟩)
    · rintro G' L' ⟨x12, x13, x14, x15, rfl, rfl⟩
      rw [show optT ((foundN nl n).find? (hasB a1)) = optS (leastT a1) by rw [lf]]
      have nl1 := needed_len a1
      have pt : Plain 2 (.tup ((needed a1).map nD)) := .tup (fun d hd => by
        obtain ⟨b, _, rfl⟩ := List.mem_map.mp hd
        exact .fl rfl rfl) (by rw [List.length_map]; omega)
      refine run_if (tst_not (tst_val ?_))
      wtm_at "ea"
      refine calls0 ⟨a1, rfl, o1, by omega, rfl, ?_⟩
      wtm_at "ea"
      refine calls0 ⟨a1, rfl, o1, by omega, rfl, fun q => ?_⟩
      wtm_at "ea"
      refine calls0 ⟨_, rfl, pt, rfl, ?_⟩
      refine ⟨true, tr_bl, (fun q => nomatch q), fun _ => ?_⟩
      refine run_drop (List.nil_sublist _) ?_
      refine run_nil ?_
      refine run_if (tst_bool (tw_or (tst_cmp ?_)))
      wtm_at "ea"
      refine calls0 ⟨a1, rfl, o1, by omega, rfl, ?_⟩
      wtm_at "ea"
      refine op_neO rfl _ ?_
      refine ⟨false, rfl, (fun _ => ?_), fun z => nomatch z⟩
      refine tw_or1 (tst_cmp ?_)
      wtm_at "ea"
      refine calls0 ⟨a1, a2, rfl, o1, o2, by omega, by omega, rfl, fun b1 hb1 => ?_⟩
      wtm_at "ea"
      refine calls0 ⟨a1, a2, rfl, o1, o2, by omega, by omega, rfl, fun b2 hb2 => ?_⟩
      refine op_neB ?_
      rw [decide_eq_true (bool_iff hb1 hb2)]
      refine ⟨false, rfl, (fun z => nomatch z), fun _ => ?_⟩
      refine run_nil ?_
      refine run_if (tst_cmp ?_)
      wtm_at "ea"
      refine calls0 ⟨qp, rfl, by omega, rfl, ?_⟩
      wtm_at "ea"
      refine calls0 ⟨a1, rfl, o1, by omega, rfl, fun fs f1 f2 f3 => ?_⟩
      have hql : qp.tab.length = max 1 fs.length := by
        by_cases h0 : 0 ∈ needed a1
        · have h1 := hp1 h0 fs f1 f2 f3
          have := op.pos
          omega
        · rw [hp0 h0]
          have hne : needed a1 = [] := Classical.byContradiction fun q => h0 (zero_needed o1 q)
          have : fs = [] := List.eq_nil_iff_forall_not_mem.mpr fun r hr => by
            have := f1 r hr
            rw [hne] at this
            cases this
          rw [this]
          rfl
      refine op_neI ?_
      rw [decide_eq_true (by rw [List.length_map, hql])]
      refine ⟨false, rfl, (fun z => nomatch z), fun _ => ?_⟩
      refine run_nil ?_
      refine run_ret0 ?_
      refine ev_and (ev_cmp (ev_eqO m9 rfl rfl ?_))
      wtm_at "ea"
      refine ⟨_, _, .frz, .frz, calls0 ⟨a1, a2, rfl, o1, o2, by omega, by omega, rfl, fun b3 hb3 => ?_⟩⟩
      wtm_at "ea"
      refine calls0 ⟨a1, a2, rfl, o1, o2, by omega, by omega, rfl, fun b4 hb4 => ?_⟩
      have hpf : ∀ b : Bool, (b = true ↔ Sub qp a1 ∧ Sub a1 qp) → b = true := fun b h => h.mpr ⟨fun t ht q => by rw [hpl t ht] at q; exact q, fun t ht q => by rw [hpl t ht]; exact q⟩
      cases b4 with
      | false =>
        refine ⟨false, rfl, (fun z => nomatch z), fun _ => ?_⟩
        have e3 : b3 = false := Bool.eq_false_iff.mpr fun q => by
          have := hb4.mpr (hb3.mp q).1
          cases this
        subst e3
        refine op_eqB ?_
        refine ⟨true, rfl, (fun _ => ?_), fun z => nomatch z⟩
        refine ev_one (ev_eqO m9 rfl rfl ?_)
        wtm_at "ea"
        refine ⟨_, _, .frz, .frz, calls0 ⟨qp, a1, rfl, op, o1, by omega, by omega, rfl, fun b5 hb5 => ?_⟩⟩
        rw [hpf b5 hb5]
        exact hk
      | true =>
        refine ⟨true, rfl, (fun _ => ?_), fun z => nomatch z⟩
        wtm_at "ea"
        refine calls0 ⟨a2, a1, rfl, o2, o1, by omega, by omega, rfl, fun b6 hb6 => ?_⟩
        have e3 : b3 = b6 := bool_iff hb3 (hb6.trans ⟨fun q => ⟨hb4.mp rfl, q⟩, fun q => q.2⟩)
        subst e3
        refine op_eqB ?_
        rw [decide_eq_true rfl]
        refine ⟨true, rfl, (fun _ => ?_), fun z => nomatch z⟩
        refine ev_one (ev_eqO m9 rfl rfl ?_)
        wtm_at "ea"
        refine ⟨_, _, .frz, .frz, calls0 ⟨qp, a1, rfl, op, o1, by omega, by omega, rfl, fun b5 hb5 => ?_⟩⟩
        rw [hpf b5 hb5]
        exact hk
end
end Rk01
open PySem L2 TL
namespace Rk01
section
variable {P : Program} {w : World} {K : PySem.W.Frag} {mg : Str → Option Value} {base : Heap}
theorem exm_self {K : PySem.W.Frag} {S : Addr} (h1 : PySem.W.subIn K (.ref S) (.type "BaseException") = some true) (h2 : PySem.W.isClsIn K S = true) (h3 : PySem.W.typeIn K (.ref S) = some (.type "type")) (h4 : PySem.W.subIn K (.ref S) (.ref S) = some true) :
    PySem.W.exmOne K (.ref S) (.ref S) = some true := by
  have e2 : ((PySem.W.clsIn K S).isSome && PySem.W.typeIn K (.ref S) == some (.type "type")) = true := by
    rw [show (PySem.W.clsIn K S).isSome = true from h2, h3] <;> rfl
  unfold PySem.W.exmOne PySem.W.kitCls
  simp only [h1, e2, h4]
  rfl
theorem kit_self {K : PySem.W.Frag} {C : Addr} : PySem.W.kitOne K (.ref C) (.ref C) = some true := by
  unfold PySem.W.kitOne
  simp
theorem kit_f {K : PySem.W.Frag} {C : Addr} {t : Value} {b : Bool} (h1 : PySem.W.isClsIn K C = true) (h2 : PySem.W.typeIn K (.ref C) = some (.type "type")) (h3 : PySem.W.subIn K t (.ref C) = some b) (h : (t == .ref C) = false) : PySem.W.kitOne K t (.ref C) = some b := by
  have e2 : ((PySem.W.clsIn K C).isSome && PySem.W.typeIn K (.ref C) == some (.type "type")) = true := by
    rw [show (PySem.W.clsIn K C).isSome = true from h1, h2] <;> rfl
  unfold PySem.W.kitOne PySem.W.kitCls
  simp only [h, e2, h3]
  rfl
theorem all_mk {l : PySem.W.OpenLaw} {w : World} {K : PySem.W.Frag} {h : Heap} {mg : Str → Option Value} {fa fiswhole fisletter fisrow fismachine fwaysof fleadingrows fneededrows fistext frowbehind fleasttext fisend fiswished fwoven fsignof fgrouped fplainreader flawbegin flawdraw flawmachine flawafter flawrow flawhas flawtexts flawneeded flawlike flawmake flawtold flawpairs flawin flawalike flawfewest flaw CReader CMachine fReader fMachine fReaderbehind fMachinerows fMachinehas fMachineneeded fMachineleast fMachineand fMachineor fMachinesub fMachineisin fMachineeq fMachineplain CBadMachine CBadText CNoTexts pLETTERS : Addr} (X : K.In h) (G : h.Ns mainGlobals mg) (hfa : mg "law" = some (.ref fa))
    {odiswhole aniswhole : Option Addr} {sliswhole : Array (Option Value)} {ociswhole kViswhole dciswhole pmiswhole cdiswhole ctiswhole : Value}
    {odisletter anisletter : Option Addr} {slisletter : Array (Option Value)} {ocisletter kVisletter dcisletter pmisletter cdisletter ctisletter : Value}
    {odisrow anisrow : Option Addr} {slisrow : Array (Option Value)} {ocisrow kVisrow dcisrow pmisrow cdisrow ctisrow : Value}
    {odismachine anismachine : Option Addr} {slismachine : Array (Option Value)} {ocismachine kVismachine dcismachine pmismachine cdismachine ctismachine : Value}
    {odwaysof anwaysof : Option Addr} {slwaysof : Array (Option Value)} {ocwaysof kVwaysof dcwaysof pmwaysof cdwaysof ctwaysof : Value}
    {odleadingrows anleadingrows : Option Addr} {slleadingrows : Array (Option Value)} {ocleadingrows kVleadingrows dcleadingrows pmleadingrows cdleadingrows ctleadingrows : Value}
    {odneededrows anneededrows : Option Addr} {slneededrows : Array (Option Value)} {ocneededrows kVneededrows dcneededrows pmneededrows cdneededrows ctneededrows : Value}
    {odistext anistext : Option Addr} {slistext : Array (Option Value)} {ocistext kVistext dcistext pmistext cdistext ctistext : Value}
    {odrowbehind anrowbehind : Option Addr} {slrowbehind : Array (Option Value)} {ocrowbehind kVrowbehind dcrowbehind pmrowbehind cdrowbehind ctrowbehind : Value}
    {odleasttext anleasttext : Option Addr} {slleasttext : Array (Option Value)} {ocleasttext kVleasttext dcleasttext pmleasttext cdleasttext ctleasttext : Value}
    {odisend anisend : Option Addr} {slisend : Array (Option Value)} {ocisend kVisend dcisend pmisend cdisend ctisend : Value}
    {odiswished aniswished : Option Addr} {sliswished : Array (Option Value)} {ociswished kViswished dciswished pmiswished cdiswished ctiswished : Value}
    {odwoven anwoven : Option Addr} {slwoven : Array (Option Value)} {ocwoven kVwoven dcwoven pmwoven cdwoven ctwoven : Value}
    {odsignof ansignof : Option Addr} {slsignof : Array (Option Value)} {ocsignof kVsignof dcsignof pmsignof cdsignof ctsignof : Value}
    {odgrouped angrouped : Option Addr} {slgrouped : Array (Option Value)} {ocgrouped kVgrouped dcgrouped pmgrouped cdgrouped ctgrouped : Value}
    {odplainreader anplainreader : Option Addr} {slplainreader : Array (Option Value)} {ocplainreader kVplainreader dcplainreader pmplainreader cdplainreader ctplainreader : Value}
    {odlawbegin anlawbegin : Option Addr} {sllawbegin : Array (Option Value)} {oclawbegin kVlawbegin dclawbegin pmlawbegin cdlawbegin ctlawbegin : Value}
    {odlawdraw anlawdraw : Option Addr} {sllawdraw : Array (Option Value)} {oclawdraw kVlawdraw dclawdraw pmlawdraw cdlawdraw ctlawdraw : Value}
    {odlawmachine anlawmachine : Option Addr} {sllawmachine : Array (Option Value)} {oclawmachine kVlawmachine dclawmachine pmlawmachine cdlawmachine ctlawmachine : Value}
    {odlawafter anlawafter : Option Addr} {sllawafter : Array (Option Value)} {oclawafter kVlawafter dclawafter pmlawafter cdlawafter ctlawafter : Value}
    {odlawrow anlawrow : Option Addr} {sllawrow : Array (Option Value)} {oclawrow kVlawrow dclawrow pmlawrow cdlawrow ctlawrow : Value}
    {odlawhas anlawhas : Option Addr} {sllawhas : Array (Option Value)} {oclawhas kVlawhas dclawhas pmlawhas cdlawhas ctlawhas : Value}
    {odlawtexts anlawtexts : Option Addr} {sllawtexts : Array (Option Value)} {oclawtexts kVlawtexts dclawtexts pmlawtexts cdlawtexts ctlawtexts : Value}
    {odlawneeded anlawneeded : Option Addr} {sllawneeded : Array (Option Value)} {oclawneeded kVlawneeded dclawneeded pmlawneeded cdlawneeded ctlawneeded : Value}
    {odlawlike anlawlike : Option Addr} {sllawlike : Array (Option Value)} {oclawlike kVlawlike dclawlike pmlawlike cdlawlike ctlawlike : Value}
    {odlawmake anlawmake : Option Addr} {sllawmake : Array (Option Value)} {oclawmake kVlawmake dclawmake pmlawmake cdlawmake ctlawmake : Value}
    {odlawtold anlawtold : Option Addr} {sllawtold : Array (Option Value)} {oclawtold kVlawtold dclawtold pmlawtold cdlawtold ctlawtold : Value}
    {odlawpairs anlawpairs : Option Addr} {sllawpairs : Array (Option Value)} {oclawpairs kVlawpairs dclawpairs pmlawpairs cdlawpairs ctlawpairs : Value}
    {odlawin anlawin : Option Addr} {sllawin : Array (Option Value)} {oclawin kVlawin dclawin pmlawin cdlawin ctlawin : Value}
    {odlawalike anlawalike : Option Addr} {sllawalike : Array (Option Value)} {oclawalike kVlawalike dclawalike pmlawalike cdlawalike ctlawalike : Value}
    {odlawfewest anlawfewest : Option Addr} {sllawfewest : Array (Option Value)} {oclawfewest kVlawfewest dclawfewest pmlawfewest cdlawfewest ctlawfewest : Value}
    {odlaw anlaw : Option Addr} {sllaw : Array (Option Value)} {oclaw kVlaw dclaw pmlaw cdlaw ctlaw : Value}
    {odReader anReader : Option Addr} {slReader : Array (Option Value)} {ocReader kVReader dcReader pmReader cdReader ctReader : Value}
    {odMachine anMachine : Option Addr} {slMachine : Array (Option Value)} {ocMachine kVMachine dcMachine pmMachine cdMachine ctMachine : Value}
    {odReaderbehind anReaderbehind : Option Addr} {slReaderbehind : Array (Option Value)} {ocReaderbehind kVReaderbehind dcReaderbehind pmReaderbehind cdReaderbehind ctReaderbehind : Value}
    {odMachinerows anMachinerows : Option Addr} {slMachinerows : Array (Option Value)} {ocMachinerows kVMachinerows dcMachinerows pmMachinerows cdMachinerows ctMachinerows : Value}
    {odMachinehas anMachinehas : Option Addr} {slMachinehas : Array (Option Value)} {ocMachinehas kVMachinehas dcMachinehas pmMachinehas cdMachinehas ctMachinehas : Value}
    {odMachineneeded anMachineneeded : Option Addr} {slMachineneeded : Array (Option Value)} {ocMachineneeded kVMachineneeded dcMachineneeded pmMachineneeded cdMachineneeded ctMachineneeded : Value}
    {odMachineleast anMachineleast : Option Addr} {slMachineleast : Array (Option Value)} {ocMachineleast kVMachineleast dcMachineleast pmMachineleast cdMachineleast ctMachineleast : Value}
    {odMachineand anMachineand : Option Addr} {slMachineand : Array (Option Value)} {ocMachineand kVMachineand dcMachineand pmMachineand cdMachineand ctMachineand : Value}
    {odMachineor anMachineor : Option Addr} {slMachineor : Array (Option Value)} {ocMachineor kVMachineor dcMachineor pmMachineor cdMachineor ctMachineor : Value}
    {odMachinesub anMachinesub : Option Addr} {slMachinesub : Array (Option Value)} {ocMachinesub kVMachinesub dcMachinesub pmMachinesub cdMachinesub ctMachinesub : Value}
    {odMachineisin anMachineisin : Option Addr} {slMachineisin : Array (Option Value)} {ocMachineisin kVMachineisin dcMachineisin pmMachineisin cdMachineisin ctMachineisin : Value}
    {odMachineeq anMachineeq : Option Addr} {slMachineeq : Array (Option Value)} {ocMachineeq kVMachineeq dcMachineeq pmMachineeq cdMachineeq ctMachineeq : Value}
    {odMachineplain anMachineplain : Option Addr} {slMachineplain : Array (Option Value)} {ocMachineplain kVMachineplain dcMachineplain pmMachineplain cdMachineplain ctMachineplain : Value}
    {tkMOSTROWS : Tok}
    {dpLETTERS : Option Addr} {itLETTERS : Array Value} {nnLETTERS : Nat} {sqLETTERS : Array (Option Value)}
    (aiswhole : PySem.W.nsIn K mainGlobals "is_whole" = some (some (.ref fiswhole)))
    (liswhole : K.lookup fiswhole = some ⟨ociswhole, odiswhole, .func (PySem.W.fnOf "is_whole" "is_whole" (defArgs s_is_whole) (defBody s_is_whole) (defScope s_is_whole) .none kViswhole dciswhole pmiswhole aniswhole cdiswhole ctiswhole), sliswhole⟩)
    (ciswhole : PySem.W.codeIn K cdiswhole "is_whole" = true)
    (kiswhole : PySem.W.keepIn K (.ref fiswhole) = true)
    (aisletter : PySem.W.nsIn K mainGlobals "is_letter" = some (some (.ref fisletter)))
    (lisletter : K.lookup fisletter = some ⟨ocisletter, odisletter, .func (PySem.W.fnOf "is_letter" "is_letter" (defArgs s_is_letter) (defBody s_is_letter) (defScope s_is_letter) .none kVisletter dcisletter pmisletter anisletter cdisletter ctisletter), slisletter⟩)
    (cisletter : PySem.W.codeIn K cdisletter "is_letter" = true)
    (kisletter : PySem.W.keepIn K (.ref fisletter) = true)
    (aisrow : PySem.W.nsIn K mainGlobals "is_row" = some (some (.ref fisrow)))
    (lisrow : K.lookup fisrow = some ⟨ocisrow, odisrow, .func (PySem.W.fnOf "is_row" "is_row" (defArgs s_is_row) (defBody s_is_row) (defScope s_is_row) .none kVisrow dcisrow pmisrow anisrow cdisrow ctisrow), slisrow⟩)
    (cisrow : PySem.W.codeIn K cdisrow "is_row" = true)
    (kisrow : PySem.W.keepIn K (.ref fisrow) = true)
    (aismachine : PySem.W.nsIn K mainGlobals "is_machine" = some (some (.ref fismachine)))
    (lismachine : K.lookup fismachine = some ⟨ocismachine, odismachine, .func (PySem.W.fnOf "is_machine" "is_machine" (defArgs s_is_machine) (defBody s_is_machine) (defScope s_is_machine) .none kVismachine dcismachine pmismachine anismachine cdismachine ctismachine), slismachine⟩)
    (cismachine : PySem.W.codeIn K cdismachine "is_machine" = true)
    (kismachine : PySem.W.keepIn K (.ref fismachine) = true)
    (awaysof : PySem.W.nsIn K mainGlobals "ways_of" = some (some (.ref fwaysof)))
    (lwaysof : K.lookup fwaysof = some ⟨ocwaysof, odwaysof, .func (PySem.W.fnOf "ways_of" "ways_of" (defArgs s_ways_of) (defBody s_ways_of) (defScope s_ways_of) .none kVwaysof dcwaysof pmwaysof anwaysof cdwaysof ctwaysof), slwaysof⟩)
    (cwaysof : PySem.W.codeIn K cdwaysof "ways_of" = true)
    (kwaysof : PySem.W.keepIn K (.ref fwaysof) = true)
    (aleadingrows : PySem.W.nsIn K mainGlobals "leading_rows" = some (some (.ref fleadingrows)))
    (lleadingrows : K.lookup fleadingrows = some ⟨ocleadingrows, odleadingrows, .func (PySem.W.fnOf "leading_rows" "leading_rows" (defArgs s_leading_rows) (defBody s_leading_rows) (defScope s_leading_rows) .none kVleadingrows dcleadingrows pmleadingrows anleadingrows cdleadingrows ctleadingrows), slleadingrows⟩)
    (cleadingrows : PySem.W.codeIn K cdleadingrows "leading_rows" = true)
    (kleadingrows : PySem.W.keepIn K (.ref fleadingrows) = true)
    (aneededrows : PySem.W.nsIn K mainGlobals "needed_rows" = some (some (.ref fneededrows)))
    (lneededrows : K.lookup fneededrows = some ⟨ocneededrows, odneededrows, .func (PySem.W.fnOf "needed_rows" "needed_rows" (defArgs s_needed_rows) (defBody s_needed_rows) (defScope s_needed_rows) .none kVneededrows dcneededrows pmneededrows anneededrows cdneededrows ctneededrows), slneededrows⟩)
    (cneededrows : PySem.W.codeIn K cdneededrows "needed_rows" = true)
    (kneededrows : PySem.W.keepIn K (.ref fneededrows) = true)
    (aistext : PySem.W.nsIn K mainGlobals "is_text" = some (some (.ref fistext)))
    (listext : K.lookup fistext = some ⟨ocistext, odistext, .func (PySem.W.fnOf "is_text" "is_text" (defArgs s_is_text) (defBody s_is_text) (defScope s_is_text) .none kVistext dcistext pmistext anistext cdistext ctistext), slistext⟩)
    (cistext : PySem.W.codeIn K cdistext "is_text" = true)
    (kistext : PySem.W.keepIn K (.ref fistext) = true)
    (arowbehind : PySem.W.nsIn K mainGlobals "row_behind" = some (some (.ref frowbehind)))
    (lrowbehind : K.lookup frowbehind = some ⟨ocrowbehind, odrowbehind, .func (PySem.W.fnOf "row_behind" "row_behind" (defArgs s_row_behind) (defBody s_row_behind) (defScope s_row_behind) .none kVrowbehind dcrowbehind pmrowbehind anrowbehind cdrowbehind ctrowbehind), slrowbehind⟩)
    (crowbehind : PySem.W.codeIn K cdrowbehind "row_behind" = true)
    (krowbehind : PySem.W.keepIn K (.ref frowbehind) = true)
    (aleasttext : PySem.W.nsIn K mainGlobals "least_text" = some (some (.ref fleasttext)))
    (lleasttext : K.lookup fleasttext = some ⟨ocleasttext, odleasttext, .func (PySem.W.fnOf "least_text" "least_text" (defArgs s_least_text) (defBody s_least_text) (defScope s_least_text) .none kVleasttext dcleasttext pmleasttext anleasttext cdleasttext ctleasttext), slleasttext⟩)
    (cleasttext : PySem.W.codeIn K cdleasttext "least_text" = true)
    (kleasttext : PySem.W.keepIn K (.ref fleasttext) = true)
    (aisend : PySem.W.nsIn K mainGlobals "is_end" = some (some (.ref fisend)))
    (lisend : K.lookup fisend = some ⟨ocisend, odisend, .func (PySem.W.fnOf "is_end" "is_end" (defArgs s_is_end) (defBody s_is_end) (defScope s_is_end) .none kVisend dcisend pmisend anisend cdisend ctisend), slisend⟩)
    (cisend : PySem.W.codeIn K cdisend "is_end" = true)
    (kisend : PySem.W.keepIn K (.ref fisend) = true)
    (aiswished : PySem.W.nsIn K mainGlobals "is_wished" = some (some (.ref fiswished)))
    (liswished : K.lookup fiswished = some ⟨ociswished, odiswished, .func (PySem.W.fnOf "is_wished" "is_wished" (defArgs s_is_wished) (defBody s_is_wished) (defScope s_is_wished) .none kViswished dciswished pmiswished aniswished cdiswished ctiswished), sliswished⟩)
    (ciswished : PySem.W.codeIn K cdiswished "is_wished" = true)
    (kiswished : PySem.W.keepIn K (.ref fiswished) = true)
    (awoven : PySem.W.nsIn K mainGlobals "woven" = some (some (.ref fwoven)))
    (lwoven : K.lookup fwoven = some ⟨ocwoven, odwoven, .func (PySem.W.fnOf "woven" "woven" (defArgs s_woven) (defBody s_woven) (defScope s_woven) .none kVwoven dcwoven pmwoven anwoven cdwoven ctwoven), slwoven⟩)
    (cwoven : PySem.W.codeIn K cdwoven "woven" = true)
    (kwoven : PySem.W.keepIn K (.ref fwoven) = true)
    (asignof : PySem.W.nsIn K mainGlobals "sign_of" = some (some (.ref fsignof)))
    (lsignof : K.lookup fsignof = some ⟨ocsignof, odsignof, .func (PySem.W.fnOf "sign_of" "sign_of" (defArgs s_sign_of) (defBody s_sign_of) (defScope s_sign_of) .none kVsignof dcsignof pmsignof ansignof cdsignof ctsignof), slsignof⟩)
    (csignof : PySem.W.codeIn K cdsignof "sign_of" = true)
    (ksignof : PySem.W.keepIn K (.ref fsignof) = true)
    (agrouped : PySem.W.nsIn K mainGlobals "grouped" = some (some (.ref fgrouped)))
    (lgrouped : K.lookup fgrouped = some ⟨ocgrouped, odgrouped, .func (PySem.W.fnOf "grouped" "grouped" (defArgs s_grouped) (defBody s_grouped) (defScope s_grouped) .none kVgrouped dcgrouped pmgrouped angrouped cdgrouped ctgrouped), slgrouped⟩)
    (cgrouped : PySem.W.codeIn K cdgrouped "grouped" = true)
    (kgrouped : PySem.W.keepIn K (.ref fgrouped) = true)
    (aplainreader : PySem.W.nsIn K mainGlobals "plain_reader" = some (some (.ref fplainreader)))
    (lplainreader : K.lookup fplainreader = some ⟨ocplainreader, odplainreader, .func (PySem.W.fnOf "plain_reader" "plain_reader" (defArgs s_plain_reader) (defBody s_plain_reader) (defScope s_plain_reader) .none kVplainreader dcplainreader pmplainreader anplainreader cdplainreader ctplainreader), slplainreader⟩)
    (cplainreader : PySem.W.codeIn K cdplainreader "plain_reader" = true)
    (kplainreader : PySem.W.keepIn K (.ref fplainreader) = true)
    (alawbegin : PySem.W.nsIn K mainGlobals "_law_begin" = some (some (.ref flawbegin)))
    (llawbegin : K.lookup flawbegin = some ⟨oclawbegin, odlawbegin, .func (PySem.W.fnOf "_law_begin" "_law_begin" (defArgs s__law_begin) (defBody s__law_begin) (defScope s__law_begin) .none kVlawbegin dclawbegin pmlawbegin anlawbegin cdlawbegin ctlawbegin), sllawbegin⟩)
    (clawbegin : PySem.W.codeIn K cdlawbegin "_law_begin" = true)
    (klawbegin : PySem.W.keepIn K (.ref flawbegin) = true)
    (alawdraw : PySem.W.nsIn K mainGlobals "_law_draw" = some (some (.ref flawdraw)))
    (llawdraw : K.lookup flawdraw = some ⟨oclawdraw, odlawdraw, .func (PySem.W.fnOf "_law_draw" "_law_draw" (defArgs s__law_draw) (defBody s__law_draw) (defScope s__law_draw) .none kVlawdraw dclawdraw pmlawdraw anlawdraw cdlawdraw ctlawdraw), sllawdraw⟩)
    (clawdraw : PySem.W.codeIn K cdlawdraw "_law_draw" = true)
    (klawdraw : PySem.W.keepIn K (.ref flawdraw) = true)
    (alawmachine : PySem.W.nsIn K mainGlobals "_law_machine" = some (some (.ref flawmachine)))
    (llawmachine : K.lookup flawmachine = some ⟨oclawmachine, odlawmachine, .func (PySem.W.fnOf "_law_machine" "_law_machine" (defArgs s__law_machine) (defBody s__law_machine) (defScope s__law_machine) .none kVlawmachine dclawmachine pmlawmachine anlawmachine cdlawmachine ctlawmachine), sllawmachine⟩)
    (clawmachine : PySem.W.codeIn K cdlawmachine "_law_machine" = true)
    (klawmachine : PySem.W.keepIn K (.ref flawmachine) = true)
    (alawafter : PySem.W.nsIn K mainGlobals "_law_after" = some (some (.ref flawafter)))
    (llawafter : K.lookup flawafter = some ⟨oclawafter, odlawafter, .func (PySem.W.fnOf "_law_after" "_law_after" (defArgs s__law_after) (defBody s__law_after) (defScope s__law_after) .none kVlawafter dclawafter pmlawafter anlawafter cdlawafter ctlawafter), sllawafter⟩)
    (clawafter : PySem.W.codeIn K cdlawafter "_law_after" = true)
    (klawafter : PySem.W.keepIn K (.ref flawafter) = true)
    (alawrow : PySem.W.nsIn K mainGlobals "_law_row" = some (some (.ref flawrow)))
    (llawrow : K.lookup flawrow = some ⟨oclawrow, odlawrow, .func (PySem.W.fnOf "_law_row" "_law_row" (defArgs s__law_row) (defBody s__law_row) (defScope s__law_row) .none kVlawrow dclawrow pmlawrow anlawrow cdlawrow ctlawrow), sllawrow⟩)
    (clawrow : PySem.W.codeIn K cdlawrow "_law_row" = true)
    (klawrow : PySem.W.keepIn K (.ref flawrow) = true)
    (alawhas : PySem.W.nsIn K mainGlobals "_law_has" = some (some (.ref flawhas)))
    (llawhas : K.lookup flawhas = some ⟨oclawhas, odlawhas, .func (PySem.W.fnOf "_law_has" "_law_has" (defArgs s__law_has) (defBody s__law_has) (defScope s__law_has) .none kVlawhas dclawhas pmlawhas anlawhas cdlawhas ctlawhas), sllawhas⟩)
    (clawhas : PySem.W.codeIn K cdlawhas "_law_has" = true)
    (klawhas : PySem.W.keepIn K (.ref flawhas) = true)
    (alawtexts : PySem.W.nsIn K mainGlobals "_law_texts" = some (some (.ref flawtexts)))
    (llawtexts : K.lookup flawtexts = some ⟨oclawtexts, odlawtexts, .func (PySem.W.fnOf "_law_texts" "_law_texts" (defArgs s__law_texts) (defBody s__law_texts) (defScope s__law_texts) .none kVlawtexts dclawtexts pmlawtexts anlawtexts cdlawtexts ctlawtexts), sllawtexts⟩)
    (clawtexts : PySem.W.codeIn K cdlawtexts "_law_texts" = true)
    (klawtexts : PySem.W.keepIn K (.ref flawtexts) = true)
    (alawneeded : PySem.W.nsIn K mainGlobals "_law_needed" = some (some (.ref flawneeded)))
    (llawneeded : K.lookup flawneeded = some ⟨oclawneeded, odlawneeded, .func (PySem.W.fnOf "_law_needed" "_law_needed" (defArgs s__law_needed) (defBody s__law_needed) (defScope s__law_needed) .none kVlawneeded dclawneeded pmlawneeded anlawneeded cdlawneeded ctlawneeded), sllawneeded⟩)
    (clawneeded : PySem.W.codeIn K cdlawneeded "_law_needed" = true)
    (klawneeded : PySem.W.keepIn K (.ref flawneeded) = true)
    (alawlike : PySem.W.nsIn K mainGlobals "_law_like" = some (some (.ref flawlike)))
    (llawlike : K.lookup flawlike = some ⟨oclawlike, odlawlike, .func (PySem.W.fnOf "_law_like" "_law_like" (defArgs s__law_like) (defBody s__law_like) (defScope s__law_like) .none kVlawlike dclawlike pmlawlike anlawlike cdlawlike ctlawlike), sllawlike⟩)
    (clawlike : PySem.W.codeIn K cdlawlike "_law_like" = true)
    (klawlike : PySem.W.keepIn K (.ref flawlike) = true)
    (alawmake : PySem.W.nsIn K mainGlobals "_law_make" = some (some (.ref flawmake)))
    (llawmake : K.lookup flawmake = some ⟨oclawmake, odlawmake, .func (PySem.W.fnOf "_law_make" "_law_make" (defArgs s__law_make) (defBody s__law_make) (defScope s__law_make) .none kVlawmake dclawmake pmlawmake anlawmake cdlawmake ctlawmake), sllawmake⟩)
    (clawmake : PySem.W.codeIn K cdlawmake "_law_make" = true)
    (klawmake : PySem.W.keepIn K (.ref flawmake) = true)
    (alawtold : PySem.W.nsIn K mainGlobals "_law_told" = some (some (.ref flawtold)))
    (llawtold : K.lookup flawtold = some ⟨oclawtold, odlawtold, .func (PySem.W.fnOf "_law_told" "_law_told" (defArgs s__law_told) (defBody s__law_told) (defScope s__law_told) .none kVlawtold dclawtold pmlawtold anlawtold cdlawtold ctlawtold), sllawtold⟩)
    (clawtold : PySem.W.codeIn K cdlawtold "_law_told" = true)
    (klawtold : PySem.W.keepIn K (.ref flawtold) = true)
    (alawpairs : PySem.W.nsIn K mainGlobals "_law_pairs" = some (some (.ref flawpairs)))
    (llawpairs : K.lookup flawpairs = some ⟨oclawpairs, odlawpairs, .func (PySem.W.fnOf "_law_pairs" "_law_pairs" (defArgs s__law_pairs) (defBody s__law_pairs) (defScope s__law_pairs) .none kVlawpairs dclawpairs pmlawpairs anlawpairs cdlawpairs ctlawpairs), sllawpairs⟩)
    (clawpairs : PySem.W.codeIn K cdlawpairs "_law_pairs" = true)
    (klawpairs : PySem.W.keepIn K (.ref flawpairs) = true)
    (alawin : PySem.W.nsIn K mainGlobals "_law_in" = some (some (.ref flawin)))
    (llawin : K.lookup flawin = some ⟨oclawin, odlawin, .func (PySem.W.fnOf "_law_in" "_law_in" (defArgs s__law_in) (defBody s__law_in) (defScope s__law_in) .none kVlawin dclawin pmlawin anlawin cdlawin ctlawin), sllawin⟩)
    (clawin : PySem.W.codeIn K cdlawin "_law_in" = true)
    (klawin : PySem.W.keepIn K (.ref flawin) = true)
    (alawalike : PySem.W.nsIn K mainGlobals "_law_alike" = some (some (.ref flawalike)))
    (llawalike : K.lookup flawalike = some ⟨oclawalike, odlawalike, .func (PySem.W.fnOf "_law_alike" "_law_alike" (defArgs s__law_alike) (defBody s__law_alike) (defScope s__law_alike) .none kVlawalike dclawalike pmlawalike anlawalike cdlawalike ctlawalike), sllawalike⟩)
    (clawalike : PySem.W.codeIn K cdlawalike "_law_alike" = true)
    (klawalike : PySem.W.keepIn K (.ref flawalike) = true)
    (alawfewest : PySem.W.nsIn K mainGlobals "_law_fewest" = some (some (.ref flawfewest)))
    (llawfewest : K.lookup flawfewest = some ⟨oclawfewest, odlawfewest, .func (PySem.W.fnOf "_law_fewest" "_law_fewest" (defArgs s__law_fewest) (defBody s__law_fewest) (defScope s__law_fewest) .none kVlawfewest dclawfewest pmlawfewest anlawfewest cdlawfewest ctlawfewest), sllawfewest⟩)
    (clawfewest : PySem.W.codeIn K cdlawfewest "_law_fewest" = true)
    (klawfewest : PySem.W.keepIn K (.ref flawfewest) = true)
    (alaw : PySem.W.nsIn K mainGlobals "law" = some (some (.ref flaw)))
    (llaw : K.lookup flaw = some ⟨oclaw, odlaw, .func (PySem.W.fnOf "law" "law" (defArgs s_law) (defBody s_law) (defScope s_law) .none kVlaw dclaw pmlaw anlaw cdlaw ctlaw), sllaw⟩)
    (claw : PySem.W.codeIn K cdlaw "law" = true)
    (klaw : PySem.W.keepIn K (.ref flaw) = true)
    (aCReader : PySem.W.nsIn K mainGlobals "Reader" = some (some (.ref CReader)))
    (pgReader : PySem.W.plainGet K CReader Str.empty = true)
    (hdReader : PySem.W.hasDictIn K CReader = true)
    (poReader : PySem.W.plainOver K CReader = true)
    (saReader : PySem.W.findIn K (.ref CReader) "__setattr__" = some (some (.builtin "object.__setattr__")))
    (nReadertable : PySem.W.findIn K (.ref CReader) "table" = some none)
    (nReaderlast : PySem.W.findIn K (.ref CReader) "last" = some none)
    (chaReader : PySem.W.findIn K (.ref CReader) "__class__" = some (some (.builtin "object.__class__")))
    (chmReader : PySem.W.mroIn K CReader (.type "object") = some true)
    (icReader : PySem.W.isClsIn K CReader = true)
    (tyReader : PySem.W.typeIn K (.ref CReader) = some (.type "type"))
    (aCMachine : PySem.W.nsIn K mainGlobals "Machine" = some (some (.ref CMachine)))
    (pgMachine : PySem.W.plainGet K CMachine Str.empty = true)
    (hdMachine : PySem.W.hasDictIn K CMachine = true)
    (poMachine : PySem.W.plainOver K CMachine = true)
    (saMachine : PySem.W.findIn K (.ref CMachine) "__setattr__" = some (some (.builtin "object.__setattr__")))
    (nMachineinner : PySem.W.findIn K (.ref CMachine) "inner" = some none)
    (chaMachine : PySem.W.findIn K (.ref CMachine) "__class__" = some (some (.builtin "object.__class__")))
    (chmMachine : PySem.W.mroIn K CMachine (.type "object") = some true)
    (icMachine : PySem.W.isClsIn K CMachine = true)
    (tyMachine : PySem.W.typeIn K (.ref CMachine) = some (.type "type"))
    (chn : PySem.W.specialIn K (.builtin "object.__class__") "__get__" = some (some (.builtin "getset_descriptor.__get__")))
    (cht : PySem.W.takesIn K (.builtin "object.__class__") = some true)
    (wtupleReader : PySem.W.subIn K (.type "tuple") (.ref CReader) = some false)
    (wNoneTypeReader : PySem.W.subIn K (.type "NoneType") (.ref CReader) = some false)
    (wlistReader : PySem.W.subIn K (.type "list") (.ref CReader) = some false)
    (sfMachine : PySem.W.selfFirst K CMachine = true)
    (inReader : PySem.W.findIn K (.ref CReader) "__init__" = some (some (.ref fReader)))
    (jfReader : PySem.W.isFn K (.ref fReader) = true)
    (mkReader : PySem.W.makesIn K CReader = true)
    (kcReader : PySem.W.keepIn K (.ref CReader) = true)
    (lReader : K.lookup fReader = some ⟨ocReader, odReader, .func (PySem.W.fnOf "__init__" "Reader.__init__" (defArgs s_Reader_init) (defBody s_Reader_init) (defScope s_Reader_init) .none kVReader dcReader pmReader anReader cdReader ctReader), slReader⟩)
    (cReader : PySem.W.codeIn K cdReader "Reader.__init__" = true)
    (kReader : PySem.W.keepIn K (.ref fReader) = true)
    (inMachine : PySem.W.findIn K (.ref CMachine) "__init__" = some (some (.ref fMachine)))
    (jfMachine : PySem.W.isFn K (.ref fMachine) = true)
    (mkMachine : PySem.W.makesIn K CMachine = true)
    (kcMachine : PySem.W.keepIn K (.ref CMachine) = true)
    (lMachine : K.lookup fMachine = some ⟨ocMachine, odMachine, .func (PySem.W.fnOf "__init__" "Machine.__init__" (defArgs s_Machine_init) (defBody s_Machine_init) (defScope s_Machine_init) .none kVMachine dcMachine pmMachine anMachine cdMachine ctMachine), slMachine⟩)
    (cMachine : PySem.W.codeIn K cdMachine "Machine.__init__" = true)
    (kMachine : PySem.W.keepIn K (.ref fMachine) = true)
    (miReaderbehind : PySem.W.findIn K (.ref CReader) "behind" = some (some (.ref fReaderbehind)))
    (mjReaderbehind : PySem.W.isFn K (.ref fReaderbehind) = true)
    (lReaderbehind : K.lookup fReaderbehind = some ⟨ocReaderbehind, odReaderbehind, .func (PySem.W.fnOf "behind" "Reader.behind" (defArgs s_Reader_behind) (defBody s_Reader_behind) (defScope s_Reader_behind) .none kVReaderbehind dcReaderbehind pmReaderbehind anReaderbehind cdReaderbehind ctReaderbehind), slReaderbehind⟩)
    (cReaderbehind : PySem.W.codeIn K cdReaderbehind "Reader.behind" = true)
    (kReaderbehind : PySem.W.keepIn K (.ref fReaderbehind) = true)
    (miMachinerows : PySem.W.findIn K (.ref CMachine) "rows" = some (some (.ref fMachinerows)))
    (mjMachinerows : PySem.W.isFn K (.ref fMachinerows) = true)
    (lMachinerows : K.lookup fMachinerows = some ⟨ocMachinerows, odMachinerows, .func (PySem.W.fnOf "rows" "Machine.rows" (defArgs s_Machine_rows) (defBody s_Machine_rows) (defScope s_Machine_rows) .none kVMachinerows dcMachinerows pmMachinerows anMachinerows cdMachinerows ctMachinerows), slMachinerows⟩)
    (cMachinerows : PySem.W.codeIn K cdMachinerows "Machine.rows" = true)
    (kMachinerows : PySem.W.keepIn K (.ref fMachinerows) = true)
    (miMachinehas : PySem.W.findIn K (.ref CMachine) "has" = some (some (.ref fMachinehas)))
    (mjMachinehas : PySem.W.isFn K (.ref fMachinehas) = true)
    (lMachinehas : K.lookup fMachinehas = some ⟨ocMachinehas, odMachinehas, .func (PySem.W.fnOf "has" "Machine.has" (defArgs s_Machine_has) (defBody s_Machine_has) (defScope s_Machine_has) .none kVMachinehas dcMachinehas pmMachinehas anMachinehas cdMachinehas ctMachinehas), slMachinehas⟩)
    (cMachinehas : PySem.W.codeIn K cdMachinehas "Machine.has" = true)
    (kMachinehas : PySem.W.keepIn K (.ref fMachinehas) = true)
    (miMachineneeded : PySem.W.findIn K (.ref CMachine) "needed" = some (some (.ref fMachineneeded)))
    (mjMachineneeded : PySem.W.isFn K (.ref fMachineneeded) = true)
    (lMachineneeded : K.lookup fMachineneeded = some ⟨ocMachineneeded, odMachineneeded, .func (PySem.W.fnOf "needed" "Machine.needed" (defArgs s_Machine_needed) (defBody s_Machine_needed) (defScope s_Machine_needed) .none kVMachineneeded dcMachineneeded pmMachineneeded anMachineneeded cdMachineneeded ctMachineneeded), slMachineneeded⟩)
    (cMachineneeded : PySem.W.codeIn K cdMachineneeded "Machine.needed" = true)
    (kMachineneeded : PySem.W.keepIn K (.ref fMachineneeded) = true)
    (miMachineleast : PySem.W.findIn K (.ref CMachine) "least" = some (some (.ref fMachineleast)))
    (mjMachineleast : PySem.W.isFn K (.ref fMachineleast) = true)
    (lMachineleast : K.lookup fMachineleast = some ⟨ocMachineleast, odMachineleast, .func (PySem.W.fnOf "least" "Machine.least" (defArgs s_Machine_least) (defBody s_Machine_least) (defScope s_Machine_least) .none kVMachineleast dcMachineleast pmMachineleast anMachineleast cdMachineleast ctMachineleast), slMachineleast⟩)
    (cMachineleast : PySem.W.codeIn K cdMachineleast "Machine.least" = true)
    (kMachineleast : PySem.W.keepIn K (.ref fMachineleast) = true)
    (miMachineand : PySem.W.findIn K (.ref CMachine) "__and__" = some (some (.ref fMachineand)))
    (mjMachineand : PySem.W.isFn K (.ref fMachineand) = true)
    (lMachineand : K.lookup fMachineand = some ⟨ocMachineand, odMachineand, .func (PySem.W.fnOf "__and__" "Machine.__and__" (defArgs s_Machine_and) (defBody s_Machine_and) (defScope s_Machine_and) .none kVMachineand dcMachineand pmMachineand anMachineand cdMachineand ctMachineand), slMachineand⟩)
    (cMachineand : PySem.W.codeIn K cdMachineand "Machine.__and__" = true)
    (kMachineand : PySem.W.keepIn K (.ref fMachineand) = true)
    (miMachineor : PySem.W.findIn K (.ref CMachine) "__or__" = some (some (.ref fMachineor)))
    (mjMachineor : PySem.W.isFn K (.ref fMachineor) = true)
    (lMachineor : K.lookup fMachineor = some ⟨ocMachineor, odMachineor, .func (PySem.W.fnOf "__or__" "Machine.__or__" (defArgs s_Machine_or) (defBody s_Machine_or) (defScope s_Machine_or) .none kVMachineor dcMachineor pmMachineor anMachineor cdMachineor ctMachineor), slMachineor⟩)
    (cMachineor : PySem.W.codeIn K cdMachineor "Machine.__or__" = true)
    (kMachineor : PySem.W.keepIn K (.ref fMachineor) = true)
    (miMachinesub : PySem.W.findIn K (.ref CMachine) "__sub__" = some (some (.ref fMachinesub)))
    (mjMachinesub : PySem.W.isFn K (.ref fMachinesub) = true)
    (lMachinesub : K.lookup fMachinesub = some ⟨ocMachinesub, odMachinesub, .func (PySem.W.fnOf "__sub__" "Machine.__sub__" (defArgs s_Machine_sub) (defBody s_Machine_sub) (defScope s_Machine_sub) .none kVMachinesub dcMachinesub pmMachinesub anMachinesub cdMachinesub ctMachinesub), slMachinesub⟩)
    (cMachinesub : PySem.W.codeIn K cdMachinesub "Machine.__sub__" = true)
    (kMachinesub : PySem.W.keepIn K (.ref fMachinesub) = true)
    (miMachineisin : PySem.W.findIn K (.ref CMachine) "is_in" = some (some (.ref fMachineisin)))
    (mjMachineisin : PySem.W.isFn K (.ref fMachineisin) = true)
    (lMachineisin : K.lookup fMachineisin = some ⟨ocMachineisin, odMachineisin, .func (PySem.W.fnOf "is_in" "Machine.is_in" (defArgs s_Machine_is_in) (defBody s_Machine_is_in) (defScope s_Machine_is_in) .none kVMachineisin dcMachineisin pmMachineisin anMachineisin cdMachineisin ctMachineisin), slMachineisin⟩)
    (cMachineisin : PySem.W.codeIn K cdMachineisin "Machine.is_in" = true)
    (kMachineisin : PySem.W.keepIn K (.ref fMachineisin) = true)
    (miMachineeq : PySem.W.findIn K (.ref CMachine) "__eq__" = some (some (.ref fMachineeq)))
    (mjMachineeq : PySem.W.isFn K (.ref fMachineeq) = true)
    (lMachineeq : K.lookup fMachineeq = some ⟨ocMachineeq, odMachineeq, .func (PySem.W.fnOf "__eq__" "Machine.__eq__" (defArgs s_Machine_eq) (defBody s_Machine_eq) (defScope s_Machine_eq) .none kVMachineeq dcMachineeq pmMachineeq anMachineeq cdMachineeq ctMachineeq), slMachineeq⟩)
    (cMachineeq : PySem.W.codeIn K cdMachineeq "Machine.__eq__" = true)
    (kMachineeq : PySem.W.keepIn K (.ref fMachineeq) = true)
    (miMachineplain : PySem.W.findIn K (.ref CMachine) "plain" = some (some (.ref fMachineplain)))
    (mjMachineplain : PySem.W.isFn K (.ref fMachineplain) = true)
    (lMachineplain : K.lookup fMachineplain = some ⟨ocMachineplain, odMachineplain, .func (PySem.W.fnOf "plain" "Machine.plain" (defArgs s_Machine_plain) (defBody s_Machine_plain) (defScope s_Machine_plain) .none kVMachineplain dcMachineplain pmMachineplain anMachineplain cdMachineplain ctMachineplain), slMachineplain⟩)
    (cMachineplain : PySem.W.codeIn K cdMachineplain "Machine.plain" = true)
    (kMachineplain : PySem.W.keepIn K (.ref fMachineplain) = true)
    (aCBadMachine : PySem.W.nsIn K mainGlobals "BadMachine" = some (some (.ref CBadMachine)))
    (aCBadText : PySem.W.nsIn K mainGlobals "BadText" = some (some (.ref CBadText)))
    (aCNoTexts : PySem.W.nsIn K mainGlobals "NoTexts" = some (some (.ref CNoTexts)))
    (xcBadMachine : PySem.W.excIn K CBadMachine [.type "ValueError", .type "Exception", .type "BaseException", .type "object"] "ValueError.__new__" = true)
    (xcBadText : PySem.W.excIn K CBadText [.type "ValueError", .type "Exception", .type "BaseException", .type "object"] "ValueError.__new__" = true)
    (xcNoTexts : PySem.W.excIn K CNoTexts [.type "ValueError", .type "Exception", .type "BaseException", .type "object"] "ValueError.__new__" = true)
    (kpBadMachine : PySem.W.keepIn K (.ref CBadMachine) = true)
    (sbBadMachine : PySem.W.subIn K (.ref CBadMachine) (.type "BaseException") = some true)
    (tyBadMachine : PySem.W.typeIn K (.ref CBadMachine) = some (.type "type"))
    (kpBadText : PySem.W.keepIn K (.ref CBadText) = true)
    (sbBadText : PySem.W.subIn K (.ref CBadText) (.type "BaseException") = some true)
    (tyBadText : PySem.W.typeIn K (.ref CBadText) = some (.type "type"))
    (kpNoTexts : PySem.W.keepIn K (.ref CNoTexts) = true)
    (sbNoTexts : PySem.W.subIn K (.ref CNoTexts) (.type "BaseException") = some true)
    (tyNoTexts : PySem.W.typeIn K (.ref CNoTexts) = some (.type "type"))
    (icNoTexts : PySem.W.isClsIn K CNoTexts = true)
    (ssNoTexts : PySem.W.subIn K (.ref CNoTexts) (.ref CNoTexts) = some true)
    (vMOSTROWS : PySem.W.nsIn K mainGlobals "MOST_ROWS" = some (some (.int 6 tkMOSTROWS)))
    (vLETTERS : PySem.W.nsIn K mainGlobals "LETTERS" = some (some (.ref pLETTERS)))
    (lLETTERS : K.lookup pLETTERS = some ⟨.type "tuple", dpLETTERS, .seq itLETTERS nnLETTERS, sqLETTERS⟩)
    (rLETTERS : Vals letV itLETTERS.toList)
    (zlen : PySem.W.nsIn K mainGlobals "len" = some none)
    (zisinstance : PySem.W.nsIn K mainGlobals "isinstance" = some none)
    (zrange : PySem.W.nsIn K mainGlobals "range" = some none)
    (zint : PySem.W.nsIn K mainGlobals "int" = some none)
    (zstr : PySem.W.nsIn K mainGlobals "str" = some none)
    (zall : PySem.W.nsIn K mainGlobals "all" = some none)
    (zany : PySem.W.nsIn K mainGlobals "any" = some none)
    (zmin : PySem.W.nsIn K mainGlobals "min" = some none)
    (zmax : PySem.W.nsIn K mainGlobals "max" = some none)
    (ztuple : PySem.W.nsIn K mainGlobals "tuple" = some none)
    (zlist : PySem.W.nsIn K mainGlobals "list" = some none)
    (zdict : PySem.W.nsIn K mainGlobals "dict" = some none)
    (zzip : PySem.W.nsIn K mainGlobals "zip" = some none)
    (zenumerate : PySem.W.nsIn K mainGlobals "enumerate" = some none)
    (zsum : PySem.W.nsIn K mainGlobals "sum" = some none)
    (zsorted : PySem.W.nsIn K mainGlobals "sorted" = some none)
    (zbool : PySem.W.nsIn K mainGlobals "bool" = some none)
    : ∃ fd : FuncData, (∀ (s : Shared) (v : Value), BindsTo s fd ⟨[v], []⟩ [("_law_script", v)]) ∧ ∀ base : Heap, K.In base → base.Ns mainGlobals mg → FnOk l.prog w K mg base (L2.CX l.prog w) 7 fa fd ["_law_script"] (TSp K spLaw) := by
  have e := hfa.symm.trans (PySem.W.mg_of X G alaw)
  cases e
  have B : Bi mg := ⟨fun {x} hx => by
    have hm : x ∈ biNames := mem_of hx
    simp only [biNames, List.mem_cons, List.not_mem_nil, or_false] at hm
    rcases hm with rfl | rfl | rfl | rfl | rfl | rfl | rfl | rfl | rfl | rfl | rfl | rfl | rfl | rfl | rfl | rfl | rfl
    · exact PySem.W.mg_none_of X G zlen
    · exact PySem.W.mg_none_of X G zisinstance
    · exact PySem.W.mg_none_of X G zrange
    · exact PySem.W.mg_none_of X G zint
    · exact PySem.W.mg_none_of X G zstr
    · exact PySem.W.mg_none_of X G zall
    · exact PySem.W.mg_none_of X G zany
    · exact PySem.W.mg_none_of X G zmin
    · exact PySem.W.mg_none_of X G zmax
    · exact PySem.W.mg_none_of X G ztuple
    · exact PySem.W.mg_none_of X G zlist
    · exact PySem.W.mg_none_of X G zdict
    · exact PySem.W.mg_none_of X G zzip
    · exact PySem.W.mg_none_of X G zenumerate
    · exact PySem.W.mg_none_of X G zsum
    · exact PySem.W.mg_none_of X G zsorted
    · exact PySem.W.mg_none_of X G zbool⟩
  have gMOSTROWS : GVal mg "MOST_ROWS" (.int 6) := ⟨_, PySem.W.mg_of X G vMOSTROWS, ⟨_, rfl⟩⟩
  have gLETTERS : GTup K mg "LETTERS" letV := ⟨pLETTERS, PySem.W.mg_of X G vLETTERS, fun F => .inr ⟨_, itLETTERS, nnLETTERS, lLETTERS, rfl, rfl, (by rw [← Array.length_toList, ← Paired.length rLETTERS]; decide), rLETTERS⟩⟩
  have clReader : Cls K CReader := ⟨pgReader, hdReader, poReader, saReader⟩
  have gCReader : GVal mg "Reader" (.ref CReader) := ⟨_, PySem.W.mg_of X G aCReader, rfl⟩
  have noReadertable : NoAttr K CReader "table" := nReadertable
  have noReaderlast : NoAttr K CReader "last" := nReaderlast
  have ciReader : ClsI K CReader := ⟨clReader, chaReader, chn, cht, chmReader⟩
  have clMachine : Cls K CMachine := ⟨pgMachine, hdMachine, poMachine, saMachine⟩
  have gCMachine : GVal mg "Machine" (.ref CMachine) := ⟨_, PySem.W.mg_of X G aCMachine, rfl⟩
  have noMachineinner : NoAttr K CMachine "inner" := nMachineinner
  have ciMachine : ClsI K CMachine := ⟨clMachine, chaMachine, chn, cht, chmMachine⟩
  have eBadMachine : ExcC K mg "BadMachine" CBadMachine := ⟨xcBadMachine, PySem.W.mg_of X G aCBadMachine, kpBadMachine, sbBadMachine, tyBadMachine⟩
  have eBadText : ExcC K mg "BadText" CBadText := ⟨xcBadText, PySem.W.mg_of X G aCBadText, kpBadText, sbBadText, tyBadText⟩
  have eNoTexts : ExcC K mg "NoTexts" CNoTexts := ⟨xcNoTexts, PySem.W.mg_of X G aCNoTexts, kpNoTexts, sbNoTexts, tyNoTexts⟩
  have Fiswhole := fun_mk (st := s_is_whole) liswhole ciswhole kiswhole
  have Fisletter := fun_mk (st := s_is_letter) lisletter cisletter kisletter
  have Fisrow := fun_mk (st := s_is_row) lisrow cisrow kisrow
  have Fismachine := fun_mk (st := s_is_machine) lismachine cismachine kismachine
  have FReader := fun_mk (st := s_Reader_init) lReader cReader kReader
  have FMachine := fun_mk (st := s_Machine_init) lMachine cMachine kMachine
  have FReaderbehind := fun_mk (st := s_Reader_behind) lReaderbehind cReaderbehind kReaderbehind
  have Fwaysof := fun_mk (st := s_ways_of) lwaysof cwaysof kwaysof
  have Fleadingrows := fun_mk (st := s_leading_rows) lleadingrows cleadingrows kleadingrows
  have Fneededrows := fun_mk (st := s_needed_rows) lneededrows cneededrows kneededrows
  have FMachinerows := fun_mk (st := s_Machine_rows) lMachinerows cMachinerows kMachinerows
  have Fistext := fun_mk (st := s_is_text) listext cistext kistext
  have Frowbehind := fun_mk (st := s_row_behind) lrowbehind crowbehind krowbehind
  have FMachinehas := fun_mk (st := s_Machine_has) lMachinehas cMachinehas kMachinehas
  have FMachineneeded := fun_mk (st := s_Machine_needed) lMachineneeded cMachineneeded kMachineneeded
  have Fleasttext := fun_mk (st := s_least_text) lleasttext cleasttext kleasttext
  have FMachineleast := fun_mk (st := s_Machine_least) lMachineleast cMachineleast kMachineleast
  have Fisend := fun_mk (st := s_is_end) lisend cisend kisend
  have Fiswished := fun_mk (st := s_is_wished) liswished ciswished kiswished
  have Fwoven := fun_mk (st := s_woven) lwoven cwoven kwoven
  have FMachineand := fun_mk (st := s_Machine_and) lMachineand cMachineand kMachineand
  have FMachineor := fun_mk (st := s_Machine_or) lMachineor cMachineor kMachineor
  have FMachinesub := fun_mk (st := s_Machine_sub) lMachinesub cMachinesub kMachinesub
  have FMachineisin := fun_mk (st := s_Machine_is_in) lMachineisin cMachineisin kMachineisin
  have FMachineeq := fun_mk (st := s_Machine_eq) lMachineeq cMachineeq kMachineeq
  have Fsignof := fun_mk (st := s_sign_of) lsignof csignof ksignof
  have Fgrouped := fun_mk (st := s_grouped) lgrouped cgrouped kgrouped
  have Fplainreader := fun_mk (st := s_plain_reader) lplainreader cplainreader kplainreader
  have FMachineplain := fun_mk (st := s_Machine_plain) lMachineplain cMachineplain kMachineplain
  have Flawbegin := fun_mk (st := s__law_begin) llawbegin clawbegin klawbegin
  have Flawdraw := fun_mk (st := s__law_draw) llawdraw clawdraw klawdraw
  have Flawmachine := fun_mk (st := s__law_machine) llawmachine clawmachine klawmachine
  have Flawafter := fun_mk (st := s__law_after) llawafter clawafter klawafter
  have Flawrow := fun_mk (st := s__law_row) llawrow clawrow klawrow
  have Flawhas := fun_mk (st := s__law_has) llawhas clawhas klawhas
  have Flawtexts := fun_mk (st := s__law_texts) llawtexts clawtexts klawtexts
  have Flawneeded := fun_mk (st := s__law_needed) llawneeded clawneeded klawneeded
  have Flawlike := fun_mk (st := s__law_like) llawlike clawlike klawlike
  have Flawmake := fun_mk (st := s__law_make) llawmake clawmake klawmake
  have Flawtold := fun_mk (st := s__law_told) llawtold clawtold klawtold
  have Flawpairs := fun_mk (st := s__law_pairs) llawpairs clawpairs klawpairs
  have Flawin := fun_mk (st := s__law_in) llawin clawin klawin
  have Flawalike := fun_mk (st := s__law_alike) llawalike clawalike klawalike
  have Flawfewest := fun_mk (st := s__law_fewest) llawfewest clawfewest klawfewest
  have Flaw := fun_mk (st := s_law) llaw claw klaw
  refine ⟨PySem.W.fnOf "law" "law" (defArgs s_law) (defBody s_law) (defScope s_law) .none kVlaw dclaw pmlaw anlaw cdlaw ctlaw, fun s v => .of_eq rfl, fun base _ _ => ?_⟩
  have g_is_whole : Glob l.prog w K mg base "is_whole" ["thing", "least", "most"] spWhole 1 := ⟨_, _, ok_whole Fiswhole B, PySem.W.mg_of X G aiswhole, kiswhole, Fiswhole.binds (ps := ["thing", "least", "most"]) fun _ _ _ _ _ _ us hl => match us, hl with | [_, _, _], _ => rfl⟩
  have g_is_letter : Glob l.prog w K mg base "is_letter" ["thing"] spLetter 1 := ⟨_, _, ok_letter Fisletter B gLETTERS, PySem.W.mg_of X G aisletter, kisletter, Fisletter.binds (ps := ["thing"]) fun _ _ _ _ _ _ us hl => match us, hl with | [_], _ => rfl⟩
  have g_is_row : Glob l.prog w K mg base "is_row" ["thing", "many"] spRow 2 := ⟨_, _, ok_row Fisrow B g_is_letter g_is_whole, PySem.W.mg_of X G aisrow, kisrow, Fisrow.binds (ps := ["thing", "many"]) fun _ _ _ _ _ _ us hl => match us, hl with | [_, _], _ => rfl⟩
  have g_is_machine : Glob l.prog w K mg base "is_machine" ["rows", "ends"] spMach 3 := ⟨_, _, ok_machine Fismachine B g_is_row g_is_whole, PySem.W.mg_of X G aismachine, kismachine, Fismachine.binds (ps := ["rows", "ends"]) fun _ _ _ _ _ _ us hl => match us, hl with | [_, _], _ => rfl⟩
  have g_Reader : Cla l.prog w K mg base "Reader" CReader ["self", "rows", "ends"] (spRInit CReader) 1 := ⟨⟨_, _, ok_reader_init FReader B gLETTERS clReader noReadertable noReaderlast, PySem.W.mg_of X G aCReader, ⟨mkReader, inReader, jfReader, kcReader⟩, FReader.binds (ps := ["self", "rows", "ends"]) fun _ _ _ _ _ _ us hl => match us, hl with | [_, _, _], _ => rfl⟩, kcReader⟩
  have g_Machine : Cla l.prog w K mg base "Machine" CMachine ["self", "rows", "ends"] (spMInit CMachine CReader CBadMachine) 4 := ⟨⟨_, _, ok_machine_init FMachine B gCReader gMOSTROWS clMachine noMachineinner (kit_f icReader tyReader wtupleReader rfl) (kit_f icReader tyReader wNoneTypeReader rfl) (kit_f icReader tyReader wlistReader rfl) kit_self ciReader eBadMachine g_is_machine g_Reader, PySem.W.mg_of X G aCMachine, ⟨mkMachine, inMachine, jfMachine, kcMachine⟩, FMachine.binds (ps := ["self", "rows", "ends"]) fun _ _ _ _ _ _ us hl => match us, hl with | [_, _, _], _ => rfl⟩, kcMachine⟩
  have m_Readerbehind : Mth l.prog w K mg base CReader "behind" ["self", "row", "letter"] (spBehind CReader) 1 := ⟨_, _, ok_behind FReaderbehind B clReader noReadertable, ⟨miReaderbehind, mjReaderbehind, kReaderbehind⟩, FReaderbehind.binds (ps := ["self", "row", "letter"]) fun _ _ _ _ _ _ us hl => match us, hl with | [_, _, _], _ => rfl⟩
  have g_ways_of : Glob l.prog w K mg base "ways_of" ["reader"] (spWays CReader) 2 := ⟨_, _, ok_ways Fwaysof B gLETTERS clReader m_Readerbehind, PySem.W.mg_of X G awaysof, kwaysof, Fwaysof.binds (ps := ["reader"]) fun _ _ _ _ _ _ us hl => match us, hl with | [_], _ => rfl⟩
  have g_leading_rows : Glob l.prog w K mg base "leading_rows" ["reader"] (spLead CReader) 2 := ⟨_, _, ok_lead Fleadingrows B gLETTERS clReader noReadertable noReaderlast m_Readerbehind, PySem.W.mg_of X G aleadingrows, kleadingrows, Fleadingrows.binds (ps := ["reader"]) fun _ _ _ _ _ _ us hl => match us, hl with | [_], _ => rfl⟩
  have g_needed_rows : Glob l.prog w K mg base "needed_rows" ["reader"] (spNeeded CReader) 3 := ⟨_, _, ok_needed Fneededrows B g_ways_of g_leading_rows, PySem.W.mg_of X G aneededrows, kneededrows, Fneededrows.binds (ps := ["reader"]) fun _ _ _ _ _ _ us hl => match us, hl with | [_], _ => rfl⟩
  have g_Reader2 : Cla l.prog w K mg base "Reader" CReader ["self", "rows", "ends"] (spRInit2 CReader) 1 := ⟨⟨_, _, ok_reader_init2 FReader B gLETTERS clReader noReadertable noReaderlast, PySem.W.mg_of X G aCReader, ⟨mkReader, inReader, jfReader, kcReader⟩, FReader.binds (ps := ["self", "rows", "ends"]) fun _ _ _ _ _ _ us hl => match us, hl with | [_, _, _], _ => rfl⟩, kcReader⟩
  have m_Machinerows : Mth l.prog w K mg base CMachine "rows" ["self"] (spRows CMachine CReader) 1 := ⟨_, _, ok_rows FMachinerows B clMachine clReader noMachineinner noReadertable, ⟨miMachinerows, mjMachinerows, kMachinerows⟩, FMachinerows.binds (ps := ["self"]) fun _ _ _ _ _ _ us hl => match us, hl with | [_], _ => rfl⟩
  have g_is_text : Glob l.prog w K mg base "is_text" ["thing"] spIsText 1 := ⟨_, _, ok_is_text Fistext B gLETTERS, PySem.W.mg_of X G aistext, kistext, Fistext.binds (ps := ["thing"]) fun _ _ _ _ _ _ us hl => match us, hl with | [_], _ => rfl⟩
  have g_row_behind : Glob l.prog w K mg base "row_behind" ["reader", "row", "text"] (spRowB CReader) 2 := ⟨_, _, ok_row_behind Frowbehind B clReader m_Readerbehind, PySem.W.mg_of X G arowbehind, krowbehind, Frowbehind.binds (ps := ["reader", "row", "text"]) fun _ _ _ _ _ _ us hl => match us, hl with | [_, _, _], _ => rfl⟩
  have m_Machinehas : Mth l.prog w K mg base CMachine "has" ["self", "text"] (spHas CMachine CReader) 3 := ⟨_, _, ok_has FMachinehas B clMachine clReader noMachineinner noReaderlast eBadText g_is_text g_row_behind, ⟨miMachinehas, mjMachinehas, kMachinehas⟩, FMachinehas.binds (ps := ["self", "text"]) fun _ _ _ _ _ _ us hl => match us, hl with | [_, _], _ => rfl⟩
  have m_Machineneeded : Mth l.prog w K mg base CMachine "needed" ["self"] (spNeededM CMachine CReader) 4 := ⟨_, _, ok_neededm FMachineneeded B clMachine noMachineinner g_needed_rows, ⟨miMachineneeded, mjMachineneeded, kMachineneeded⟩, FMachineneeded.binds (ps := ["self"]) fun _ _ _ _ _ _ us hl => match us, hl with | [_], _ => rfl⟩
  have g_least_text : Glob l.prog w K mg base "least_text" ["reader"] (spLeastText CReader) 3 := ⟨_, _, ok_least_text Fleasttext B clReader noReaderlast g_ways_of, PySem.W.mg_of X G aleasttext, kleasttext, Fleasttext.binds (ps := ["reader"]) fun _ _ _ _ _ _ us hl => match us, hl with | [_], _ => rfl⟩
  have m_Machineleast : Mth l.prog w K mg base CMachine "least" ["self"] (spLeast CMachine CReader CNoTexts) 4 := ⟨_, _, ok_least FMachineleast B clMachine noMachineinner eNoTexts g_least_text, ⟨miMachineleast, mjMachineleast, kMachineleast⟩, FMachineleast.binds (ps := ["self"]) fun _ _ _ _ _ _ us hl => match us, hl with | [_], _ => rfl⟩
  have g_is_end : Glob l.prog w K mg base "is_end" ["reader", "row"] (spIsEnd CReader) 1 := ⟨_, _, ok_is_end Fisend B clReader noReaderlast, PySem.W.mg_of X G aisend, kisend, Fisend.binds (ps := ["reader", "row"]) fun _ _ _ _ _ _ us hl => match us, hl with | [_, _], _ => rfl⟩
  have g_is_wished : Glob l.prog w K mg base "is_wished" ["word", "one", "other"] spWished 1 := ⟨_, _, ok_is_wished Fiswished B, PySem.W.mg_of X G aiswished, kiswished, Fiswished.binds (ps := ["word", "one", "other"]) fun _ _ _ _ _ _ us hl => match us, hl with | [_, _, _], _ => rfl⟩
  have g_woven : Glob l.prog w K mg base "woven" ["one", "other", "word"] (spWoven CReader) 3 := ⟨_, _, ok_woven Fwoven B gLETTERS clReader m_Readerbehind g_is_end g_is_wished g_Reader2, PySem.W.mg_of X G awoven, kwoven, Fwoven.binds (ps := ["one", "other", "word"]) fun _ _ _ _ _ _ us hl => match us, hl with | [_, _, _], _ => rfl⟩
  have m_Machineand : Mth l.prog w K mg base CMachine "__and__" ["self", "other"] (spOpM CMachine CReader "both") 6 := ⟨_, _, ok_and FMachineand B clMachine noMachineinner g_woven g_Machine, ⟨miMachineand, mjMachineand, kMachineand⟩, FMachineand.binds (ps := ["self", "other"]) fun _ _ _ _ _ _ us hl => match us, hl with | [_, _], _ => rfl⟩
  have m_Machineor : Mth l.prog w K mg base CMachine "__or__" ["self", "other"] (spOpM CMachine CReader "some") 6 := ⟨_, _, ok_or FMachineor B clMachine noMachineinner g_woven g_Machine, ⟨miMachineor, mjMachineor, kMachineor⟩, FMachineor.binds (ps := ["self", "other"]) fun _ _ _ _ _ _ us hl => match us, hl with | [_, _], _ => rfl⟩
  have m_Machinesub : Mth l.prog w K mg base CMachine "__sub__" ["self", "other"] (spOpM CMachine CReader "less") 6 := ⟨_, _, ok_sub FMachinesub B clMachine noMachineinner g_woven g_Machine, ⟨miMachinesub, mjMachinesub, kMachinesub⟩, FMachinesub.binds (ps := ["self", "other"]) fun _ _ _ _ _ _ us hl => match us, hl with | [_, _], _ => rfl⟩
  have m_Machineisin : Mth l.prog w K mg base CMachine "is_in" ["self", "other"] (spIsIn CMachine CReader) 4 := ⟨_, _, ok_is_in FMachineisin B clMachine noMachineinner g_woven g_least_text, ⟨miMachineisin, mjMachineisin, kMachineisin⟩, FMachineisin.binds (ps := ["self", "other"]) fun _ _ _ _ _ _ us hl => match us, hl with | [_, _], _ => rfl⟩
  have m_Machineeq : Mth l.prog w K mg base CMachine "__eq__" ["self", "other"] (spEqM CMachine CReader) 4 := ⟨_, _, ok_eqm FMachineeq B gCMachine clMachine ciMachine kit_self noMachineinner g_woven g_least_text, ⟨miMachineeq, mjMachineeq, kMachineeq⟩, FMachineeq.binds (ps := ["self", "other"]) fun _ _ _ _ _ _ us hl => match us, hl with | [_, _], _ => rfl⟩
  have g_sign_of : Glob l.prog w K mg base "sign_of" ["reader", "groups", "row"] (spSignOf CReader) 2 := ⟨_, _, ok_sign_of Fsignof B gLETTERS clReader m_Readerbehind, PySem.W.mg_of X G asignof, ksignof, Fsignof.binds (ps := ["reader", "groups", "row"]) fun _ _ _ _ _ _ us hl => match us, hl with | [_, _, _], _ => rfl⟩
  have g_grouped : Glob l.prog w K mg base "grouped" ["reader", "rows"] (spGrouped CReader) 3 := ⟨_, _, ok_grouped Fgrouped B clReader noReaderlast g_sign_of, PySem.W.mg_of X G agrouped, kgrouped, Fgrouped.binds (ps := ["reader", "rows"]) fun _ _ _ _ _ _ us hl => match us, hl with | [_, _], _ => rfl⟩
  have g_plain_reader : Glob l.prog w K mg base "plain_reader" ["reader"] (spPlainR CReader) 4 := ⟨_, _, ok_plain_reader Fplainreader B gLETTERS clReader noReaderlast g_needed_rows g_grouped m_Readerbehind g_Reader g_Reader2, PySem.W.mg_of X G aplainreader, kplainreader, Fplainreader.binds (ps := ["reader"]) fun _ _ _ _ _ _ us hl => match us, hl with | [_], _ => rfl⟩
  have m_Machineplain : Mth l.prog w K mg base CMachine "plain" ["self"] (spPlainM CMachine CReader) 6 := ⟨_, _, ok_plain FMachineplain B clMachine noMachineinner g_plain_reader g_Machine, ⟨miMachineplain, mjMachineplain, kMachineplain⟩, FMachineplain.binds (ps := ["self"]) fun _ _ _ _ _ _ us hl => match us, hl with | [_], _ => rfl⟩
  have g__law_begin : Glob l.prog w K mg base "_law_begin" ["_law_script"] spBegin 1 := ⟨_, _, ok_begin Flawbegin B, PySem.W.mg_of X G alawbegin, klawbegin, Flawbegin.binds (ps := ["_law_script"]) fun _ _ _ _ _ _ us hl => match us, hl with | [_], _ => rfl⟩
  have g__law_draw : Glob l.prog w K mg base "_law_draw" ["_law_draws", "_law_size"] spDraw 1 := ⟨_, _, ok_draw Flawdraw B, PySem.W.mg_of X G alawdraw, klawdraw, Flawdraw.binds (ps := ["_law_draws", "_law_size"]) fun _ _ _ _ _ _ us hl => match us, hl with | [_, _], _ => rfl⟩
  have g__law_machine : Glob l.prog w K mg base "_law_machine" ["_law_draws", "_law_many", "_law_letters"] spLMach 2 := ⟨_, _, ok_lmach Flawmachine B g__law_draw, PySem.W.mg_of X G alawmachine, klawmachine, Flawmachine.binds (ps := ["_law_draws", "_law_many", "_law_letters"]) fun _ _ _ _ _ _ us hl => match us, hl with | [_, _, _], _ => rfl⟩
  have g__law_after : Glob l.prog w K mg base "_law_after" ["_law_machine_here", "_law_row_here", "_law_letter"] spLAfter2 1 := ⟨_, _, ok_lafter2 Flawafter B, PySem.W.mg_of X G alawafter, klawafter, Flawafter.binds (ps := ["_law_machine_here", "_law_row_here", "_law_letter"]) fun _ _ _ _ _ _ us hl => match us, hl with | [_, _, _], _ => rfl⟩
  have g__law_row : Glob l.prog w K mg base "_law_row" ["_law_machine_here", "_law_text"] spLRowB 2 := ⟨_, _, ok_lrowb Flawrow B g__law_after, PySem.W.mg_of X G alawrow, klawrow, Flawrow.binds (ps := ["_law_machine_here", "_law_text"]) fun _ _ _ _ _ _ us hl => match us, hl with | [_, _], _ => rfl⟩
  have g__law_has : Glob l.prog w K mg base "_law_has" ["_law_machine_here", "_law_text"] spLHas 3 := ⟨_, _, ok_lhas Flawhas B g__law_row, PySem.W.mg_of X G alawhas, klawhas, Flawhas.binds (ps := ["_law_machine_here", "_law_text"]) fun _ _ _ _ _ _ us hl => match us, hl with | [_, _], _ => rfl⟩
  have g__law_texts : Glob l.prog w K mg base "_law_texts" ["_law_letters", "_law_size"] spLTexts 1 := ⟨_, _, ok_ltexts Flawtexts B, PySem.W.mg_of X G alawtexts, klawtexts, Flawtexts.binds (ps := ["_law_letters", "_law_size"]) fun _ _ _ _ _ _ us hl => match us, hl with | [_, _], _ => rfl⟩
  have g__law_needed : Glob l.prog w K mg base "_law_needed" ["_law_machine_here"] spLNeeded 1 := ⟨_, _, ok_lneeded Flawneeded B, PySem.W.mg_of X G alawneeded, klawneeded, Flawneeded.binds (ps := ["_law_machine_here"]) fun _ _ _ _ _ _ us hl => match us, hl with | [_], _ => rfl⟩
  have reclawlike := ok_like (P := l.prog) (w := w) (base := base) Flawlike B (PySem.W.mg_of X G alawlike) klawlike (Flawlike.binds (ps := ["_law_actual", "_law_due"]) fun _ _ _ _ _ _ us hl => match us, hl with | [_, _], _ => rfl)
  have g__law_like : Glob l.prog w K mg base "_law_like" ["_law_actual", "_law_due"] (spLike 2) 3 := ⟨_, _, reclawlike 2, PySem.W.mg_of X G alawlike, klawlike, Flawlike.binds (ps := ["_law_actual", "_law_due"]) fun _ _ _ _ _ _ us hl => match us, hl with | [_, _], _ => rfl⟩
  have g__law_make : Glob l.prog w K mg base "_law_make" ["_law_machine_here"] (spMake CMachine CReader) 6 := ⟨_, _, ok_make Flawmake B g_Machine, PySem.W.mg_of X G alawmake, klawmake, Flawmake.binds (ps := ["_law_machine_here"]) fun _ _ _ _ _ _ us hl => match us, hl with | [_], _ => rfl⟩
  have g__law_told : Glob l.prog w K mg base "_law_told" ["_law_machine_here"] (spLTold1 CMachine CReader) 5 := ⟨_, _, ok_ltold1 Flawtold B clMachine m_Machineleast (PySem.W.mg_of X G aCNoTexts) (exm_self sbNoTexts icNoTexts tyNoTexts ssNoTexts), PySem.W.mg_of X G alawtold, klawtold, Flawtold.binds (ps := ["_law_machine_here"]) fun _ _ _ _ _ _ us hl => match us, hl with | [_], _ => rfl⟩
  have g__law_pairs : Glob l.prog w K mg base "_law_pairs" ["_law_one", "_law_two"] spLPairs 2 := ⟨_, _, ok_lpairs Flawpairs B g__law_after, PySem.W.mg_of X G alawpairs, klawpairs, Flawpairs.binds (ps := ["_law_one", "_law_two"]) fun _ _ _ _ _ _ us hl => match us, hl with | [_, _], _ => rfl⟩
  have g__law_in : Glob l.prog w K mg base "_law_in" ["_law_one", "_law_two"] spLIn 3 := ⟨_, _, ok_lin Flawin B g__law_pairs, PySem.W.mg_of X G alawin, klawin, Flawin.binds (ps := ["_law_one", "_law_two"]) fun _ _ _ _ _ _ us hl => match us, hl with | [_, _], _ => rfl⟩
  have g__law_alike : Glob l.prog w K mg base "_law_alike" ["_law_machine_here", "_law_row_here", "_law_other"] spLAlike 2 := ⟨_, _, ok_lalike Flawalike B g__law_after, PySem.W.mg_of X G alawalike, klawalike, Flawalike.binds (ps := ["_law_machine_here", "_law_row_here", "_law_other"]) fun _ _ _ _ _ _ us hl => match us, hl with | [_, _, _], _ => rfl⟩
  have g__law_fewest : Glob l.prog w K mg base "_law_fewest" ["_law_machine_here"] spLFew 3 := ⟨_, _, ok_lfew Flawfewest B g__law_needed g__law_alike, PySem.W.mg_of X G alawfewest, klawfewest, Flawfewest.binds (ps := ["_law_machine_here"]) fun _ _ _ _ _ _ us hl => match us, hl with | [_], _ => rfl⟩
  exact ok_law Flaw B clMachine ciMachine sfMachine g__law_begin g__law_draw g__law_machine g__law_make g__law_texts g__law_has g__law_like g__law_needed g__law_told g__law_in g__law_fewest m_Machinehas m_Machineneeded m_Machineisin m_Machinerows m_Machineplain m_Machineand m_Machineor m_Machinesub m_Machineeq
theorem walk {l : PySem.W.OpenLaw} {q : Program} {loose : List Str} {XP : (Str → Option Value) → Heap → Prop} {YP : World → Heap → Prop} {d : DefRec} {K : Params → PySem.W.Frag} (hn : l.most = some 63) (hdf : d.params.defaults = [])
    (hY : ∀ (w : World) (h : Heap), YP w h → (K w.params).In h)
    (F : ∀ (w : World) (mg : Str → Option Value) (fa : Addr) (h : Heap), (K w.params).In h → h.Ns mainGlobals mg → mg d.name = some (.ref fa) →
      ∃ fd : FuncData, (∀ (s : Shared) (u : Value), BindsTo s fd ⟨[u], []⟩ [("_law_script", u)]) ∧ ∀ base : Heap, (K w.params).In base → base.Ns mainGlobals mg → FnOk l.prog w (K w.params) mg base (L2.CX l.prog w) 7 fa fd ["_law_script"] (TSp (K w.params) spLaw)) :
    PySem.W.WalkO q loose XP YP l.row.toRowW d [] (fun f vs => PySem.call f vs) := by
  refine L2.walk_of (n := 63) (k := 7) (x := "_law_script") (CX := fun w => L2.CX l.prog w) (sp := fun w => TSp (K w.params) spLaw) hn (by decide) hdf ⟨rfl, by decide, by decide⟩ hY F (fun w H a ns hl _ hS => ?_) ?_
  · have e : (ns.map V.int).map D.v = ns.map D.int := by
      rw [List.map_map]
      rfl
    refine ⟨H, H, [.sq (ns.map D.int)], [], fun d _ => d = .bl true, fun _ _ => False, .cons (.sq hS ?_) .nil, ⟨Same.refl _, Same.refl _, Same.refl _, fun _ _ _ _ h => h, fun _ h => (nomatch h), List.nodup_nil, .nil⟩, ⟨ns, rfl, hl, rfl, rfl⟩, fun d L' v F' H' k _ r => ?_, fun _ _ _ _ _ _ h => h.elim⟩
    · rw [← e]
      exact RepA.of_flats _
    · subst k
      exact r.flat
  · intro w H s e s' h
    obtain ⟨_, _, _, _, _, _, _, _, _, _, _, _, z⟩ := h
    exact z
end
end Rk01
open PySem PySem.W PyProof.Rows in
set_option maxRecDepth 100000 in
set_option maxHeartbeats 0 in
theorem PySem.Challenge.cw_repairscost_k01_whole_machines_holds : PySem.Challenge.rw_repairscost_k01_whole_machines.Holds := by
  w_on; o_law; k_head; (case hw => w_witness2)
  k_fill
  refine Rk01.walk (l := PySem.Challenge.rw_repairscost_k01_whole_machines) rfl rfl (fun w h Y => PySem.W.kIn_of Y) ?F
  case F =>
    intro w mg fa h KX G hmg
    refine' Rk01.all_mk KX G hmg ?aiswhole ?liswhole ?ciswhole ?kiswhole ?aisletter ?lisletter ?cisletter ?kisletter ?aisrow ?lisrow ?cisrow ?kisrow ?aismachine ?lismachine ?cismachine ?kismachine ?awaysof ?lwaysof ?cwaysof ?kwaysof ?aleadingrows ?lleadingrows ?cleadingrows ?kleadingrows ?aneededrows ?lneededrows ?cneededrows ?kneededrows ?aistext ?listext ?cistext ?kistext ?arowbehind ?lrowbehind ?crowbehind ?krowbehind ?aleasttext ?lleasttext ?cleasttext ?kleasttext ?aisend ?lisend ?cisend ?kisend ?aiswished ?liswished ?ciswished ?kiswished ?awoven ?lwoven ?cwoven ?kwoven ?asignof ?lsignof ?csignof ?ksignof ?agrouped ?lgrouped ?cgrouped ?kgrouped ?aplainreader ?lplainreader ?cplainreader ?kplainreader ?alawbegin ?llawbegin ?clawbegin ?klawbegin ?alawdraw ?llawdraw ?clawdraw ?klawdraw ?alawmachine ?llawmachine ?clawmachine ?klawmachine ?alawafter ?llawafter ?clawafter ?klawafter ?alawrow ?llawrow ?clawrow ?klawrow ?alawhas ?llawhas ?clawhas ?klawhas ?alawtexts ?llawtexts ?clawtexts ?klawtexts ?alawneeded ?llawneeded ?clawneeded ?klawneeded ?alawlike ?llawlike ?clawlike ?klawlike ?alawmake ?llawmake ?clawmake ?klawmake ?alawtold ?llawtold ?clawtold ?klawtold ?alawpairs ?llawpairs ?clawpairs ?klawpairs ?alawin ?llawin ?clawin ?klawin ?alawalike ?llawalike ?clawalike ?klawalike ?alawfewest ?llawfewest ?clawfewest ?klawfewest ?alaw ?llaw ?claw ?klaw ?aCReader ?pgReader ?hdReader ?poReader ?saReader ?nReadertable ?nReaderlast ?chaReader ?chmReader ?icReader ?tyReader ?aCMachine ?pgMachine ?hdMachine ?poMachine ?saMachine ?nMachineinner ?chaMachine ?chmMachine ?icMachine ?tyMachine ?chn ?cht ?wtupleReader ?wNoneTypeReader ?wlistReader ?sfMachine ?inReader ?jfReader ?mkReader ?kcReader ?lReader ?cReader ?kReader ?inMachine ?jfMachine ?mkMachine ?kcMachine ?lMachine ?cMachine ?kMachine ?miReaderbehind ?mjReaderbehind ?lReaderbehind ?cReaderbehind ?kReaderbehind ?miMachinerows ?mjMachinerows ?lMachinerows ?cMachinerows ?kMachinerows ?miMachinehas ?mjMachinehas ?lMachinehas ?cMachinehas ?kMachinehas ?miMachineneeded ?mjMachineneeded ?lMachineneeded ?cMachineneeded ?kMachineneeded ?miMachineleast ?mjMachineleast ?lMachineleast ?cMachineleast ?kMachineleast ?miMachineand ?mjMachineand ?lMachineand ?cMachineand ?kMachineand ?miMachineor ?mjMachineor ?lMachineor ?cMachineor ?kMachineor ?miMachinesub ?mjMachinesub ?lMachinesub ?cMachinesub ?kMachinesub ?miMachineisin ?mjMachineisin ?lMachineisin ?cMachineisin ?kMachineisin ?miMachineeq ?mjMachineeq ?lMachineeq ?cMachineeq ?kMachineeq ?miMachineplain ?mjMachineplain ?lMachineplain ?cMachineplain ?kMachineplain ?aCBadMachine ?aCBadText ?aCNoTexts ?xcBadMachine ?xcBadText ?xcNoTexts ?kpBadMachine ?sbBadMachine ?tyBadMachine ?kpBadText ?sbBadText ?tyBadText ?kpNoTexts ?sbNoTexts ?tyNoTexts ?icNoTexts ?ssNoTexts ?vMOSTROWS ?vLETTERS ?lLETTERS ?rLETTERS ?zlen ?zisinstance ?zrange ?zint ?zstr ?zall ?zany ?zmin ?zmax ?ztuple ?zlist ?zdict ?zzip ?zenumerate ?zsum ?zsorted ?zbool
    (case aiswhole => k_is)
    (case liswhole => k_is)
    (case ciswhole => k_is)
    (case kiswhole => k_is)
    (case aisletter => k_is)
    (case lisletter => k_is)
    (case cisletter => k_is)
    (case kisletter => k_is)
    (case aisrow => k_is)
    (case lisrow => k_is)
    (case cisrow => k_is)
    (case kisrow => k_is)
    (case aismachine => k_is)
    (case lismachine => k_is)
    (case cismachine => k_is)
    (case kismachine => k_is)
    (case awaysof => k_is)
    (case lwaysof => k_is)
    (case cwaysof => k_is)
    (case kwaysof => k_is)
    (case aleadingrows => k_is)
    (case lleadingrows => k_is)
    (case cleadingrows => k_is)
    (case kleadingrows => k_is)
    (case aneededrows => k_is)
    (case lneededrows => k_is)
    (case cneededrows => k_is)
    (case kneededrows => k_is)
    (case aistext => k_is)
    (case listext => k_is)
    (case cistext => k_is)
    (case kistext => k_is)
    (case arowbehind => k_is)
    (case lrowbehind => k_is)
    (case crowbehind => k_is)
    (case krowbehind => k_is)
    (case aleasttext => k_is)
    (case lleasttext => k_is)
    (case cleasttext => k_is)
    (case kleasttext => k_is)
    (case aisend => k_is)
    (case lisend => k_is)
    (case cisend => k_is)
    (case kisend => k_is)
    (case aiswished => k_is)
    (case liswished => k_is)
    (case ciswished => k_is)
    (case kiswished => k_is)
    (case awoven => k_is)
    (case lwoven => k_is)
    (case cwoven => k_is)
    (case kwoven => k_is)
    (case asignof => k_is)
    (case lsignof => k_is)
    (case csignof => k_is)
    (case ksignof => k_is)
    (case agrouped => k_is)
    (case lgrouped => k_is)
    (case cgrouped => k_is)
    (case kgrouped => k_is)
    (case aplainreader => k_is)
    (case lplainreader => k_is)
    (case cplainreader => k_is)
    (case kplainreader => k_is)
    (case alawbegin => k_is)
    (case llawbegin => k_is)
    (case clawbegin => k_is)
    (case klawbegin => k_is)
    (case alawdraw => k_is)
    (case llawdraw => k_is)
    (case clawdraw => k_is)
    (case klawdraw => k_is)
    (case alawmachine => k_is)
    (case llawmachine => k_is)
    (case clawmachine => k_is)
    (case klawmachine => k_is)
    (case alawafter => k_is)
    (case llawafter => k_is)
    (case clawafter => k_is)
    (case klawafter => k_is)
    (case alawrow => k_is)
    (case llawrow => k_is)
    (case clawrow => k_is)
    (case klawrow => k_is)
    (case alawhas => k_is)
    (case llawhas => k_is)
    (case clawhas => k_is)
    (case klawhas => k_is)
    (case alawtexts => k_is)
    (case llawtexts => k_is)
    (case clawtexts => k_is)
    (case klawtexts => k_is)
    (case alawneeded => k_is)
    (case llawneeded => k_is)
    (case clawneeded => k_is)
    (case klawneeded => k_is)
    (case alawlike => k_is)
    (case llawlike => k_is)
    (case clawlike => k_is)
    (case klawlike => k_is)
    (case alawmake => k_is)
    (case llawmake => k_is)
    (case clawmake => k_is)
    (case klawmake => k_is)
    (case alawtold => k_is)
    (case llawtold => k_is)
    (case clawtold => k_is)
    (case klawtold => k_is)
    (case alawpairs => k_is)
    (case llawpairs => k_is)
    (case clawpairs => k_is)
    (case klawpairs => k_is)
    (case alawin => k_is)
    (case llawin => k_is)
    (case clawin => k_is)
    (case klawin => k_is)
    (case alawalike => k_is)
    (case llawalike => k_is)
    (case clawalike => k_is)
    (case klawalike => k_is)
    (case alawfewest => k_is)
    (case llawfewest => k_is)
    (case clawfewest => k_is)
    (case klawfewest => k_is)
    (case alaw => k_is)
    (case llaw => k_is)
    (case claw => k_is)
    (case klaw => k_is)
    (case aCReader => k_is)
    (case pgReader => k_is)
    (case hdReader => k_is)
    (case poReader => k_is)
    (case saReader => k_is)
    (case nReadertable => k_is)
    (case nReaderlast => k_is)
    (case chaReader => k_is)
    (case chmReader => k_is)
    (case icReader => k_is)
    (case tyReader => k_is)
    (case aCMachine => k_is)
    (case pgMachine => k_is)
    (case hdMachine => k_is)
    (case poMachine => k_is)
    (case saMachine => k_is)
    (case nMachineinner => k_is)
    (case chaMachine => k_is)
    (case chmMachine => k_is)
    (case icMachine => k_is)
    (case tyMachine => k_is)
    (case chn => k_is)
    (case cht => k_is)
    (case wtupleReader => k_is)
    (case wNoneTypeReader => k_is)
    (case wlistReader => k_is)
    (case sfMachine => k_is)
    (case inReader => k_is)
    (case jfReader => k_is)
    (case mkReader => k_is)
    (case kcReader => k_is)
    (case lReader => k_is)
    (case cReader => k_is)
    (case kReader => k_is)
    (case inMachine => k_is)
    (case jfMachine => k_is)
    (case mkMachine => k_is)
    (case kcMachine => k_is)
    (case lMachine => k_is)
    (case cMachine => k_is)
    (case kMachine => k_is)
    (case miReaderbehind => k_is)
    (case mjReaderbehind => k_is)
    (case lReaderbehind => k_is)
    (case cReaderbehind => k_is)
    (case kReaderbehind => k_is)
    (case miMachinerows => k_is)
    (case mjMachinerows => k_is)
    (case lMachinerows => k_is)
    (case cMachinerows => k_is)
    (case kMachinerows => k_is)
    (case miMachinehas => k_is)
    (case mjMachinehas => k_is)
    (case lMachinehas => k_is)
    (case cMachinehas => k_is)
    (case kMachinehas => k_is)
    (case miMachineneeded => k_is)
    (case mjMachineneeded => k_is)
    (case lMachineneeded => k_is)
    (case cMachineneeded => k_is)
    (case kMachineneeded => k_is)
    (case miMachineleast => k_is)
    (case mjMachineleast => k_is)
    (case lMachineleast => k_is)
    (case cMachineleast => k_is)
    (case kMachineleast => k_is)
    (case miMachineand => k_is)
    (case mjMachineand => k_is)
    (case lMachineand => k_is)
    (case cMachineand => k_is)
    (case kMachineand => k_is)
    (case miMachineor => k_is)
    (case mjMachineor => k_is)
    (case lMachineor => k_is)
    (case cMachineor => k_is)
    (case kMachineor => k_is)
    (case miMachinesub => k_is)
    (case mjMachinesub => k_is)
    (case lMachinesub => k_is)
    (case cMachinesub => k_is)
    (case kMachinesub => k_is)
    (case miMachineisin => k_is)
    (case mjMachineisin => k_is)
    (case lMachineisin => k_is)
    (case cMachineisin => k_is)
    (case kMachineisin => k_is)
    (case miMachineeq => k_is)
    (case mjMachineeq => k_is)
    (case lMachineeq => k_is)
    (case cMachineeq => k_is)
    (case kMachineeq => k_is)
    (case miMachineplain => k_is)
    (case mjMachineplain => k_is)
    (case lMachineplain => k_is)
    (case cMachineplain => k_is)
    (case kMachineplain => k_is)
    (case aCBadMachine => k_is)
    (case aCBadText => k_is)
    (case aCNoTexts => k_is)
    (case xcBadMachine => k_exc)
    (case xcBadText => k_exc)
    (case xcNoTexts => k_exc)
    (case kpBadMachine => k_is)
    (case sbBadMachine => k_is)
    (case tyBadMachine => k_is)
    (case kpBadText => k_is)
    (case sbBadText => k_is)
    (case tyBadText => k_is)
    (case kpNoTexts => k_is)
    (case sbNoTexts => k_is)
    (case tyNoTexts => k_is)
    (case icNoTexts => k_is)
    (case ssNoTexts => k_is)
    (case vMOSTROWS => k_is)
    (case vLETTERS => k_is)
    (case lLETTERS => k_is)
    (case rLETTERS => exact .cons ⟨_, rfl⟩ (.cons ⟨_, rfl⟩ (.cons ⟨_, rfl⟩ (.nil))))
    (case zlen => k_is)
    (case zisinstance => k_is)
    (case zrange => k_is)
    (case zint => k_is)
    (case zstr => k_is)
    (case zall => k_is)
    (case zany => k_is)
    (case zmin => k_is)
    (case zmax => k_is)
    (case ztuple => k_is)
    (case zlist => k_is)
    (case zdict => k_is)
    (case zzip => k_is)
    (case zenumerate => k_is)
    (case zsum => k_is)
    (case zsorted => k_is)
    (case zbool => k_is)
