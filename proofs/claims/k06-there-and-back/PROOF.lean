import PyProof.Rows.All
import Wide.All
import OpenK.AllK
import Wide.FinOn
import HandS.ForMost
import HandS.Exc
import HandS.ExcOwn
import HandS.TryOnly
import HandS.IsInst
import HandS.Zip
import HandS.TryMany
import HandS.WordsExc
import HandS.ExcInit
import HandS.ExcField
import HandS.NoneIn
import HandS.DictComp
import HandS.TupAny
import HandS.Iter
import HandS.Walk
import HandS.TupMul
import KE.KDictZip
import HandS.Style
import HandS.FStr
import KE.GoesMore
import KE.GoesEnum
import PyProof.P3Eq
import PySem.Challenge.RW_repairscost_k06_texts_there_and_back
set_option Elab.async false
set_option maxRecDepth 100000
set_option maxHeartbeats 0
set_option linter.all false
/-! TL: data in the frozen part of the heap, and a ledger of own objects -/
namespace TL
open PySem L2

/-- a datum: an exact flat value, or what stands (for good) at an address -/
inductive D where
  | v (x : V)
  | tup (ds : List D)
  | lst (ds : List D)
  | sq (ds : List D)
  | dK (kvs : List (Key × D))
  | dT (kvs : List (List Key × D))
  | ob (C : Addr) (fs : List (Str × D))
@[reducible] def D.int (i : Int) : D := .v (.int i)
@[reducible] def D.str (z : Str) : D := .v (.str z)
@[reducible] def D.bl (b : Bool) : D := .v (.bl b)
@[reducible] def D.non : D := .v .non
@[reducible] def D.ref (a : Addr) : D := .v (.ref a)

mutual
inductive Rep (K : PySem.W.Frag) (F : Hp) : D → V → Prop
  | v (x : V) : Rep K F (.v x) x
  | tup {ds : List D} {p : Addr} {vs : List V} : SqT K F p vs → RepA K F ds vs → Rep K F (.tup ds) (.ref p)
  | lst {ds : List D} {p : Addr} {vs : List V} : F p = some (.lst vs) → RepA K F ds vs → Rep K F (.lst ds) (.ref p)
  | sq {ds : List D} {p : Addr} {vs : List V} : SqL K F p vs → RepA K F ds vs → Rep K F (.sq ds) (.ref p)
  | dK {kvs : List (Key × D)} {p : Addr} {ws : List (Key × V)} : Rd F p (.dK ws) → RepK K F kvs ws → Rep K F (.dK kvs) (.ref p)
  | dT {kvs : List (List Key × D)} {p : Addr} {ws : List (List Key × V)} : Rd F p (.dT ws) → RepT K F kvs ws → Rep K F (.dT kvs) (.ref p)
  | ob {C : Addr} {fs : List (Str × D)} {p dx : Addr} {ws : List (Str × V)} : F p = some (.ins C dx ws) → RepF K F fs ws → Rep K F (.ob C fs) (.ref p)
inductive RepA (K : PySem.W.Frag) (F : Hp) : List D → List V → Prop
  | nil : RepA K F [] []
  | cons {d : D} {v : V} {ds : List D} {vs : List V} : Rep K F d v → RepA K F ds vs → RepA K F (d :: ds) (v :: vs)
inductive RepK (K : PySem.W.Frag) (F : Hp) : List (Key × D) → List (Key × V) → Prop
  | nil : RepK K F [] []
  | cons {k : Key} {d : D} {v : V} {ds : List (Key × D)} {vs : List (Key × V)} : Rep K F d v → RepK K F ds vs → RepK K F ((k, d) :: ds) ((k, v) :: vs)
inductive RepT (K : PySem.W.Frag) (F : Hp) : List (List Key × D) → List (List Key × V) → Prop
  | nil : RepT K F [] []
  | cons {k : List Key} {d : D} {v : V} {ds : List (List Key × D)} {vs : List (List Key × V)} : Rep K F d v → RepT K F ds vs → RepT K F ((k, d) :: ds) ((k, v) :: vs)
inductive RepF (K : PySem.W.Frag) (F : Hp) : List (Str × D) → List (Str × V) → Prop
  | nil : RepF K F [] []
  | cons {k : Str} {d : D} {v : V} {ds : List (Str × D)} {vs : List (Str × V)} : Rep K F d v → RepF K F ds vs → RepF K F ((k, d) :: ds) ((k, v) :: vs)
end

section
variable {K : PySem.W.Frag} {F F' : Hp}
/-- all that data leans on is kept -/
structure Kp (F F' : Hp) : Prop where
  rd : ∀ a u, (∀ o v, u ≠ .frz o v) → Rd F a u → Rd F' a u
  lst : ∀ a xs, F a = some (.lst xs) → F' a = some (.lst xs)
  ins : ∀ a C dx fs, F a = some (.ins C dx fs) → F' a = some (.ins C dx fs)
theorem Kp.same {F F' : Hp} (e : Same F F') : Kp F F' :=
  ⟨fun a u _ h => h.elim (fun h => .inl (e _ _ h)) fun ⟨o, h⟩ => .inr ⟨o, e _ _ h⟩, fun a xs h => e _ _ h, fun a C dx fs h => e _ _ h⟩
theorem sqT_keep {p : Addr} {vs : List V} (e : Kp F F') (h : SqT K F p vs) : SqT K F' p vs := h.elim (fun h => .inl (e.rd _ _ (fun _ _ z => nomatch z) h)) .inr
theorem sqT_mono {p : Addr} {vs : List V} (e : Same F F') (h : SqT K F p vs) : SqT K F' p vs := sqT_keep (.same e) h
theorem sqL_keep {p : Addr} {vs : List V} (e : Kp F F') (h : SqL K F p vs) : SqL K F' p vs := h.elim (fun h => .inl (e.rd _ _ (fun _ _ z => nomatch z) h)) .inr
theorem Kp.dK (e : Kp F F') {p : Addr} {ws : List (Key × V)} (h : Rd F p (.dK ws)) : Rd F' p (.dK ws) := e.rd _ _ (fun _ _ z => nomatch z) h
theorem Kp.dT (e : Kp F F') {p : Addr} {ws : List (List Key × V)} (h : Rd F p (.dT ws)) : Rd F' p (.dT ws) := e.rd _ _ (fun _ _ z => nomatch z) h
mutual
theorem Rep.keep (e : Kp F F') : ∀ {d : D} {v : V}, Rep K F d v → Rep K F' d v
  | _, _, .v x => .v x
  | _, _, .tup h r => .tup (sqT_keep e h) (RepA.keep e r)
  | _, _, .lst h r => .lst (e.lst _ _ h) (RepA.keep e r)
  | _, _, .sq h r => .sq (sqL_keep e h) (RepA.keep e r)
  | _, _, .dK h r => .dK (e.dK h) (RepK.keep e r)
  | _, _, .dT h r => .dT (e.dT h) (RepT.keep e r)
  | _, _, .ob h r => .ob (e.ins _ _ _ _ h) (RepF.keep e r)
theorem RepA.keep (e : Kp F F') : ∀ {d : List D} {v : List V}, RepA K F d v → RepA K F' d v
  | _, _, .nil => .nil
  | _, _, .cons h t => .cons (Rep.keep e h) (RepA.keep e t)
theorem RepK.keep (e : Kp F F') : ∀ {d : List (Key × D)} {v : List (Key × V)}, RepK K F d v → RepK K F' d v
  | _, _, .nil => .nil
  | _, _, .cons h t => .cons (Rep.keep e h) (RepK.keep e t)
theorem RepT.keep (e : Kp F F') : ∀ {d : List (List Key × D)} {v : List (List Key × V)}, RepT K F d v → RepT K F' d v
  | _, _, .nil => .nil
  | _, _, .cons h t => .cons (Rep.keep e h) (RepT.keep e t)
theorem RepF.keep (e : Kp F F') : ∀ {d : List (Str × D)} {v : List (Str × V)}, RepF K F d v → RepF K F' d v
  | _, _, .nil => .nil
  | _, _, .cons h t => .cons (Rep.keep e h) (RepF.keep e t)
end
theorem Rep.mono (e : Same F F') {d : D} {v : V} (h : Rep K F d v) : Rep K F' d v := Rep.keep (.same e) h
theorem RepA.mono (e : Same F F') {d : List D} {v : List V} (h : RepA K F d v) : RepA K F' d v := RepA.keep (.same e) h
theorem RepK.mono (e : Same F F') {d : List (Key × D)} {v : List (Key × V)} (h : RepK K F d v) : RepK K F' d v := RepK.keep (.same e) h
theorem RepT.mono (e : Same F F') {d : List (List Key × D)} {v : List (List Key × V)} (h : RepT K F d v) : RepT K F' d v := RepT.keep (.same e) h
theorem RepF.mono (e : Same F F') {d : List (Str × D)} {v : List (Str × V)} (h : RepF K F d v) : RepF K F' d v := RepF.keep (.same e) h
theorem Rep.flat {x v : V} (h : Rep K F (.v x) v) : v = x := by cases h; rfl
theorem RepA.length : ∀ {ds : List D} {vs : List V}, RepA K F ds vs → ds.length = vs.length
  | _, _, .nil => rfl
  | _, _, .cons _ t => by simp [RepA.length t]
theorem RepA.get : ∀ {ds : List D} {vs : List V} {i : Nat} {d : D}, RepA K F ds vs → ds[i]? = some d → ∃ v, vs[i]? = some v ∧ Rep K F d v
  | _, _, _, _, .nil, e => by simp at e
  | _, _, 0, _, .cons r _, e => by simp at e; subst e; exact ⟨_, rfl, r⟩
  | _, _, i + 1, _, .cons _ t, e => by
    obtain ⟨v, h1, h2⟩ := RepA.get (i := i) t (by simpa using e)
    exact ⟨v, by simpa using h1, h2⟩
theorem RepA.get' : ∀ {ds : List D} {vs : List V} {i : Nat} {v : V}, RepA K F ds vs → vs[i]? = some v → ∃ d, ds[i]? = some d ∧ Rep K F d v
  | _, _, _, _, .nil, e => by simp at e
  | _, _, 0, _, .cons r _, e => by simp at e; subst e; exact ⟨_, rfl, r⟩
  | _, _, i + 1, _, .cons _ t, e => by
    obtain ⟨v, h1, h2⟩ := RepA.get' (i := i) t (by simpa using e)
    exact ⟨v, by simpa using h1, h2⟩
theorem RepA.append : ∀ {ds es : List D} {vs ws : List V}, RepA K F ds vs → RepA K F es ws → RepA K F (ds ++ es) (vs ++ ws)
  | _, _, _, _, .nil, s => s
  | _, _, _, _, .cons r t, s => .cons r (RepA.append t s)
theorem RepA.snoc {ds : List D} {vs : List V} {d : D} {v : V} (h : RepA K F ds vs) (r : Rep K F d v) : RepA K F (ds ++ [d]) (vs ++ [v]) := h.append (.cons r .nil)
theorem RepA.take : ∀ {ds : List D} {vs : List V} (n : Nat), RepA K F ds vs → RepA K F (ds.take n) (vs.take n)
  | _, _, 0, _ => .nil
  | _, _, _ + 1, .nil => .nil
  | _, _, n + 1, .cons r t => .cons r (RepA.take n t)
theorem RepA.drop : ∀ {ds : List D} {vs : List V} (n : Nat), RepA K F ds vs → RepA K F (ds.drop n) (vs.drop n)
  | _, _, 0, h => h
  | _, _, _ + 1, .nil => .nil
  | _, _, n + 1, .cons _ t => RepA.drop n t
theorem RepA.set : ∀ {ds : List D} {vs : List V} {d : D} {v : V} (i : Nat), RepA K F ds vs → Rep K F d v → RepA K F (ds.set i d) (vs.set i v)
  | _, _, _, _, _, .nil, _ => .nil
  | _, _, _, _, 0, .cons _ t, r => .cons r t
  | _, _, _, _, i + 1, .cons q t, r => .cons q (RepA.set i t r)
theorem RepA.erase : ∀ {ds : List D} {vs : List V} (i : Nat), RepA K F ds vs → RepA K F (ds.eraseIdx i) (vs.eraseIdx i)
  | _, _, _, .nil => .nil
  | _, _, 0, .cons _ t => t
  | _, _, i + 1, .cons q t => .cons q (RepA.erase i t)
theorem RepA.flats : ∀ {xs : List V} {vs : List V}, RepA K F (xs.map D.v) vs → vs = xs
  | [], _, .nil => rfl
  | _ :: _, _, .cons r t => by rw [r.flat, RepA.flats t]
theorem RepA.of_flats : ∀ (xs : List V), RepA K F (xs.map D.v) xs
  | [] => .nil
  | x :: xs => .cons (.v x) (RepA.of_flats xs)
theorem RepF.lookup : ∀ {fs : List (Str × D)} {ws : List (Str × V)} {f : Str} {d : D}, RepF K F fs ws → fs.lookup f = some d → ∃ v, ws.lookup f = some v ∧ Rep K F d v
  | _, _, _, _, .nil, e => by simp at e
  | (k, d) :: fs, (_, v) :: ws, f, d', .cons r t, e => by
    rw [List.lookup_cons] at e ⊢
    cases q : f == k with
    | true => rw [q] at e; simp at e; subst e; exact ⟨v, rfl, r⟩
    | false => rw [q] at e; simp at e; exact RepF.lookup t e
theorem RepF.lookup_none : ∀ {fs : List (Str × D)} {ws : List (Str × V)} {f : Str}, RepF K F fs ws → fs.lookup f = none → ws.lookup f = none
  | _, _, _, .nil, _ => rfl
  | (k, d) :: fs, (_, v) :: ws, f, .cons r t, e => by
    rw [List.lookup_cons] at e ⊢
    cases q : f == k with
    | true => rw [q] at e; cases e
    | false => rw [q] at e; exact RepF.lookup_none t e
theorem RepF.length : ∀ {ds : List (Str × D)} {vs : List (Str × V)}, RepF K F ds vs → ds.length = vs.length
  | _, _, .nil => rfl
  | _, _, .cons _ t => by simp [RepF.length t]
/-- a field stored, on data -/
def putD (f : Str) (d : D) : List (Str × D) → List (Str × D)
  | [] => [(f, d)]
  | (g, x) :: r => if g = f then (g, d) :: r else (g, x) :: putD f d r
theorem RepF.put {f : Str} {d : D} {v : V} (r : Rep K F d v) : ∀ {fs : List (Str × D)} {ws : List (Str × V)}, RepF K F fs ws → RepF K F (putD f d fs) (putF f v ws)
  | _, _, .nil => .cons r .nil
  | (g, x) :: fs, (_, y) :: ws, .cons q t => by
    show RepF K F (if g = f then (g, d) :: fs else (g, x) :: putD f d fs) (if g = f then (g, v) :: ws else (g, y) :: putF f v ws)
    by_cases h : g = f
    · rw [if_pos h, if_pos h]; exact .cons r t
    · rw [if_neg h, if_neg h]; exact .cons q (RepF.put r t)
theorem putD_length {f : Str} {d : D} : ∀ fs : List (Str × D), (putD f d fs).length ≤ fs.length + 1
  | [] => Nat.le_refl _
  | (g, x) :: fs => by
    show (if g = f then (g, d) :: fs else (g, x) :: putD f d fs).length ≤ _
    by_cases h : g = f
    · rw [if_pos h]; simp
    · rw [if_neg h]; simpa using putD_length fs
end

/-! ### own objects -/
inductive OW where
  | lst (ds : List D)
  | dK (kvs : List (Key × D))
  | dT (kvs : List (List Key × D))
  | ins (C : Addr) (fs : List (Str × D))
abbrev Led := List (Addr × OW)
inductive OwnAt (K : PySem.W.Frag) (F H : Hp) : Addr → OW → Prop
  | lst {l : Addr} {ds : List D} {vs : List V} : H l = some (.lst vs) → RepA K F ds vs → OwnAt K F H l (.lst ds)
  | dK {l : Addr} {kvs : List (Key × D)} {ws : List (Key × V)} : H l = some (.dK ws) → RepK K F kvs ws → OwnAt K F H l (.dK kvs)
  | dT {l : Addr} {kvs : List (List Key × D)} {ws : List (List Key × V)} : H l = some (.dT ws) → RepT K F kvs ws → OwnAt K F H l (.dT kvs)
  | ins {l C dx : Addr} {fs : List (Str × D)} {ws : List (Str × V)} : H l = some (.ins C dx ws) → RepF K F fs ws → OwnAt K F H l (.ins C fs)
theorem OwnAt.mono {K : PySem.W.Frag} {F F' H H' : Hp} {l : Addr} {o : OW} (e : Same F F') (h : ∀ u, H l = some u → H' l = some u) (x : OwnAt K F H l o) : OwnAt K F' H' l o := by
  cases x with
  | lst a r => exact .lst (h _ a) (r.mono e)
  | dK a r => exact .dK (h _ a) (r.mono e)
  | dT a r => exact .dT (h _ a) (r.mono e)
  | ins a r => exact .ins (h _ a) (r.mono e)
theorem OwnAt.there {K : PySem.W.Frag} {F H : Hp} {l : Addr} {o : OW} (x : OwnAt K F H l o) : ∃ u, H l = some u := by
  cases x with
  | lst a r => exact ⟨_, a⟩
  | dK a r => exact ⟨_, a⟩
  | dT a r => exact ⟨_, a⟩
  | ins a r => exact ⟨_, a⟩

/-- what a frozen own object is as data -/
def OW.frz : OW → D
  | .lst ds => .lst ds
  | .dK kvs => .dK kvs
  | .dT kvs => .dT kvs
  | .ins C fs => .ob C fs

/-- slots -/
inductive RepS (K : PySem.W.Frag) (F : Hp) : List (Option D) → St → Prop
  | nil : RepS K F [] []
  | any {v : Option V} {g : List (Option D)} {σ : St} : RepS K F g σ → RepS K F (none :: g) (v :: σ)
  | val {d : D} {v : V} {g : List (Option D)} {σ : St} : Rep K F d v → RepS K F g σ → RepS K F (some d :: g) (some v :: σ)
section
variable {K : PySem.W.Frag} {F F' : Hp}
theorem RepS.keep (e : Kp F F') : ∀ {g : List (Option D)} {σ : St}, RepS K F g σ → RepS K F' g σ
  | _, _, .nil => .nil
  | _, _, .any t => .any (RepS.keep e t)
  | _, _, .val r t => .val (r.keep e) (RepS.keep e t)
theorem RepS.mono (e : Same F F') {g : List (Option D)} {σ : St} (h : RepS K F g σ) : RepS K F' g σ := RepS.keep (.same e) h
theorem RepS.length : ∀ {g : List (Option D)} {σ : St}, RepS K F g σ → g.length = σ.length
  | _, _, .nil => rfl
  | _, _, .any t => by simp [RepS.length t]
  | _, _, .val r t => by simp [RepS.length t]
theorem RepS.get : ∀ {g : List (Option D)} {σ : St} {i : Nat} {d : D}, RepS K F g σ → g[i]? = some (some d) → ∃ v, σ[i]? = some (some v) ∧ Rep K F d v
  | _, _, _, _, .nil, e => by simp at e
  | _, _, 0, _, .any _, e => by simp at e
  | _, _, 0, _, .val r _, e => by simp at e; subst e; exact ⟨_, rfl, r⟩
  | _, _, i + 1, _, .any t, e => by
    obtain ⟨v, h1, h2⟩ := RepS.get (i := i) t (by simpa using e)
    exact ⟨v, by simpa using h1, h2⟩
  | _, _, i + 1, _, .val _ t, e => by
    obtain ⟨v, h1, h2⟩ := RepS.get (i := i) t (by simpa using e)
    exact ⟨v, by simpa using h1, h2⟩
theorem RepS.set {d : D} {v : V} (r : Rep K F d v) : ∀ {g : List (Option D)} {σ : St} (i : Nat), RepS K F g σ → RepS K F (g.set i (some d)) (σ.set i (some v))
  | _, _, _, .nil => .nil
  | _, _, 0, .any t => .val r t
  | _, _, 0, .val _ t => .val r t
  | _, _, i + 1, .any t => .any (RepS.set r i t)
  | _, _, i + 1, .val q t => .val q (RepS.set r i t)
theorem RepS.clear {v : Option V} : ∀ {g : List (Option D)} {σ : St} (i : Nat), RepS K F g σ → RepS K F (g.set i none) (σ.set i v)
  | _, _, _, .nil => .nil
  | _, _, 0, .any t => .any t
  | _, _, 0, .val _ t => .any t
  | _, _, i + 1, .any t => .any (RepS.clear i t)
  | _, _, i + 1, .val q t => .val q (RepS.clear i t)
end

/-- THE STATE: H0 what is protected, F0 the frozen part at the entry; F the frozen part now, L the own objects -/
structure At (K : PySem.W.Frag) (H0 F0 : Hp) (G : List (Option D)) (L : Led) (F : Hp) (σ : St) (H : Hp) : Prop where
  ef : Same F0 F
  eh : Same H0 H
  fh : Same F H
  nf : ∀ a o, H0 a = some o → F0 a = none → F a = none
  own : ∀ p ∈ L, OwnAt K F H p.1 p.2 ∧ F p.1 = none ∧ H0 p.1 = none
  nd : (L.map (·.1)).Nodup
  env : RepS K F G σ
section
variable {K : PySem.W.Frag} {H0 F0 F F' H H' : Hp} {G G' : List (Option D)} {L L' : Led} {σ σ' : St}
theorem At.envOf (a : At K H0 F0 G L F σ H) (e : RepS K F G' σ') : At K H0 F0 G' L F σ' H := ⟨a.ef, a.eh, a.fh, a.nf, a.own, a.nd, e⟩
theorem At.set {i : Nat} {d : D} {v : V} (a : At K H0 F0 G L F σ H) (r : Rep K F d v) : At K H0 F0 (G.set i (some d)) L F (σ.set i (some v)) H := a.envOf (a.env.set r i)
/-- the heap grows by an object that is not tracked by us -/
theorem At.junk {p : Addr} {o : HO} (a : At K H0 F0 G L F σ H) (hp : H p = none) : At K H0 F0 G L F σ (upd H p o) :=
  ⟨a.ef, fun b u e => by rw [upd_ne (ne_of_none (a.eh b u e) hp)]; exact a.eh b u e, fun b u e => by rw [upd_ne (ne_of_none (a.fh b u e) hp)]; exact a.fh b u e, a.nf,
    fun q hq => let ⟨x, y, z⟩ := a.own q hq; ⟨x.mono (Same.refl _) fun u e => by rw [upd_ne (ne_of_none e hp)]; exact e, y, z⟩, a.nd, a.env⟩
theorem At.free {p : Addr} (a : At K H0 F0 G L F σ H) (hp : H p = none) : F p = none ∧ H0 p = none ∧ p ∉ L.map (·.1) := by
  refine ⟨a.fh.free hp, a.eh.free hp, fun h => ?_⟩
  obtain ⟨q, hq, e⟩ := List.mem_map.mp h
  obtain ⟨u, hu⟩ := (a.own q hq).1.there
  rw [e, hp] at hu
  cases hu
/-- a new own object -/
theorem At.new {p : Addr} {o : HO} {w : OW} (a : At K H0 F0 G L F σ H) (hp : H p = none) (x : OwnAt K F (upd H p o) p w) : At K H0 F0 G ((p, w) :: L) F σ (upd H p o) := by
  have b := a.junk (o := o) hp
  obtain ⟨f1, f2, f3⟩ := a.free hp
  exact ⟨b.ef, b.eh, b.fh, b.nf, fun q hq => by
    rcases List.mem_cons.mp hq with rfl | hq
    · exact ⟨x, f1, f2⟩
    · exact b.own q hq, List.nodup_cons.mpr ⟨f3, b.nd⟩, b.env⟩
/-- a new frozen object -/
theorem At.ice {p : Addr} {o : HO} (a : At K H0 F0 G L F σ H) (hp : H p = none) : At K H0 F0 G L (upd F p o) σ (upd H p o) ∧ Same F (upd F p o) := by
  have b := a.junk (o := o) hp
  obtain ⟨f1, f2, f3⟩ := a.free hp
  have s : Same F (upd F p o) := fun c u e => by rw [upd_ne (ne_of_none e f1)]; exact e
  refine ⟨⟨a.ef.trans s, b.eh, fun c u e => ?_, fun c u e1 e2 => ?_, fun q hq => ?_, b.nd, b.env.mono s⟩, s⟩
  · by_cases h : c = p
    · subst h; rw [upd_same] at e ⊢; exact e
    · rw [upd_ne h] at e ⊢; exact a.fh c u e
  · rw [upd_ne (ne_of_none e1 f2)]; exact a.nf c u e1 e2
  · obtain ⟨x, y, z⟩ := b.own q hq
    refine ⟨x.mono s fun u e => e, ?_, z⟩
    have ne : q.1 ≠ p := fun e => f3 (List.mem_map.mpr ⟨q, hq, e⟩)
    rw [upd_ne ne]; exact y

/-- an entry of the ledger changed -/
inductive Chg : Led → Addr → OW → OW → Led → Prop
  | here {l : Addr} {o o' : OW} {L : Led} : Chg ((l, o) :: L) l o o' ((l, o') :: L)
  | there {p : Addr × OW} {l : Addr} {o o' : OW} {L L' : Led} : Chg L l o o' L' → Chg (p :: L) l o o' (p :: L')
theorem Chg.mem {l : Addr} {o o' : OW} : ∀ {L L' : Led}, Chg L l o o' L' → (l, o) ∈ L
  | _, _, .here => List.mem_cons_self
  | _, _, .there h => List.mem_cons_of_mem _ (Chg.mem h)
theorem Chg.keys {l : Addr} {o o' : OW} : ∀ {L L' : Led}, Chg L l o o' L' → L'.map (·.1) = L.map (·.1)
  | _, _, .here => rfl
  | _, _, .there h => by simp [Chg.keys h]
theorem Chg.of_mem {l : Addr} {o o' : OW} : ∀ {L L' : Led}, Chg L l o o' L' → (L.map (·.1)).Nodup → ∀ q ∈ L', (q = (l, o')) ∨ (q ∈ L ∧ q.1 ≠ l)
  | _, _, .here, nd, q, hq => by
    rcases List.mem_cons.mp hq with rfl | hq
    · exact .inl rfl
    · refine .inr ⟨List.mem_cons_of_mem _ hq, fun e => ?_⟩
      exact (List.nodup_cons.mp nd).1 (List.mem_map.mpr ⟨q, hq, e⟩)
  | p :: L, _, .there h, nd, q, hq => by
    rcases List.mem_cons.mp hq with rfl | hq
    · refine .inr ⟨List.mem_cons_self, fun e => ?_⟩
      exact (List.nodup_cons.mp nd).1 (List.mem_map.mpr ⟨_, h.mem, e.symm⟩)
    · rcases Chg.of_mem h (List.nodup_cons.mp nd).2 q hq with e | ⟨h1, h2⟩
      · exact .inl e
      · exact .inr ⟨List.mem_cons_of_mem _ h1, h2⟩
theorem At.chg {l : Addr} {o o' : OW} {u : HO} (a : At K H0 F0 G L F σ H) (c : Chg L l o o' L') (x : OwnAt K F (upd H l u) l o') : At K H0 F0 G L' F σ (upd H l u) := by
  obtain ⟨_, f1, f2⟩ := a.own _ c.mem
  refine ⟨a.ef, fun b v e => ?_, fun b v e => ?_, a.nf, fun q hq => ?_, by rw [c.keys]; exact a.nd, a.env⟩
  · rw [upd_ne (ne_of_none e f2)]; exact a.eh b v e
  · rw [upd_ne (ne_of_none e f1)]; exact a.fh b v e
  · rcases c.of_mem a.nd q hq with rfl | ⟨hq, ne⟩
    · exact ⟨x, f1, f2⟩
    · obtain ⟨y, z1, z2⟩ := a.own q hq
      exact ⟨y.mono (Same.refl _) fun v e => by rw [upd_ne ne]; exact e, z1, z2⟩
/-- an entry taken out -/
inductive Out : Led → Addr → OW → Led → Prop
  | here {l : Addr} {o : OW} {L : Led} : Out ((l, o) :: L) l o L
  | there {p : Addr × OW} {l : Addr} {o : OW} {L L' : Led} : Out L l o L' → Out (p :: L) l o (p :: L')
theorem Out.mem {l : Addr} {o : OW} : ∀ {L L' : Led}, Out L l o L' → (l, o) ∈ L
  | _, _, .here => List.mem_cons_self
  | _, _, .there h => List.mem_cons_of_mem _ (Out.mem h)
theorem Out.sub {l : Addr} {o : OW} : ∀ {L L' : Led}, Out L l o L' → L'.Sublist L
  | _, _, .here => List.sublist_cons_self _ _
  | _, _, .there h => (Out.sub h).cons_cons _
theorem Out.ne {l : Addr} {o : OW} : ∀ {L L' : Led}, Out L l o L' → (L.map (·.1)).Nodup → ∀ q ∈ L', q.1 ≠ l
  | _, _, .here, nd, q, hq => fun e => (List.nodup_cons.mp nd).1 (List.mem_map.mpr ⟨q, hq, e⟩)
  | p :: L, _, .there h, nd, q, hq => by
    rcases List.mem_cons.mp hq with rfl | hq
    · exact fun e => (List.nodup_cons.mp nd).1 (List.mem_map.mpr ⟨_, h.mem, e.symm⟩)
    · exact Out.ne h (List.nodup_cons.mp nd).2 q hq
theorem At.perm (a : At K H0 F0 G L F σ H) (s : L.Perm L') : At K H0 F0 G L' F σ H :=
  ⟨a.ef, a.eh, a.fh, a.nf, fun q hq => a.own q (s.symm.subset hq), (s.map _).nodup_iff.mp a.nd, a.env⟩
/-- entries forgotten -/
theorem At.drop (a : At K H0 F0 G L F σ H) (s : L'.Sublist L) : At K H0 F0 G L' F σ H :=
  ⟨a.ef, a.eh, a.fh, a.nf, fun q hq => a.own q (s.subset hq), a.nd.sublist (s.map _), a.env⟩
/-- an own object frozen -/
theorem At.freeze {l : Addr} {o : OW} (a : At K H0 F0 G L F σ H) (c : Out L l o L') : ∃ F', At K H0 F0 G L' F' σ H ∧ Same F F' ∧ Rep K F' o.frz (.ref l) := by
  obtain ⟨x, f1, f2⟩ := a.own _ c.mem
  obtain ⟨u, hu⟩ := x.there
  have s : Same F (upd F l u) := fun c u e => by rw [upd_ne (ne_of_none e f1)]; exact e
  refine ⟨upd F l u, ⟨a.ef.trans s, a.eh, fun b v e => ?_, fun b v e1 e2 => ?_, fun q hq => ?_, a.nd.sublist (c.sub.map _), a.env.mono s⟩, s, ?_⟩
  · by_cases h : b = l
    · subst h; rw [upd_same] at e; cases e; exact hu
    · rw [upd_ne h] at e; exact a.fh b v e
  · rw [upd_ne (ne_of_none e1 f2)]; exact a.nf b v e1 e2
  · obtain ⟨y, z1, z2⟩ := a.own q (c.sub.subset hq)
    refine ⟨y.mono s fun _ e => e, ?_, z2⟩
    rw [upd_ne (c.ne a.nd q hq)]; exact z1
  · cases x with
    | lst e r =>
      rw [e] at hu; cases hu
      exact .lst upd_same (r.mono s)
    | dK e r =>
      rw [e] at hu; cases hu
      exact .dK (.inl upd_same) (r.mono s)
    | dT e r =>
      rw [e] at hu; cases hu
      exact .dT (.inl upd_same) (r.mono s)
    | ins e r =>
      rw [e] at hu; cases hu
      exact .ob upd_same (r.mono s)
/-- the heap without some addresses -/
def less (H : Hp) (as : List Addr) : Hp := fun a => if a ∈ as then none else H a
theorem less_in {H : Hp} {as : List Addr} {a : Addr} (h : a ∈ as) : less H as a = none := by unfold less; rw [if_pos h]
theorem less_out {H : Hp} {as : List Addr} {a : Addr} (h : a ∉ as) : less H as a = H a := by unfold less; rw [if_neg h]
theorem less_some {H : Hp} {as : List Addr} {a : Addr} {o : HO} (h : less H as a = some o) : a ∉ as ∧ H a = some o := by
  unfold less at h
  by_cases q : a ∈ as
  · rw [if_pos q] at h; cases h
  · rw [if_neg q] at h; exact ⟨q, h⟩
/-- the state that a callee is handed: it owns Lc -/
theorem At.hand {Lc R : Led} (a : At K H0 F0 G L F σ H) (e : (Lc ++ R).Perm L) : At K (less H (Lc.map (·.1))) F [] Lc F [] H := by
  have mem : ∀ q ∈ Lc, q ∈ L := fun q hq => e.subset (List.mem_append_left _ hq)
  refine ⟨Same.refl _, fun b o h => (less_some h).2, a.fh, fun _ _ _ h => h, fun q hq => ?_, ?_, .nil⟩
  · obtain ⟨x, y, _⟩ := a.own q (mem q hq)
    exact ⟨x, y, less_in (List.mem_map.mpr ⟨q, hq, rfl⟩)⟩
  · have := (e.map (·.1)).nodup_iff.mpr a.nd
    rw [List.map_append] at this
    exact (List.nodup_append.mp this).1
/-- behind a call -/
theorem At.back {Lc R : Led} (a : At K H0 F0 G L F σ H) (e : (Lc ++ R).Perm L) (b : At K (less H (Lc.map (·.1))) F [] L' F' [] H') : At K H0 F0 G (L' ++ R) F' σ H' := by
  have memC : ∀ q ∈ Lc, q ∈ L := fun q hq => e.subset (List.mem_append_left _ hq)
  have memR : ∀ q ∈ R, q ∈ L := fun q hq => e.subset (List.mem_append_right _ hq)
  have nd := (e.map (·.1)).nodup_iff.mpr a.nd
  rw [List.map_append] at nd
  have outR : ∀ q ∈ R, q.1 ∉ Lc.map (·.1) := fun q hq hc => (List.nodup_append.mp nd).2.2 _ hc _ (List.mem_map.mpr ⟨q, hq, rfl⟩) rfl
  have out0 : ∀ b o, H0 b = some o → b ∉ Lc.map (·.1) := fun b o h hc => by
    obtain ⟨q, hq, e⟩ := List.mem_map.mp hc
    have := (a.own q (memC q hq)).2.2
    rw [e, h] at this
    cases this
  have h0 : ∀ b o, H0 b = some o → less H (Lc.map (·.1)) b = some o := fun b o h => by rw [less_out (out0 b o h)]; exact a.eh b o h
  have hR : ∀ q ∈ R, ∀ u, H q.1 = some u → less H (Lc.map (·.1)) q.1 = some u := fun q hq u h => by rw [less_out (outR q hq)]; exact h
  refine ⟨a.ef.trans b.ef, fun c o h => b.eh c o (h0 c o h), b.fh, fun c o h1 h2 => b.nf c o (h0 c o h1) (a.nf c o h1 h2), fun q hq => ?_, ?_, a.env.mono b.ef⟩
  · rcases List.mem_append.mp hq with hq | hq
    · obtain ⟨x, y, z⟩ := b.own q hq
      refine ⟨x, y, ?_⟩
      cases w : H0 q.1 with
      | none => rfl
      | some o => rw [h0 _ _ w] at z; cases z
    · obtain ⟨x, y, z⟩ := a.own q (memR q hq)
      obtain ⟨u, hu⟩ := x.there
      exact ⟨x.mono b.ef fun v e => b.eh _ _ (hR q hq v e), b.nf _ _ (hR q hq u hu) y, z⟩
  · rw [List.map_append]
    refine List.nodup_append.mpr ⟨b.nd, (List.nodup_append.mp nd).2.1, fun x hx y hy e => ?_⟩
    subst e
    obtain ⟨q, hq, rfl⟩ := List.mem_map.mp hx
    obtain ⟨r, hr, er⟩ := List.mem_map.mp hy
    obtain ⟨u, hu⟩ := (a.own r (memR r hr)).1.there
    have z := (b.own q hq).2.2
    have e2 : r.1 = q.1 := er
    have z2 := hR r hr u hu
    rw [e2, z] at z2
    cases z2
end
end TL

namespace TL
open PySem L2

/-! ### what stands still in a def -/
structure Ctx where
  P : Program
  w : World
  K : PySem.W.Frag
  mg : Str → Option Value
  base : Heap
  N : List Str
  sc : Scope
  k : Nat
  df : Str → Bool
  lp : Bool
  cm : Bool
def GlC (C : Ctx) (x : Str) : Prop := C.sc.names.lookup x = some .globalImplicit
structure XOk (C : Ctx) (X : Cx) : Prop where
  eP : C.P = X.prog
  ew : C.w = X.w
  eK : C.K = X.K
  em : C.mg = X.mg
  eb : C.base = X.base
  eN : C.N = X.N
  es : C.sc = X.env.scope
  calm : C.cm = true → X.calm = true
  room : C.cm = true → Room C.k X.A
  nd : C.N.Nodup
  fn : ∀ x, C.df x = true → X.fn x = true
  po : C.lp = true → PassesOwn (model X.prog X.w) X.A X.env X.xe
  st : C.lp = true → X.stack = X.env :: X.outer ∧ X.env.frame = some X.env.locals

/-- an exception: of a class without fields, or of one whose __init__ stores one -/
inductive EX where
  | own (cls : Addr)
  | low (cls : Addr) (f : Str) (d : D)
inductive ExIs (K : PySem.W.Frag) (F H : Hp) : EX → Value → Option Addr → Prop
  | own {C : Addr} : ExIs K F H (.own C) (.ref C) none
  | low {C a : Addr} {f : Str} {d : D} {y : V} : H a = some (.xd [(f, y)]) → Rep K F d y → ExIs K F H (.low C f d) (.ref C) (some a)
structure Mode where
  C : Ctx
  H0 : Hp
  F0 : Hp
  T : EX → List (Option D) → Led → Prop
abbrev Mode.at (M : Mode) (G : List (Option D)) (L : Led) (F : Hp) (σ : St) (H : Hp) : Prop := At M.C.K M.H0 M.F0 G L F σ H
def Mode.Tk (M : Mode) (W : WX) : Prop := ∀ ex G L F σ H v d, M.T ex G L → M.at G L F σ H → ExIs M.C.K F H ex v d → W v d σ H
structure Sit (M : Mode) (X : Cx) : Prop where
  ok : XOk M.C X
  tk : ∃ W, Takes X W ∧ M.Tk W

/-! ### best readings -/
section
variable (X : Cx)
def GE (e : Expr) (σ : St) (H : Hp) (Q : VK) : Prop := ∃ t, PE X e t ∧ t σ H Q
def GT (e : Expr) (σ : St) (H : Hp) (Q : Bool → Hp → Prop) : Prop := ∃ t, PT X e t ∧ t σ H Q
def GW (e : Expr) (σ : St) (H : Hp) (Q : Bool → Hp → Prop) : Prop := ∃ t, PW X e t ∧ t σ H Q
def GA (es : List Expr) (σ : St) (H : Hp) (Q : List V → Hp → Prop) : Prop := ∃ t, PA X es t ∧ t σ H Q
def GS (st : Stmt) (D : Ends) (σ : St) (H : Hp) : Prop := ∃ t, PS X st t ∧ t D σ H
def GSs (st : List Stmt) (D : Ends) (σ : St) (H : Hp) : Prop := ∃ t, PSs X st t ∧ t D σ H
def GI (tg iter : Expr) (σ : St) (H : Hp) (R : It → Hp → Prop) : Prop := ∃ t, PI X tg iter t ∧ t σ H R
def GG (tg : Expr) (v : V) (σ : St) (H : Hp) (Q : St → Hp → Prop) : Prop := ∃ t, PG X tg t ∧ t v σ H Q
def GOp (f : Value → Value → Sem Value) (x y : V) (H : Hp) (Q : VK) : Prop := ∃ r, OpR X f r ∧ r x y H Q
def GUn (f : Value → Sem Value) (x : V) (H : Hp) (Q : VK) : Prop := ∃ r, UnR X f r ∧ r x H Q
def GC (f : Value) (xs : List V) (H : Hp) (Q : VK) : Prop := ∃ r, CallR X f r ∧ r xs H Q
def GM (id : String) (x : V) (xs : List V) (H : Hp) (Q : VK) : Prop := ∃ r, MtR X id r ∧ r x xs H Q
def GIx (x y : V) (H : Hp) (Q : VK) : Prop := ∃ r, IxR X r ∧ r x y H Q
def GSl (x : V) (lo hi : Option Int) (H : Hp) (Q : VK) : Prop := ∃ r, SlR X r ∧ r x lo hi H Q
def GIp (op : Operator) (x y : V) (H : Hp) (Q : VK) : Prop := ∃ r, PIp X op r ∧ r x y H Q
end
section
variable {X : Cx}
theorem be {e : Expr} : PE X e (GE X e) := ⟨fun pins s σ H Q I ⟨_, h, q⟩ => h.run pins s σ H Q I q⟩
theorem bt {e : Expr} : PT X e (GT X e) := ⟨fun pins s σ H Q I ⟨_, h, q⟩ => h.run pins s σ H Q I q⟩
theorem bw {e : Expr} : PW X e (GW X e) := ⟨fun wh pins s σ H Q I ⟨_, h, q⟩ => h.run wh pins s σ H Q I q⟩
theorem ba {e : List Expr} : PA X e (GA X e) := ⟨fun pos pins s σ H Q I ⟨_, h, q⟩ => h.run pos pins s σ H Q I q⟩
theorem bs {e : Stmt} : PS X e (GS X e) := ⟨fun pins s σ H Q I ⟨_, h, q⟩ => h.run pins s σ H Q I q⟩
theorem bss {e : List Stmt} : PSs X e (GSs X e) := ⟨fun pins s σ H Q I ⟨_, h, q⟩ => h.run pins s σ H Q I q⟩
theorem bi {tg e : Expr} : PI X tg e (GI X tg e) := ⟨fun pins s σ H Q I ⟨_, h, q⟩ => h.run pins s σ H Q I q⟩
theorem bg {tg : Expr} : PG X tg (GG X tg) := ⟨fun pins s σ H v u Q I r ⟨_, h, q⟩ => h.run pins s σ H v u Q I r q⟩
theorem bop {f : Value → Value → Sem Value} : OpR X f (GOp X f) := fun pins s σ H x y v u Q I rx ry ⟨_, h, q⟩ => h pins s σ H x y v u Q I rx ry q
theorem bun {f : Value → Sem Value} : UnR X f (GUn X f) := fun pins s σ H x v Q I rx ⟨_, h, q⟩ => h pins s σ H x v Q I rx q
theorem bc {f : Value} : CallR X f (GC X f) := fun pins s σ H xs us Q I rx ⟨_, h, q⟩ => h pins s σ H xs us Q I rx q
theorem bm {id : String} : MtR X id (GM X id) := fun pins s σ H x xs v us Q I rx rs ⟨_, h, q⟩ => h pins s σ H x xs v us Q I rx rs q
theorem bix : IxR X (GIx X) := fun va sl pins s σ H x y v u Q I rx ry ⟨_, h, q⟩ hs => h va sl pins s σ H x y v u Q I rx ry q hs
theorem bsl : SlR X (GSl X) := fun pins s σ H x v vl vu lo hi sl Q I rx hs pl pu ⟨_, h, q⟩ => h pins s σ H x v vl vu lo hi sl Q I rx hs pl pu q
theorem bip {op : Operator} : PIp X op (GIp X op) := fun pins s σ H x y v u Q I rx ry ⟨_, h, q⟩ => h pins s σ H x y v u Q I rx ry q
end

/-! ### the judgements: from every state as told, to a state as told -/
section
variable (M : Mode) (G : List (Option D)) (L : Led)
/-- behind: a datum's value; K is what is to be shown of the datum and the ledger -/
def Post (F : Hp) (σ : St) (K : D → Led → Prop) (Q : VK) : Prop := ∀ d L' v F' H', K d L' → M.at G L' F' σ H' → Rep M.C.K F' d v → Same F F' → Q v H'
def Ev (e : Expr) (K : D → Led → Prop) : Prop := ∀ X, Sit M X → ∀ F σ H, M.at G L F σ H → ∀ Q, Post M G F σ K Q → GE X e σ H Q
def Op2 (f : Value → Value → Sem Value) (x y : D) (K : D → Led → Prop) : Prop := ∀ X, Sit M X → ∀ F σ H v u, M.at G L F σ H → Rep M.C.K F x v → Rep M.C.K F y u → ∀ Q, Post M G F σ K Q → GOp X f v u H Q
def Op1 (f : Value → Sem Value) (x : D) (K : D → Led → Prop) : Prop := ∀ X, Sit M X → ∀ F σ H v, M.at G L F σ H → Rep M.C.K F x v → ∀ Q, Post M G F σ K Q → GUn X f v H Q
def Ip2 (op : Operator) (x y : D) (K : D → Led → Prop) : Prop := ∀ X, Sit M X → ∀ F σ H v u, M.at G L F σ H → Rep M.C.K F x v → Rep M.C.K F y u → ∀ Q, Post M G F σ K Q → GIp X op v u H Q
def CallV (f : Value) (xs : List D) (K : D → Led → Prop) : Prop := ∀ X, Sit M X → ∀ F σ H vs, M.at G L F σ H → RepA M.C.K F xs vs → ∀ Q, Post M G F σ K Q → GC X f vs H Q
def MtV (id : String) (x : D) (xs : List D) (K : D → Led → Prop) : Prop := ∀ X, Sit M X → ∀ F σ H v vs, M.at G L F σ H → Rep M.C.K F x v → RepA M.C.K F xs vs → ∀ Q, Post M G F σ K Q → GM X id v vs H Q
def IxV (x y : D) (K : D → Led → Prop) : Prop := ∀ X, Sit M X → ∀ F σ H v u, M.at G L F σ H → Rep M.C.K F x v → Rep M.C.K F y u → ∀ Q, Post M G F σ K Q → GIx X v u H Q
def SlV (x : D) (lo hi : Option Int) (K : D → Led → Prop) : Prop := ∀ X, Sit M X → ∀ F σ H v, M.at G L F σ H → Rep M.C.K F x v → ∀ Q, Post M G F σ K Q → GSl X v lo hi H Q
def EvA (es : List Expr) (K : List D → Led → Prop) : Prop := ∀ X, Sit M X → ∀ F σ H, M.at G L F σ H → ∀ Q : List V → Hp → Prop, (∀ ds L' vs F' H', K ds L' → M.at G L' F' σ H' → RepA M.C.K F' ds vs → Same F F' → Q vs H') → GA X es σ H Q
def Tst (e : Expr) (K : Bool → Led → Prop) : Prop := ∀ X, Sit M X → ∀ F σ H, M.at G L F σ H → ∀ Q : Bool → Hp → Prop, (∀ b L' F' H', K b L' → M.at G L' F' σ H' → Same F F' → Q b H') → GT X e σ H Q
def TstW (e : Expr) (K : Bool → Led → Prop) : Prop := ∀ X, Sit M X → ∀ F σ H, M.at G L F σ H → ∀ Q : Bool → Hp → Prop, (∀ b L' F' H', K b L' → M.at G L' F' σ H' → Same F F' → Q b H') → GW X e σ H Q
/-- the truth of a datum -/
def TruD (x : D) (b : Bool) : Prop := ∀ F σ H v, M.at G L F σ H → Rep M.C.K F x v → TruV M.C.K v H b
end

/-! ### places of names -/
inductive Look : List Str → List (Option D) → Str → Option D → Prop
  | here {x : Str} {N : List Str} {d : Option D} {G : List (Option D)} : Look (x :: N) (d :: G) x d
  | there {x y : Str} {N : List Str} {d e : Option D} {G : List (Option D)} : Look N G x d → Look (y :: N) (e :: G) x d
theorem Look.ix : ∀ {N : List Str} {G : List (Option D)} {x : Str} {d : Option D}, Look N G x d → ∃ i : Nat, N[i]? = some x ∧ G[i]? = some d
  | _, _, _, _, .here => ⟨0, rfl, rfl⟩
  | _, _, _, _, .there h => let ⟨i, a, b⟩ := Look.ix h; ⟨i + 1, by simpa using a, by simpa using b⟩
inductive Put : List Str → List (Option D) → Str → Option D → List (Option D) → Prop
  | here {x : Str} {N : List Str} {d e : Option D} {G : List (Option D)} : Put (x :: N) (e :: G) x d (d :: G)
  | there {x y : Str} {N : List Str} {d e : Option D} {G G' : List (Option D)} : Put N G x d G' → Put (y :: N) (e :: G) x d (e :: G')
theorem Put.ix : ∀ {N : List Str} {G G' : List (Option D)} {x : Str} {d : Option D}, Put N G x d G' → ∃ i : Nat, N[i]? = some x ∧ G' = G.set i d
  | _, _, _, _, _, .here => ⟨0, rfl, rfl⟩
  | _, _, _, _, _, .there h => let ⟨i, a, b⟩ := Put.ix h; ⟨i + 1, by simpa using a, by simp [b]⟩

section
variable {M : Mode} {G : List (Option D)} {L : Led} {K : D → Led → Prop} {pos : Pos}
theorem Ev.imp {e : Expr} {K' : D → Led → Prop} (h : Ev M G L e K) (k : ∀ d L', K d L' → K' d L') : Ev M G L e K' := fun X S F σ H a Q q => h X S F σ H a Q fun d L' v F' H' kk => q d L' v F' H' (k d L' kk)

/-! ### leaves -/
theorem ev_name {x : Str} {d : D} (hl : Look M.C.N G x (some d)) (hv : Vis M.C.sc x) (h : K d L) (hd : (x == ("__debug__" : Str)) = false := by decide +kernel) (hcd : (x == ("__classdict__" : Str)) = false := by decide +kernel) : Ev M G L (.Name x pos) K := by
  intro X S F σ H a Q q
  obtain ⟨i, h1, h2⟩ := hl.ix
  obtain ⟨v, h3, r⟩ := a.env.get h2
  refine ⟨tVar i, pe_var (by rw [← S.ok.eN]; exact h1) (by rw [← S.ok.es]; exact hv) hd hcd, v, h3, ?_⟩
  exact q d L v F H h a r (Same.refl _)
theorem ev_glob {x : Str} {v : V} {u : Value} {d : D} (hg : GlC M.C x) (hm : M.C.mg x = some u) (r : RelV v u) (rd : ∀ F, Rep M.C.K F d v) (h : K d L) (hd : (x == ("__debug__" : Str)) = false := by decide +kernel) : Ev M G L (.Name x pos) K := by
  intro X S F σ H a Q q
  refine ⟨tC v, pe_glob (by show X.env.scope.names.lookup x = _; rw [← S.ok.es]; exact hg) (by rw [← S.ok.em]; exact hm) r hd, ?_⟩
  exact q d L v F H h a (rd F) (Same.refl _)
theorem ev_int {i : Int} {j : Nat} (h : K (.int i) L) : Ev M G L (.Constant (.int i) j pos) K := fun X S F σ H a Q q => ⟨_, pe_int, q _ L _ F H h a (.v _) (Same.refl _)⟩
theorem ev_bl {i : Bool} {j : Nat} (h : K (.bl i) L) : Ev M G L (.Constant (.bool i) j pos) K := fun X S F σ H a Q q => ⟨_, pe_bl, q _ L _ F H h a (.v _) (Same.refl _)⟩
theorem ev_non {j : Nat} (h : K .non L) : Ev M G L (.Constant .none j pos) K := fun X S F σ H a Q q => ⟨_, pe_non, q _ L _ F H h a (.v _) (Same.refl _)⟩
theorem ev_str {z : Str} {j : Nat} (h : K (.str z) L) : Ev M G L (.Constant (.str z) j pos) K := fun X S F σ H a Q q => ⟨_, pe_str, q _ L _ F H h a (.v _) (Same.refl _)⟩

/-! ### operators -/
variable {a b c : Expr}
theorem ev_bin {op : Operator} (h : Ev M G L a fun x L1 => Ev M G L1 b fun y L2 => Op2 M G L2 (binaryOp op) x y K) : Ev M G L (.BinOp a op b pos) K := by
  intro X S F σ H A Q q
  refine ⟨tOp (GOp X (binaryOp op)) (GE X a) (GE X b), pe_op bop be be, ?_⟩
  refine h X S F σ H A _ fun x L1 v F1 H1 k1 A1 r1 s1 => ?_
  refine k1 X S F1 σ H1 A1 _ fun y L2 u F2 H2 k2 A2 r2 s2 => ?_
  exact k2 X S F2 σ H2 v u A2 (r1.mono s2) r2 Q fun d L3 w F3 H3 k3 A3 r3 s3 => q d L3 w F3 H3 k3 A3 r3 ((s1.trans s2).trans s3)
theorem ev_un {op : UnaryOp} (h : Ev M G L a fun x L1 => Op1 M G L1 (unaryOp op) x K) : Ev M G L (.UnaryOp op a pos) K := by
  intro X S F σ H A Q q
  refine ⟨tUn (GUn X (unaryOp op)) (GE X a), pe_un bun be, ?_⟩
  refine h X S F σ H A _ fun x L1 v F1 H1 k1 A1 r1 s1 => ?_
  exact k1 X S F1 σ H1 v A1 r1 Q fun d L3 w F3 H3 k3 A3 r3 s3 => q d L3 w F3 H3 k3 A3 r3 (s1.trans s3)
theorem ev_cmp {op : CmpOp} (h : Ev M G L a fun x L1 => Ev M G L1 b fun y L2 => Op2 M G L2 (compareOp op) x y K) (hm : behindInMarks op b = false := by first | exact nomark _ | rfl) : Ev M G L (.Compare a [op] [b] pos) K := by
  intro X S F σ H A Q q
  refine ⟨tOp (GOp X (compareOp op)) (GE X a) (GE X b), pe_cmpR bop be be hm, ?_⟩
  refine h X S F σ H A _ fun x L1 v F1 H1 k1 A1 r1 s1 => ?_
  refine k1 X S F1 σ H1 A1 _ fun y L2 u F2 H2 k2 A2 r2 s2 => ?_
  exact k2 X S F2 σ H2 v u A2 (r1.mono s2) r2 Q fun d L3 w F3 H3 k3 A3 r3 s3 => q d L3 w F3 H3 k3 A3 r3 ((s1.trans s2).trans s3)
/-- a op b op' c: the second is asked where the first is true -/
theorem ev_chain {op op' : CmpOp} (h : Ev M G L a fun x L1 => Ev M G L1 b fun y L2 => Op2 M G L2 (compareOp op) x y fun d L3 => ∃ k : Bool, d = .bl k ∧
      (k = true → Ev M G L3 c fun z L4 => Op2 M G L4 (compareOp op') y z K) ∧ (k = false → K (.bl false) L3)) (hm : lastMarks [op, op'] [b, c] = false := by with_unfolding_all rfl) : Ev M G L (.Compare a [op, op'] [b, c] pos) K := by
  intro X S F σ H A Q q
  refine ⟨tChain (GOp X (compareOp op)) (GOp X (compareOp op')) (GE X a) (GE X b) (GE X c), pe_chain bop bop be be be hm, ?_⟩
  refine h X S F σ H A _ fun x L1 v F1 H1 k1 A1 r1 s1 => ?_
  refine k1 X S F1 σ H1 A1 _ fun y L2 u F2 H2 k2 A2 r2 s2 => ?_
  refine k2 X S F2 σ H2 v u A2 (r1.mono s2) r2 _ fun d L3 w F3 H3 k3 A3 r3 s3 => ?_
  obtain ⟨k, rfl, ht, hf⟩ := k3
  cases r3
  refine ⟨k, rfl, ?_⟩
  cases k with
  | true =>
    rw [if_pos rfl]
    refine ht rfl X S F3 σ H3 A3 _ fun z L4 w4 F4 H4 k4 A4 r4 s4 => ?_
    exact k4 X S F4 σ H4 u w4 A4 (r2.mono (s3.trans s4)) r4 Q fun d L5 w5 F5 H5 k5 A5 r5 s5 => q d L5 w5 F5 H5 k5 A5 r5 ((((s1.trans s2).trans s3).trans s4).trans s5)
  | false =>
    rw [if_neg Bool.false_ne_true]
    exact q _ L3 _ F3 H3 (hf rfl) A3 (.v _) ((s1.trans s2).trans s3)
theorem ev_if {t : Expr} (h : Tst M G L t fun k L1 => (k = true → Ev M G L1 a K) ∧ (k = false → Ev M G L1 b K)) : Ev M G L (.IfExp t a b pos) K := by
  intro X S F σ H A Q q
  refine ⟨tIf (GT X t) (GE X a) (GE X b), pe_ifExp bt be be, ?_⟩
  refine h X S F σ H A _ fun k L1 F1 H1 k1 A1 s1 => ?_
  cases k with
  | true =>
    show GE X a σ H1 Q
    exact k1.1 rfl X S F1 σ H1 A1 Q fun d L' v F' H' kk a' r' s' => q d L' v F' H' kk a' r' (s1.trans s')
  | false =>
    show GE X b σ H1 Q
    exact k1.2 rfl X S F1 σ H1 A1 Q fun d L' v F' H' kk a' r' s' => q d L' v F' H' kk a' r' (s1.trans s')
/-- and, or, not as values, all but the last bools -/
theorem ev_one {op : BoolOp} (h : Ev M G L a K) : Ev M G L (.BoolOp op [a] pos) K := fun X S F σ H A Q q => ⟨_, pe_one be, h X S F σ H A Q q⟩
theorem ev_and {rest : List Expr} (h : Ev M G L a fun x L1 => ∃ k : Bool, x = .bl k ∧ (k = true → Ev M G L1 (.BoolOp .And (b :: rest) pos) K) ∧ (k = false → K (.bl false) L1)) : Ev M G L (.BoolOp .And (a :: b :: rest) pos) K := by
  intro X S F σ H A Q q
  refine ⟨_, pe_and be be, ?_⟩
  refine h X S F σ H A _ fun x L1 v F1 H1 k1 A1 r1 s1 => ?_
  obtain ⟨k, rfl, ht, hf⟩ := k1
  cases r1
  refine ⟨k, rfl, ?_⟩
  cases k with
  | true =>
    rw [if_pos rfl]
    exact ht rfl X S F1 σ H1 A1 Q fun d L' v F' H' kk a' r' s' => q d L' v F' H' kk a' r' (s1.trans s')
  | false =>
    rw [if_neg Bool.false_ne_true]
    exact q _ L1 _ F1 H1 (hf rfl) A1 (.v _) s1
theorem ev_or {rest : List Expr} (h : Ev M G L a fun x L1 => ∃ k : Bool, x = .bl k ∧ (k = false → Ev M G L1 (.BoolOp .Or (b :: rest) pos) K) ∧ (k = true → K (.bl true) L1)) : Ev M G L (.BoolOp .Or (a :: b :: rest) pos) K := by
  intro X S F σ H A Q q
  refine ⟨_, pe_or be be, ?_⟩
  refine h X S F σ H A _ fun x L1 v F1 H1 k1 A1 r1 s1 => ?_
  obtain ⟨k, rfl, ht, hf⟩ := k1
  cases r1
  refine ⟨k, rfl, ?_⟩
  cases k with
  | false =>
    rw [if_neg Bool.false_ne_true]
    exact ht rfl X S F1 σ H1 A1 Q fun d L' v F' H' kk a' r' s' => q d L' v F' H' kk a' r' (s1.trans s')
  | true =>
    rw [if_pos rfl]
    exact q _ L1 _ F1 H1 (hf rfl) A1 (.v _) s1
theorem ev_not (h : Ev M G L a fun x L1 => ∃ k : Bool, x = .bl k ∧ K (.bl (!k)) L1) : Ev M G L (.UnaryOp .Not a pos) K := by
  intro X S F σ H A Q q
  refine ⟨_, pe_not be, ?_⟩
  refine h X S F σ H A _ fun x L1 v F1 H1 k1 A1 r1 s1 => ?_
  obtain ⟨k, rfl, hk⟩ := k1
  cases r1
  exact ⟨k, rfl, q _ L1 _ F1 H1 hk A1 (.v _) s1⟩

/-! ### tests -/
variable {KB : Bool → Led → Prop}
theorem tst_cmp {op : CmpOp} (h : Ev M G L a fun x L1 => Ev M G L1 b fun y L2 => Op2 M G L2 (compareOp op) x y fun d L3 => ∃ k : Bool, d = .bl k ∧ KB k L3) (hm : behindInMarks op b = false := by first | exact nomark _ | rfl) : Tst M G L (.Compare a [op] [b] pos) KB := by
  intro X S F σ H A Q q
  refine ⟨tTest (tOp (GOp X (compareOp op)) (GE X a) (GE X b)), pt_cmpR bop be be hm, ?_⟩
  refine h X S F σ H A _ fun x L1 v F1 H1 k1 A1 r1 s1 => ?_
  refine k1 X S F1 σ H1 A1 _ fun y L2 u F2 H2 k2 A2 r2 s2 => ?_
  refine k2 X S F2 σ H2 v u A2 (r1.mono s2) r2 _ fun d L3 w F3 H3 k3 A3 r3 s3 => ?_
  obtain ⟨k, rfl, hk⟩ := k3
  cases r3
  exact ⟨k, rfl, q k L3 F3 H3 hk A3 ((s1.trans s2).trans s3)⟩
theorem tst_chain {op op' : CmpOp} (h : Ev M G L (.Compare a [op, op'] [b, c] pos) fun d L3 => ∃ k : Bool, d = .bl k ∧ KB k L3) (hm : ∀ X : Cx, ∀ whole, isTrue (.Compare a [op, op'] [b, c] pos) X.env whole = (do let v ← whole; standAt pos; holding [v] (truthy v)) := by intro _ _; rfl) : Tst M G L (.Compare a [op, op'] [b, c] pos) KB := by
  intro X S F σ H A Q q
  refine ⟨_, pt_val be (hm X), ?_⟩
  refine h X S F σ H A _ fun d L3 w F3 H3 k3 A3 r3 s3 => ?_
  obtain ⟨k, rfl, hk⟩ := k3
  cases r3
  exact ⟨k, rfl, q k L3 F3 H3 hk A3 s3⟩
/-- a test that is a value's truth -/
theorem tst_val {e : Expr} (h : Ev M G L e fun d L1 => ∃ k : Bool, TruD M G L1 d k ∧ KB k L1) (he : ∀ X : Cx, ∀ whole, isTrue e X.env whole = (do let v ← whole; standAt e.pos; holding [v] (truthy v)) := by intro _ _; rfl) : Tst M G L e KB := by
  intro X S F σ H A Q q
  refine ⟨_, pt_truth be (he X), ?_⟩
  refine h X S F σ H A _ fun d L1 v F1 H1 k1 A1 r1 s1 => ?_
  obtain ⟨k, ht, hk⟩ := k1
  refine ⟨k, ?_, q k L1 F1 H1 hk A1 s1⟩
  rw [← S.ok.eK]
  exact ht F1 σ H1 v A1 r1
theorem tst_not (h : Tst M G L a fun k L1 => KB (!k) L1) : Tst M G L (.UnaryOp .Not a pos) KB := by
  intro X S F σ H A Q q
  refine ⟨_, pt_not bt, ?_⟩
  exact h X S F σ H A _ fun k L1 F1 H1 k1 A1 s1 => q (!k) L1 F1 H1 k1 A1 s1
theorem tst_w {e : Expr} (h : TstW M G L e KB) : Tst M G L e KB := fun X S F σ H A Q q => ⟨_, bw.pt, h X S F σ H A Q q⟩
theorem tw_and1 (h : Tst M G L a KB) : TstW M G L (.BoolOp .And [a] pos) KB := fun X S F σ H A Q q => ⟨_, pw_and1 bt, h X S F σ H A Q q⟩
theorem tw_or1 (h : Tst M G L a KB) : TstW M G L (.BoolOp .Or [a] pos) KB := fun X S F σ H A Q q => ⟨_, pw_or1 bt, h X S F σ H A Q q⟩
theorem tw_and {rest : List Expr} (h : Tst M G L a fun k L1 => (k = true → TstW M G L1 (.BoolOp .And (b :: rest) pos) KB) ∧ (k = false → KB false L1)) : TstW M G L (.BoolOp .And (a :: b :: rest) pos) KB := by
  intro X S F σ H A Q q
  refine ⟨_, pw_and bt bw, ?_⟩
  refine h X S F σ H A _ fun k L1 F1 H1 k1 A1 s1 => ?_
  cases k with
  | true =>
    rw [if_pos rfl]
    exact k1.1 rfl X S F1 σ H1 A1 Q fun d L' F' H' kk a' s' => q d L' F' H' kk a' (s1.trans s')
  | false =>
    rw [if_neg Bool.false_ne_true]
    exact q _ L1 F1 H1 (k1.2 rfl) A1 s1
theorem tw_or {rest : List Expr} (h : Tst M G L a fun k L1 => (k = false → TstW M G L1 (.BoolOp .Or (b :: rest) pos) KB) ∧ (k = true → KB true L1)) : TstW M G L (.BoolOp .Or (a :: b :: rest) pos) KB := by
  intro X S F σ H A Q q
  refine ⟨_, pw_or bt bw, ?_⟩
  refine h X S F σ H A _ fun k L1 F1 H1 k1 A1 s1 => ?_
  cases k with
  | false =>
    rw [if_neg Bool.false_ne_true]
    exact k1.1 rfl X S F1 σ H1 A1 Q fun d L' F' H' kk a' s' => q d L' F' H' kk a' (s1.trans s')
  | true =>
    rw [if_pos rfl]
    exact q _ L1 F1 H1 (k1.2 rfl) A1 s1

/-! ### arguments, displays -/
variable {KA : List D → Led → Prop} {e : Expr} {es : List Expr}
theorem ea_nil (h : KA [] L) : EvA M G L [] KA := fun X S F σ H A Q q => ⟨_, pa_nil, q [] L [] F H h A .nil (Same.refl _)⟩
theorem ea_cons (h : Ev M G L e fun d L1 => EvA M G L1 es fun ds L2 => KA (d :: ds) L2) (hs : ∀ X : Cx, starEach (e :: es) X.env = (false, eval e X.env) :: starEach es X.env := by intro _; rfl) : EvA M G L (e :: es) KA := by
  intro X S F σ H A Q q
  refine ⟨_, pa_cons be ba (hs X), ?_⟩
  refine h X S F σ H A _ fun x L1 v F1 H1 k1 A1 r1 s1 => ?_
  exact k1 X S F1 σ H1 A1 _ fun ds L2 vs F2 H2 k2 A2 r2 s2 => q (x :: ds) L2 (v :: vs) F2 H2 k2 A2 (.cons (r1.mono s2) r2) (s1.trans s2)
theorem ev_tup {x1} (h : EvA M G L es fun ds L1 => ds.length ≤ sizeLine ∧ K (.tup ds) L1) : Ev M G L (.Tuple es x1 pos) K := by
  intro X S F σ H A Q q
  refine ⟨_, pe_tup ba, ?_⟩
  refine h X S F σ H A _ fun ds L1 vs F1 H1 k1 A1 r1 s1 => ⟨by rw [← r1.length]; exact k1.1, fun p hp => ?_⟩
  obtain ⟨A2, s2⟩ := A1.ice (o := .tup vs) hp
  exact q _ L1 _ _ _ k1.2 A2 (.tup (.inl (.inl upd_same)) (r1.mono s2)) (s1.trans s2)
theorem ev_lst (h : EvA M G L es fun ds L1 => ds.length ≤ sizeLine ∧ ∀ p, K (.ref p) ((p, .lst ds) :: L1)) : Ev M G L (.List es pos) K := by
  intro X S F σ H A Q q
  refine ⟨_, pe_lst ba, ?_⟩
  refine h X S F σ H A _ fun ds L1 vs F1 H1 k1 A1 r1 s1 => ⟨by rw [← r1.length]; exact k1.1, fun p hp => ?_⟩
  exact q _ _ _ F1 _ (k1.2 p) (A1.new hp (.lst upd_same r1)) (.v _) s1
end
end TL

namespace TL
open PySem L2
theorem sz_of {n : Nat} (h : n ≤ 1000000) : n ≤ sizeLine := Nat.le_trans h (by decide)
theorem sz_lt {n : Nat} (h : n ≤ 1000000) : n < sizeLine := Nat.lt_of_le_of_lt h (by decide)

/-! ### what a datum is, read -/
inductive IsL (L : Led) : D → List D → Prop
  | frz {ds : List D} : IsL L (.lst ds) ds
  | own {l : Addr} {ds : List D} : (l, OW.lst ds) ∈ L → IsL L (.ref l) ds
inductive IsK (L : Led) : D → List (Key × D) → Prop
  | frz {ds : List (Key × D)} : IsK L (.dK ds) ds
  | own {l : Addr} {ds : List (Key × D)} : (l, OW.dK ds) ∈ L → IsK L (.ref l) ds
inductive IsTT (L : Led) : D → List (List Key × D) → Prop
  | frz {ds : List (List Key × D)} : IsTT L (.dT ds) ds
  | own {l : Addr} {ds : List (List Key × D)} : (l, OW.dT ds) ∈ L → IsTT L (.ref l) ds
inductive IsO (L : Led) : D → Addr → List (Str × D) → Prop
  | frz {C : Addr} {fs : List (Str × D)} : IsO L (.ob C fs) C fs
  | own {l C : Addr} {fs : List (Str × D)} : (l, OW.ins C fs) ∈ L → IsO L (.ref l) C fs
section
variable {K : PySem.W.Frag} {H0 F0 F H : Hp} {G : List (Option D)} {L : Led} {σ : St} {x : D} {v : V}
theorem rd_up {F H : Hp} (s : Same F H) {p : Addr} {u : HO} (h : Rd F p u) : Rd H p u := h.elim (fun h => .inl (s _ _ h)) fun ⟨o, h⟩ => .inr ⟨o, s _ _ h⟩
theorem IsL.get {ds : List D} (h : IsL L x ds) (a : At K H0 F0 G L F σ H) (r : Rep K F x v) : ∃ p vs, v = .ref p ∧ H p = some (.lst vs) ∧ RepA K F ds vs := by
  cases h with
  | frz =>
    cases r with
    | lst h1 h2 => exact ⟨_, _, rfl, a.fh _ _ h1, h2⟩
  | own h1 =>
    cases r
    obtain ⟨o, _⟩ := a.own _ h1
    cases o with
    | lst h2 h3 => exact ⟨_, _, rfl, h2, h3⟩
theorem IsK.get {ds : List (Key × D)} (h : IsK L x ds) (a : At K H0 F0 G L F σ H) (r : Rep K F x v) : ∃ p vs, v = .ref p ∧ Rd H p (.dK vs) ∧ RepK K F ds vs := by
  cases h with
  | frz =>
    cases r with
    | dK h1 h2 => exact ⟨_, _, rfl, rd_up a.fh h1, h2⟩
  | own h1 =>
    cases r
    obtain ⟨o, _⟩ := a.own _ h1
    cases o with
    | dK h2 h3 => exact ⟨_, _, rfl, .inl h2, h3⟩
theorem IsTT.get {ds : List (List Key × D)} (h : IsTT L x ds) (a : At K H0 F0 G L F σ H) (r : Rep K F x v) : ∃ p vs, v = .ref p ∧ Rd H p (.dT vs) ∧ RepT K F ds vs := by
  cases h with
  | frz =>
    cases r with
    | dT h1 h2 => exact ⟨_, _, rfl, rd_up a.fh h1, h2⟩
  | own h1 =>
    cases r
    obtain ⟨o, _⟩ := a.own _ h1
    cases o with
    | dT h2 h3 => exact ⟨_, _, rfl, .inl h2, h3⟩
theorem IsO.get {C : Addr} {fs : List (Str × D)} (h : IsO L x C fs) (a : At K H0 F0 G L F σ H) (r : Rep K F x v) : ∃ p dx ws, v = .ref p ∧ H p = some (.ins C dx ws) ∧ RepF K F fs ws := by
  cases h with
  | frz =>
    cases r with
    | ob h1 h2 => exact ⟨_, _, _, rfl, a.fh _ _ h1, h2⟩
  | own h1 =>
    cases r
    obtain ⟨o, _⟩ := a.own _ h1
    cases o with
    | ins h2 h3 => exact ⟨_, _, _, rfl, h2, h3⟩
theorem tup_get {ds : List D} (a : At K H0 F0 G L F σ H) (r : Rep K F (.tup ds) v) : ∃ p vs, v = .ref p ∧ SqT K H p vs ∧ RepA K F ds vs := by
  cases r with
  | tup h1 h2 => exact ⟨_, _, rfl, sqT_mono a.fh h1, h2⟩
/-- dicts: finding by key -/
def valD {κ : Type} [DecidableEq κ] (kvs : List (κ × D)) (k : κ) : Option D := (kvs.find? fun kv => decide (kv.1 = k)).map (·.2)
def putE {κ : Type} [DecidableEq κ] (kvs : List (κ × D)) (k : κ) (v : D) : List (κ × D) := if (kvs.any fun kv => decide (kv.1 = k)) then kvs.map (fun kv => if kv.1 = k then (kv.1, v) else kv) else kvs ++ [(k, v)]
theorem RepK.val {kvs : List (Key × D)} {ws : List (Key × V)} (h : RepK K F kvs ws) (k : Key) : (∀ d, valD kvs k = some d → ∃ v, valV ws k = some v ∧ Rep K F d v) ∧ (valD kvs k = none → valV ws k = none) := by
  induction kvs generalizing ws with
  | nil => cases h; exact ⟨(fun d e => nomatch e), (fun _ => rfl)⟩
  | cons p kvs ih =>
    cases h with
    | @cons k' d' v' _ vs r t =>
      unfold valD valV
      rw [List.find?_cons, List.find?_cons]
      by_cases e : k' = k
      · simp only [e, decide_true]
        exact ⟨(fun d q => by cases q; exact ⟨_, rfl, r⟩), (fun q => nomatch q)⟩
      · simp only [decide_eq_false e]
        exact ih t
theorem RepK.length {kvs : List (Key × D)} {ws : List (Key × V)} (h : RepK K F kvs ws) : kvs.length = ws.length := by
  induction kvs generalizing ws with
  | nil => cases h; rfl
  | cons p kvs ih =>
    cases h with
    | cons r t => simp [ih t]
theorem RepT.length {kvs : List (List Key × D)} {ws : List (List Key × V)} (h : RepT K F kvs ws) : kvs.length = ws.length := by
  induction kvs generalizing ws with
  | nil => cases h; rfl
  | cons p kvs ih =>
    cases h with
    | cons r t => simp [ih t]
theorem RepT.val {kvs : List (List Key × D)} {ws : List (List Key × V)} (h : RepT K F kvs ws) (k : List Key) : (∀ d, valD kvs k = some d → ∃ v, valV ws k = some v ∧ Rep K F d v) ∧ (valD kvs k = none → valV ws k = none) := by
  induction kvs generalizing ws with
  | nil => cases h; exact ⟨(fun d e => nomatch e), (fun _ => rfl)⟩
  | cons p kvs ih =>
    cases h with
    | @cons k' d' v' _ vs r t =>
      unfold valD valV
      rw [List.find?_cons, List.find?_cons]
      by_cases e : k' = k
      · simp only [e, decide_true]
        exact ⟨(fun d q => by cases q; exact ⟨_, rfl, r⟩), (fun q => nomatch q)⟩
      · simp only [decide_eq_false e]
        exact ih t
theorem RepK.isSome {kvs : List (Key × D)} {ws : List (Key × V)} (h : RepK K F kvs ws) (k : Key) : (valV ws k).isSome = (valD kvs k).isSome := by
  obtain ⟨h1, h2⟩ := h.val k
  cases e : valD kvs k with
  | none => rw [h2 e]; rfl
  | some d => obtain ⟨v, q, _⟩ := h1 d e; rw [q]; rfl
theorem RepT.isSome {kvs : List (List Key × D)} {ws : List (List Key × V)} (h : RepT K F kvs ws) (k : List Key) : (valV ws k).isSome = (valD kvs k).isSome := by
  obtain ⟨h1, h2⟩ := h.val k
  cases e : valD kvs k with
  | none => rw [h2 e]; rfl
  | some d => obtain ⟨v, q, _⟩ := h1 d e; rw [q]; rfl
theorem RepK.any {kvs : List (Key × D)} {ws : List (Key × V)} (h : RepK K F kvs ws) (k : Key) : (kvs.any fun kv => decide (kv.1 = k)) = ws.any fun kv => decide (kv.1 = k) := by
  induction kvs generalizing ws with
  | nil => cases h; rfl
  | cons p kvs ih =>
    cases h with
    | cons r t => simp only [List.any_cons, ih t]
theorem RepT.any {kvs : List (List Key × D)} {ws : List (List Key × V)} (h : RepT K F kvs ws) (k : List Key) : (kvs.any fun kv => decide (kv.1 = k)) = ws.any fun kv => decide (kv.1 = k) := by
  induction kvs generalizing ws with
  | nil => cases h; rfl
  | cons p kvs ih =>
    cases h with
    | cons r t => simp only [List.any_cons, ih t]
theorem RepK.mapput {d : D} {v : V} (r : Rep K F d v) (k : Key) : ∀ {kvs : List (Key × D)} {ws : List (Key × V)}, RepK K F kvs ws →
    RepK K F (kvs.map fun kv => if kv.1 = k then (kv.1, d) else kv) (ws.map fun kv => if kv.1 = k then (kv.1, v) else kv)
  | _, _, .nil => .nil
  | (k', x) :: _, (_, y) :: _, .cons q t => by
    simp only [List.map_cons]
    by_cases e : k' = k
    · simp only [if_pos e]; exact .cons r (RepK.mapput r k t)
    · simp only [if_neg e]; exact .cons q (RepK.mapput r k t)
theorem RepT.mapput {d : D} {v : V} (r : Rep K F d v) (k : List Key) : ∀ {kvs : List (List Key × D)} {ws : List (List Key × V)}, RepT K F kvs ws →
    RepT K F (kvs.map fun kv => if kv.1 = k then (kv.1, d) else kv) (ws.map fun kv => if kv.1 = k then (kv.1, v) else kv)
  | _, _, .nil => .nil
  | (k', x) :: _, (_, y) :: _, .cons q t => by
    simp only [List.map_cons]
    by_cases e : k' = k
    · simp only [if_pos e]; exact .cons r (RepT.mapput r k t)
    · simp only [if_neg e]; exact .cons q (RepT.mapput r k t)
theorem RepK.snoc {d : D} {v : V} {k : Key} (r : Rep K F d v) : ∀ {kvs : List (Key × D)} {ws : List (Key × V)}, RepK K F kvs ws → RepK K F (kvs ++ [(k, d)]) (ws ++ [(k, v)])
  | _, _, .nil => .cons r .nil
  | _, _, .cons q t => .cons q (RepK.snoc r t)
theorem RepT.snoc {d : D} {v : V} {k : List Key} (r : Rep K F d v) : ∀ {kvs : List (List Key × D)} {ws : List (List Key × V)}, RepT K F kvs ws → RepT K F (kvs ++ [(k, d)]) (ws ++ [(k, v)])
  | _, _, .nil => .cons r .nil
  | _, _, .cons q t => .cons q (RepT.snoc r t)
theorem RepK.put {kvs : List (Key × D)} {ws : List (Key × V)} {d : D} {v : V} (h : RepK K F kvs ws) (k : Key) (r : Rep K F d v) : RepK K F (putE kvs k d) (putK ws k v) := by
  unfold putE putK
  rw [← h.any k]
  split
  · exact RepK.mapput r k h
  · exact h.snoc r
theorem RepT.put {kvs : List (List Key × D)} {ws : List (List Key × V)} {d : D} {v : V} (h : RepT K F kvs ws) (k : List Key) (r : Rep K F d v) : RepT K F (putE kvs k d) (putK ws k v) := by
  unfold putE putK
  rw [← h.any k]
  split
  · exact RepT.mapput r k h
  · exact h.snoc r
end

/-! ### operators on data -/
section
variable {M : Mode} {G : List (Option D)} {L : Led} {K : D → Led → Prop}
theorem op2_of {f : Value → Value → Sem Value} {x y : V} {d : D} (r : R2) (w : V) (ho : ∀ X : Cx, OpR X f r) (hr : ∀ H (Q : VK), Q w H → r x y H Q) (h : K (.v w) L) : Op2 M G L f (.v x) (.v y) K := by
  intro X S F σ H v u a rx ry Q q
  cases rx; cases ry
  exact ⟨r, ho X, hr H Q (q _ L _ F H h a (.v _) (Same.refl _))⟩
theorem op_addI {i j : Int} (h : K (.int (i + j)) L) : Op2 M G L (binaryOp .Add) (.int i) (.int j) K := op2_of (d := .non) _ _ (fun _ => op_add) (fun H Q q => ⟨i, j, rfl, rfl, q⟩) h
theorem op_subI {i j : Int} (h : K (.int (i - j)) L) : Op2 M G L (binaryOp .Sub) (.int i) (.int j) K := op2_of (d := .non) _ _ (fun _ => op_sub) (fun H Q q => ⟨i, j, rfl, rfl, q⟩) h
theorem op_mulI {i j : Int} (hc : CMul i j) (h : K (.int (i * j)) L) : Op2 M G L (binaryOp .Mult) (.int i) (.int j) K := op2_of (d := .non) _ _ (fun _ => op_mul) (fun H Q q => ⟨i, j, rfl, rfl, hc, q⟩) h
theorem op_modI {i j : Int} (hc : 0 < j) (h : K (.int (i % j)) L) : Op2 M G L (binaryOp .Mod) (.int i) (.int j) K := op2_of (d := .non) _ _ (fun _ => op_mod) (fun H Q q => ⟨i, j, rfl, rfl, hc, q⟩) h
theorem op_fdivI {i j : Int} (hc : CDiv i j) (h : K (.int (i / j)) L) : Op2 M G L (binaryOp .FloorDiv) (.int i) (.int j) K := op2_of (d := .non) _ _ (fun _ => op_fdiv) (fun H Q q => ⟨i, j, rfl, rfl, hc, q⟩) h
theorem op_powI {i j : Int} (hc : CPow i j) (h : K (.int (i ^ j.toNat)) L) : Op2 M G L (binaryOp .Pow) (.int i) (.int j) K := op2_of (d := .non) _ _ (fun _ => op_pow) (fun H Q q => ⟨i, j, rfl, rfl, hc, q⟩) h
theorem op_addS {i j : Str} (hc : i.length + j.length ≤ sizeLine) (h : K (.str (i ++ j)) L) : Op2 M G L (binaryOp .Add) (.str i) (.str j) K := op2_of (d := .non) _ _ (fun _ => op_add_str) (fun H Q q => ⟨i, j, rfl, rfl, hc, q⟩) h
theorem op_ltI {i j : Int} (h : K (.bl (decide (i < j))) L) : Op2 M G L (compareOp .Lt) (.int i) (.int j) K := op2_of (d := .non) _ _ (fun _ => op_lt) (fun H Q q => ⟨i, j, rfl, rfl, q⟩) h
theorem op_leI {i j : Int} (h : K (.bl (decide (i ≤ j))) L) : Op2 M G L (compareOp .LtE) (.int i) (.int j) K := op2_of (d := .non) _ _ (fun _ => op_le) (fun H Q q => ⟨i, j, rfl, rfl, q⟩) h
theorem op_gtI {i j : Int} (h : K (.bl (decide (j < i))) L) : Op2 M G L (compareOp .Gt) (.int i) (.int j) K := op2_of (d := .non) _ _ (fun _ => op_gt) (fun H Q q => ⟨i, j, rfl, rfl, q⟩) h
theorem op_geI {i j : Int} (h : K (.bl (decide (j ≤ i))) L) : Op2 M G L (compareOp .GtE) (.int i) (.int j) K := op2_of (d := .non) _ _ (fun _ => op_ge) (fun H Q q => ⟨i, j, rfl, rfl, q⟩) h
theorem op_ltS {i j : Str} (h : K (.bl (decide (i.cps.toList < j.cps.toList))) L) : Op2 M G L (compareOp .Lt) (.str i) (.str j) K := op2_of (d := .non) _ _ (fun _ => op_lt_str) (fun H Q q => ⟨i, j, rfl, rfl, q⟩) h
theorem op_eqV {x y : V} (hs : scal x y = true) (h : K (.bl (decide (x = y))) L) : Op2 M G L (compareOp .Eq) (.v x) (.v y) K := op2_of (d := .non) _ _ (fun _ => op_eq) (fun H Q q => ⟨hs, q⟩) h
theorem op_neV {x y : V} (hs : scal x y = true) (h : K (.bl (!decide (x = y))) L) : Op2 M G L (compareOp .NotEq) (.v x) (.v y) K := op2_of (d := .non) _ _ (fun _ => op_ne) (fun H Q q => ⟨hs, q⟩) h
theorem op_eqI {i j : Int} (h : K (.bl (decide (i = j))) L) : Op2 M G L (compareOp .Eq) (.int i) (.int j) K := op_eqV rfl (by
  have e : decide (V.int i = V.int j) = decide (i = j) := by simp
  rw [e]; exact h)
theorem op_neI {i j : Int} (h : K (.bl (!decide (i = j))) L) : Op2 M G L (compareOp .NotEq) (.int i) (.int j) K := op_neV rfl (by
  have e : decide (V.int i = V.int j) = decide (i = j) := by simp
  rw [e]; exact h)
theorem op_eqS {i j : Str} (h : K (.bl (decide (i = j))) L) : Op2 M G L (compareOp .Eq) (.str i) (.str j) K := op_eqV rfl (by
  have e : decide (V.str i = V.str j) = decide (i = j) := by simp
  rw [e]; exact h)
theorem op_neS {i j : Str} (h : K (.bl (!decide (i = j))) L) : Op2 M G L (compareOp .NotEq) (.str i) (.str j) K := op_neV rfl (by
  have e : decide (V.str i = V.str j) = decide (i = j) := by simp
  rw [e]; exact h)
theorem op_eqB {i j : Bool} (h : K (.bl (decide (i = j))) L) : Op2 M G L (compareOp .Eq) (.bl i) (.bl j) K := op_eqV rfl (by
  have e : decide (V.bl i = V.bl j) = decide (i = j) := by simp
  rw [e]; exact h)
theorem op_neB {i j : Bool} (h : K (.bl (!decide (i = j))) L) : Op2 M G L (compareOp .NotEq) (.bl i) (.bl j) K := op_neV rfl (by
  have e : decide (V.bl i = V.bl j) = decide (i = j) := by simp
  rw [e]; exact h)
/-- is None of anything -/
def isN : D → Bool
  | .v .non => true
  | _ => false
theorem rep_isN {Kk : PySem.W.Frag} {F : Hp} {x : D} {v : V} (r : Rep Kk F x v) : decide (v = .non) = isN x := by
  cases r with
  | v => cases v <;> rfl
  | tup _ _ => rfl
  | lst _ _ => rfl
  | sq _ _ => rfl
  | dK _ _ => rfl
  | dT _ _ => rfl
  | ob _ _ => rfl
theorem op_isN {x : D} (h : K (.bl (isN x)) L) : Op2 M G L (compareOp .Is) x .non K := by
  intro X S F σ H v u a rx ry Q q
  cases ry
  refine ⟨_, L2.op_isN, rfl, ?_⟩
  rw [rep_isN rx]
  exact q _ L _ F H h a (.v _) (Same.refl _)
theorem op_notN {x : D} (h : K (.bl (!isN x)) L) : Op2 M G L (compareOp .IsNot) x .non K := by
  intro X S F σ H v u a rx ry Q q
  cases ry
  refine ⟨_, L2.op_notN, rfl, ?_⟩
  rw [rep_isN rx]
  exact q _ L _ F H h a (.v _) (Same.refl _)
/-- in, over lists and tuples of flat things -/
def flatD : D → Bool
  | .v x => flatV x
  | _ => false
def inD (x : V) (ds : List D) : Bool := ds.any fun d => match d with
  | .v y => eqV y x
  | _ => false
theorem flat_reps {Kk : PySem.W.Frag} {F : Hp} {x : V} : ∀ {ds : List D} {vs : List V}, RepA Kk F ds vs → ds.all flatD = true → vs.all flatV = true ∧ inV x vs = inD x ds
  | _, _, .nil, _ => ⟨rfl, rfl⟩
  | d :: ds, v :: vs, .cons r t, h => by
    rw [List.all_cons, Bool.and_eq_true] at h
    obtain ⟨h1, h2⟩ := flat_reps (x := x) t h.2
    cases r with
    | v y =>
      refine ⟨by rw [List.all_cons, h1, Bool.and_true]; exact h.1, ?_⟩
      unfold inV inD at h2 ⊢
      rw [List.any_cons, List.any_cons, h2]
    | tup _ _ => exact absurd h.1 (fun z => nomatch z)
    | lst _ _ => exact absurd h.1 (fun z => nomatch z)
    | sq _ _ => exact absurd h.1 (fun z => nomatch z)
    | dK _ _ => exact absurd h.1 (fun z => nomatch z)
    | dT _ _ => exact absurd h.1 (fun z => nomatch z)
    | ob _ _ => exact absurd h.1 (fun z => nomatch z)
inductive IsSq (L : Led) : D → List D → Prop
  | tup {ds : List D} : IsSq L (.tup ds) ds
  | lst {x : D} {ds : List D} : IsL L x ds → IsSq L x ds
theorem IsSq.get {Kk : PySem.W.Frag} {H0 F0 F H : Hp} {σ : St} {x : D} {v : V} {ds : List D} (h : IsSq L x ds) (a : At Kk H0 F0 G L F σ H) (r : Rep Kk F x v) : ∃ p vs, v = .ref p ∧ (SqL Kk H p vs ∨ SqT Kk H p vs) ∧ RepA Kk F ds vs := by
  cases h with
  | tup =>
    obtain ⟨p, vs, e, h1, h2⟩ := tup_get a r
    exact ⟨p, vs, e, .inr h1, h2⟩
  | lst h =>
    obtain ⟨p, vs, e, h1, h2⟩ := h.get a r
    exact ⟨p, vs, e, .inl (SqL.of h1), h2⟩
theorem op_inQ {x : V} {y : D} {ds : List D} (hy : IsSq L y ds) (hx : flatV x = true) (hd : ds.all flatD = true) (h : K (.bl (inD x ds)) L) : Op2 M G L (compareOp .In) (.v x) y K := by
  intro X S F σ H v u a rx ry Q q
  cases rx
  obtain ⟨p, vs, rfl, h1, h2⟩ := hy.get a ry
  obtain ⟨h3, h4⟩ := flat_reps (x := x) h2 hd
  refine ⟨_, op_in_seq, p, vs, rfl, by rw [← S.ok.eK]; exact h1, hx, h3, ?_⟩
  show Q (.bl (if false = true then _ else inV x vs)) H
  rw [if_neg Bool.false_ne_true, h4]
  exact q _ L _ F H h a (.v _) (Same.refl _)
theorem op_niQ {x : V} {y : D} {ds : List D} (hy : IsSq L y ds) (hx : flatV x = true) (hd : ds.all flatD = true) (h : K (.bl (!inD x ds)) L) : Op2 M G L (compareOp .NotIn) (.v x) y K := by
  intro X S F σ H v u a rx ry Q q
  cases rx
  obtain ⟨p, vs, rfl, h1, h2⟩ := hy.get a ry
  obtain ⟨h3, h4⟩ := flat_reps (x := x) h2 hd
  refine ⟨_, op_notIn_seq, p, vs, rfl, by rw [← S.ok.eK]; exact h1, hx, h3, ?_⟩
  show Q (.bl (if true = true then !inV x vs else _)) H
  rw [if_pos rfl, h4]
  exact q _ L _ F H h a (.v _) (Same.refl _)
/-- one sign in a text -/
theorem op_inC {c : Nat} {z : Str} (h : K (.bl (decide (c ∈ z.cps.toList))) L) : Op2 M G L (compareOp .In) (.str ⟨#[c]⟩) (.str z) K := op2_of (d := .non) _ _ (fun _ => op_in_sign) (fun H Q q => ⟨c, z, rfl, rfl, q⟩) h
/-- dicts -/
theorem din_R {X : Cx} (hu : X.A.units + 1 < cLine) : OpR X (compareOp .In) (fun y x H Q => ∃ a o, x = .ref a ∧ DGet H a y o ∧ Q (.bl o.isSome) H) := by
  intro pins s σ H x y v u Q I rx ry h
  obtain ⟨a, o, rfl, g, q⟩ := h
  cases ry
  exact d_in hu I g rx fun s' I' => ⟨.bl _, H, I', rfl, q⟩
theorem dni_R {X : Cx} (hu : X.A.units + 1 < cLine) : OpR X (compareOp .NotIn) (fun y x H Q => ∃ a o, x = .ref a ∧ DGet H a y o ∧ Q (.bl (!o.isSome)) H) := by
  intro pins s σ H x y v u Q I rx ry h
  obtain ⟨a, o, rfl, g, q⟩ := h
  cases ry
  exact d_notIn hu I g rx fun s' I' => ⟨.bl _, H, I', rfl, q⟩
theorem sit_hu {X : Cx} (S : Sit M X) (hc : M.C.cm = true) : X.A.units + 1 < cLine := Nat.lt_of_le_of_lt (Nat.add_le_add_left (by decide : 1 ≤ 64) _) (S.ok.room hc).units
theorem op_inK (hc : M.C.cm = true) {y : D} {kvs : List (Key × D)} {k : Key} (hy : IsK L y kvs) (h : K (.bl (valD kvs k).isSome) L) : Op2 M G L (compareOp .In) (.v (kV k)) y K := by
  intro X S F σ H v u a rx ry Q q
  cases rx
  obtain ⟨p, ws, rfl, h1, h2⟩ := hy.get a ry
  refine ⟨_, din_R (sit_hu S hc), p, valV ws k, rfl, .inl ⟨ws, k, h1, rfl, rfl⟩, ?_⟩
  rw [h2.isSome]
  exact q _ L _ F H h a (.v _) (Same.refl _)
theorem op_niK (hc : M.C.cm = true) {y : D} {kvs : List (Key × D)} {k : Key} (hy : IsK L y kvs) (h : K (.bl (!(valD kvs k).isSome)) L) : Op2 M G L (compareOp .NotIn) (.v (kV k)) y K := by
  intro X S F σ H v u a rx ry Q q
  cases rx
  obtain ⟨p, ws, rfl, h1, h2⟩ := hy.get a ry
  refine ⟨_, dni_R (sit_hu S hc), p, valV ws k, rfl, .inl ⟨ws, k, h1, rfl, rfl⟩, ?_⟩
  rw [h2.isSome]
  exact q _ L _ F H h a (.v _) (Same.refl _)
/-- xs + ys -/
theorem op_catL {x y : D} {ds es : List D} (hx : IsL L x ds) (hy : IsL L y es) (hl : ds.length + es.length ≤ sizeLine) (h : ∀ p, K (.ref p) ((p, .lst (ds ++ es)) :: L)) : Op2 M G L (binaryOp .Add) x y K := by
  intro X S F σ H v u a rx ry Q q
  obtain ⟨p1, vs, rfl, h1, h2⟩ := hx.get a rx
  obtain ⟨p2, ws, rfl, h3, h4⟩ := hy.get a ry
  refine ⟨_, op_cat, p1, p2, vs, ws, rfl, rfl, h1, h3, by rw [← h2.length, ← h4.length]; exact hl, fun p hp => ?_⟩
  exact q _ _ _ F _ (h p) (a.new hp (.lst upd_same (h2.append h4))) (.v _) (Same.refl _)

/-! ### subscripts, slices -/
theorem ix_L {x : D} {ds : List D} {i : Int} {d : D} (hx : IsL L x ds) (hi : atI ds i = some d) (h : K d L) : IxV M G L x (.int i) K := by
  intro X S F σ H v u a rx ry Q q
  cases ry
  obtain ⟨p, vs, rfl, h1, h2⟩ := hx.get a rx
  unfold atI at hi
  rw [h2.length] at hi
  obtain ⟨j, e1, e2⟩ := Option.bind_eq_some_iff.mp hi
  obtain ⟨w, e3, rw'⟩ := h2.get e2
  refine ⟨_, ix_list, p, vs, i, w, rfl, rfl, SqL.of h1, ?_, q _ L _ F H h a rw' (Same.refl _)⟩
  unfold atI
  rw [e1]
  exact e3
theorem ix_T {ds : List D} {i : Int} {d : D} (hi : atI ds i = some d) (h : K d L) : IxV M G L (.tup ds) (.int i) K := by
  intro X S F σ H v u a rx ry Q q
  cases ry
  obtain ⟨p, vs, rfl, h1, h2⟩ := tup_get a rx
  unfold atI at hi
  rw [h2.length] at hi
  obtain ⟨j, e1, e2⟩ := Option.bind_eq_some_iff.mp hi
  obtain ⟨w, e3, rw'⟩ := h2.get e2
  refine ⟨_, ix_tup, p, vs, i, w, rfl, rfl, by rw [← S.ok.eK]; exact h1, ?_, q _ L _ F H h a rw' (Same.refl _)⟩
  unfold atI
  rw [e1]
  exact e3
theorem ix_S {z : Str} {i : Int} {c : Nat} (hz : z.length ≤ sizeLine) (hi : atI z.cps.toList i = some c) (h : K (.str ⟨#[c]⟩) L) : IxV M G L (.str z) (.int i) K := by
  intro X S F σ H v u a rx ry Q q
  cases ry; cases rx
  exact ⟨_, ix_str, z, i, c, rfl, rfl, hz, hi, q _ L _ F H h a (.v _) (Same.refl _)⟩
theorem ev_ix {a b : Expr} {pos : Pos} (h : Ev M G L a fun x L1 => Ev M G L1 b fun y L2 => IxV M G L2 x y K) (hs : PlainIx b := by exact fun _ _ => rfl) : Ev M G L (.Subscript a b pos) K := by
  intro X S F σ H A Q q
  refine ⟨tOp (GIx X) (GE X a) (GE X b), pe_ix bix be be hs, ?_⟩
  refine h X S F σ H A _ fun x L1 v F1 H1 k1 A1 r1 s1 => ?_
  refine k1 X S F1 σ H1 A1 _ fun y L2 u F2 H2 k2 A2 r2 s2 => ?_
  exact k2 X S F2 σ H2 v u A2 (r1.mono s2) r2 Q fun d L3 w F3 H3 k3 A3 r3 s3 => q d L3 w F3 H3 k3 A3 r3 ((s1.trans s2).trans s3)
/-- d[k], a dict -/
theorem ev_dix (hc : M.C.cm = true) {a b : Expr} {pos : Pos} (h : Ev M G L a fun x L1 => Ev M G L1 b fun y L2 => ∃ kvs k d, IsK L2 x kvs ∧ y = .v (kV k) ∧ valD kvs k = some d ∧ K d L2) (hs : NoSl b := by exact fun _ _ => rfl) : Ev M G L (.Subscript a b pos) K := by
  intro X S F σ H A Q q
  refine ⟨_, pe_dget (sit_hu S hc) be be hs, ?_⟩
  refine h X S F σ H A _ fun x L1 v F1 H1 k1 A1 r1 s1 => ?_
  refine k1 X S F1 σ H1 A1 _ fun y L2 u F2 H2 k2 A2 r2 s2 => ?_
  obtain ⟨kvs, k, d, hx, rfl, hv, hk⟩ := k2
  cases r2
  obtain ⟨p, ws, rfl, h1, h2⟩ := hx.get A2 (r1.mono s2)
  obtain ⟨w, e, rw'⟩ := (h2.val k).1 d hv
  exact ⟨p, w, rfl, .inl ⟨ws, k, h1, rfl, e.symm⟩, q d L2 w F2 H2 hk A2 rw' (s1.trans s2)⟩
/-- parts of a slice: written, or left out -/
def EvP (M : Mode) (G : List (Option D)) (L : Led) (e : Option Expr) (K : Option Int → Led → Prop) : Prop := match e with
  | none => K none L
  | some e => Ev M G L e fun d L1 => ∃ i, d = .int i ∧ K (some i) L1
theorem EvP.go {e : Option Expr} {KI : Option Int → Led → Prop} (h : EvP M G L e KI) : ∀ X, Sit M X → ∃ t, PO X e t ∧ ∀ F σ H, M.at G L F σ H → ∀ Q : Option Int → Hp → Prop, (∀ o L' F' H', KI o L' → M.at G L' F' σ H' → Same F F' → Q o H') → t σ H Q := by
  intro X S
  cases e with
  | none => exact ⟨_, po_none, fun F σ H A Q q => q none L F H h A (Same.refl _)⟩
  | some e =>
    refine ⟨_, po_some be, fun F σ H A Q q => ?_⟩
    refine h X S F σ H A _ fun d L1 v F1 H1 k1 A1 r1 s1 => ?_
    obtain ⟨i, rfl, hk⟩ := k1
    cases r1
    exact ⟨i, rfl, q _ L1 F1 H1 hk A1 s1⟩
end
end TL

namespace TL
open PySem L2

/-! ### statements -/
structure TD where
  nx : List (Option D) → Led → Prop
  rt : D → Led → Prop
  bk : List (Option D) → Led → Prop := fun _ _ => False
  ct : List (Option D) → Led → Prop := fun _ _ => False
structure EndsOk (M : Mode) (D : TD) (E : Ends) : Prop where
  nx : ∀ G L F σ H, D.nx G L → M.at G L F σ H → E.nx σ H
  rt : ∀ d G L v F σ H, D.rt d L → M.at G L F σ H → Rep M.C.K F d v → E.rt v H
  bk : ∀ G L F σ H, D.bk G L → M.at G L F σ H → E.bk σ H
  ct : ∀ G L F σ H, D.ct G L → M.at G L F σ H → E.ct σ H
def Run (M : Mode) (G : List (Option D)) (L : Led) (ss : List Stmt) (D : TD) : Prop := ∀ X, Sit M X → ∀ F σ H, M.at G L F σ H → ∀ E, EndsOk M D E → GSs X ss E σ H
def Tgt (M : Mode) (G : List (Option D)) (L : Led) (tg : Expr) (d : D) (K : List (Option D) → Led → Prop) : Prop :=
  ∀ X, Sit M X → ∀ F σ H v, M.at G L F σ H → Rep M.C.K F d v → ∀ Q : St → Hp → Prop, (∀ G' L' F' σ' H', K G' L' → M.at G' L' F' σ' H' → Same F F' → Q σ' H') → GG X tg v σ H Q

section
variable {M : Mode} {G : List (Option D)} {L : Led} {pos : Pos} {rest : List Stmt} {E : TD}
theorem gss_cons {X : Cx} {st : Stmt} {rest : List Stmt} {D : Ends} {σ : St} {H : Hp} (h : GS X st { D with nx := fun σ' H' => GSs X rest D σ' H' } σ H) : GSs X (st :: rest) D σ H := ⟨_, pss_cons bs bss, h⟩
theorem run_nil (h : E.nx G L) : Run M G L [] E := fun X S F σ H A D o => ⟨_, pss_nil, o.nx G L F σ H h A⟩
/-- one statement, for what stands behind it -/
theorem EndsOk.seq {D : Ends} {X : Cx} (o : EndsOk M E D) (S : Sit M X) {rest : List Stmt} : EndsOk M { E with nx := fun G' L' => Run M G' L' rest E } { D with nx := fun σ' H' => GSs X rest D σ' H' } :=
  ⟨fun G L F σ H h A => h X S F σ H A D o, o.rt, o.bk, o.ct⟩
theorem run_pass (h : Run M G L rest E) : Run M G L (.Pass pos :: rest) E := fun X S F σ H A D o => gss_cons ⟨_, ps_pass, h X S F σ H A D o⟩
theorem run_break (h : E.bk G L) : Run M G L (.Break pos :: rest) E := fun X S F σ H A D o => gss_cons ⟨_, ps_break, o.bk G L F σ H h A⟩
theorem run_cont (h : E.ct G L) : Run M G L (.Continue pos :: rest) E := fun X S F σ H A D o => gss_cons ⟨_, ps_continue, o.ct G L F σ H h A⟩
theorem run_ret {e : Expr} (h : Ev M G L e fun d L1 => E.rt d L1) : Run M G L (.Return (some e) pos :: rest) E := by
  intro X S F σ H A D o
  refine gss_cons ⟨_, ps_ret be, ?_⟩
  exact h X S F σ H A _ fun d L1 v F1 H1 k1 A1 r1 s1 => o.rt d G L1 v F1 σ H1 k1 A1 r1
theorem run_retN (h : E.rt .non L) : Run M G L (.Return none pos :: rest) E := by
  intro X S F σ H A D o
  refine gss_cons ⟨_, ps_retN, ?_⟩
  exact o.rt _ G L _ F σ H h A (.v _)
theorem run_expr {e : Expr} (h : Ev M G L e fun _ L1 => Run M G L1 rest E) (hs : ∀ X : Cx, swapsWith e none pos.line X.env = pure false := by intro _; rfl) : Run M G L (.Expr e pos :: rest) E := by
  intro X S F σ H A D o
  refine gss_cons ⟨_, ps_expr be (hs X), ?_⟩
  exact h X S F σ H A _ fun d L1 v F1 H1 k1 A1 r1 s1 => k1 X S F1 σ H1 A1 D o
theorem run_if {c : Expr} {a b : List Stmt} (h : Tst M G L c fun k L1 => (k = true → Run M G L1 a { E with nx := fun G' L' => Run M G' L' rest E }) ∧ (k = false → Run M G L1 b { E with nx := fun G' L' => Run M G' L' rest E })) :
    Run M G L (.If c a b pos :: rest) E := by
  intro X S F σ H A D o
  refine gss_cons ⟨_, ps_if bt bss bss, ?_⟩
  refine h X S F σ H A _ fun k L1 F1 H1 k1 A1 s1 => ?_
  cases k with
  | true =>
    rw [if_pos rfl]
    exact k1.1 rfl X S F1 σ H1 A1 _ (o.seq S)
  | false =>
    rw [if_neg Bool.false_ne_true]
    exact k1.2 rfl X S F1 σ H1 A1 _ (o.seq S)
def Loc' (M : Mode) (x : Str) : Prop := M.C.sc.names.lookup x = some .local ∨ (M.C.sc.names.lookup x = some .cell ∧ M.C.df x = true)
theorem Loc'.loc {x : Str} (h : Loc' M x) {X : Cx} (S : Sit M X) : Loc X.env.scope x ∧ (X.fn x = true ∨ X.env.scope.names.lookup x = some .local) := by
  rw [← S.ok.es]
  rcases h with h | ⟨h, e⟩
  · exact ⟨.inl h, .inr h⟩
  · exact ⟨.inr h, .inl (S.ok.fn x e)⟩
theorem run_set {x : Str} {p : Pos} {e : Expr} (hx : Loc' M x) (hn : x ∈ M.C.N) (h : Ev M G L e fun d L1 => ∃ G', Put M.C.N G x (some d) G' ∧ Run M G' L1 rest E) (hs : ∀ X : Cx, swapsWith e (some (.Name x p)) pos.line X.env = pure false := by intro _; rfl) :
    Run M G L (.Assign [.Name x p] e pos :: rest) E := by
  intro X S F σ H A D o
  obtain ⟨hl, hf⟩ := hx.loc S
  obtain ⟨i, hi⟩ := List.getElem?_of_mem hn
  have nd : X.N.Nodup := by rw [← S.ok.eN]; exact S.ok.nd
  rw [S.ok.eN] at hi
  refine gss_cons ⟨_, ps_set (i := i) nd hi hl be (hs X) hf, ?_⟩
  refine h X S F σ H A _ fun d L1 v F1 H1 k1 A1 r1 s1 => ?_
  obtain ⟨G', hp, hr⟩ := k1
  obtain ⟨j, hj, rfl⟩ := hp.ix
  rw [S.ok.eN] at hj
  have e : j = i := nodup_ix nd hj hi
  subst e
  exact hr X S F1 _ H1 (A1.set r1) D o
/-- any target but a plain name -/
theorem run_asg {tg e : Expr} (h : Ev M G L e fun d L1 => Tgt M G L1 tg d fun G2 L2 => Run M G2 L2 rest E)
    (hs : ∀ X : Cx, swapsWithSole [tg] e pos.line X.env = pure false := by intro _; rfl) (hw : ∀ X : Cx, swappedStores [tg] e X.env = pure none := by intro _; rfl)
    (h1 : ∀ X : Cx, (assignEach [tg] X.env).map (·.2) = [assign tg X.env] := by intro _; rfl) : Run M G L (.Assign [tg] e pos :: rest) E := by
  intro X S F σ H A D o
  refine gss_cons ⟨_, ps_asg be bg (hs X) (hw X) (h1 X), ?_⟩
  refine h X S F σ H A _ fun d L1 v F1 H1 k1 A1 r1 s1 => ?_
  exact k1 X S F1 σ H1 v A1 r1 _ fun G2 L2 F2 σ2 H2 k2 A2 _ => k2 X S F2 σ2 H2 A2 D o
/-- name op= e -/
theorem run_aug {x : Str} {p : Pos} {op : Operator} {e : Expr} {d0 : D} (hx : Loc' M x) (hl : Look M.C.N G x (some d0)) (h : Ev M G L e fun d L1 => Ip2 M G L1 op d0 d fun z L2 => ∃ G', Put M.C.N G x (some z) G' ∧ Run M G' L2 rest E) :
    Run M G L (.AugAssign (.Name x p) op e pos :: rest) E := by
  intro X S F σ H A D o
  obtain ⟨hlc, hf⟩ := hx.loc S
  have nd : X.N.Nodup := by rw [← S.ok.eN]; exact S.ok.nd
  obtain ⟨i, hi, hg⟩ := hl.ix
  rw [S.ok.eN] at hi
  obtain ⟨v0, hv0, r0⟩ := A.env.get hg
  refine gss_cons ⟨_, ps_aug (i := i) nd hi hlc be bip hf, v0, hv0, ?_⟩
  refine h X S F σ H A _ fun d L1 v F1 H1 k1 A1 r1 s1 => ?_
  refine k1 X S F1 σ H1 v0 v A1 (r0.mono s1) r1 _ fun z L2 u F2 H2 k2 A2 r2 s2 => ?_
  obtain ⟨G', hp, hr⟩ := k2
  obtain ⟨j, hj, rfl⟩ := hp.ix
  rw [S.ok.eN] at hj
  have e : j = i := nodup_ix nd hj hi
  subst e
  exact hr X S F2 _ H2 (A2.set r2) D o
theorem ip_addI {i j : Int} {K : D → Led → Prop} (h : K (.int (i + j)) L) : Ip2 M G L .Add (.int i) (.int j) K := by
  intro X S F σ H v u A r1 r2 Q q
  cases r1; cases r2
  exact ⟨_, ip_add, i, j, rfl, rfl, q _ L _ F H h A (.v _) (Same.refl _)⟩
theorem ip_subI {i j : Int} {K : D → Led → Prop} (h : K (.int (i - j)) L) : Ip2 M G L .Sub (.int i) (.int j) K := by
  intro X S F σ H v u A r1 r2 Q q
  cases r1; cases r2
  exact ⟨_, ip_sub, i, j, rfl, rfl, q _ L _ F H h A (.v _) (Same.refl _)⟩

/-! ### targets -/
theorem tgt_name {x : Str} {p : Pos} {d : D} {K : List (Option D) → Led → Prop} {G' : List (Option D)} (hx : Loc' M x) (hp : Put M.C.N G x (some d) G') (h : K G' L) : Tgt M G L (.Name x p) d K := by
  intro X S F σ H v A r Q q
  obtain ⟨hlc, hf⟩ := hx.loc S
  obtain ⟨i, hi, rfl⟩ := hp.ix
  rw [S.ok.eN] at hi
  exact ⟨_, pg_name (i := i) (by rw [← S.ok.eN]; exact S.ok.nd) hi hlc hf, q _ L F _ H h (A.set r) (Same.refl _)⟩
/-- targets, one after another -/
def Tgts (M : Mode) (G : List (Option D)) (L : Led) : List Expr → List D → (List (Option D) → Led → Prop) → Prop
  | [], ds, K => ds = [] ∧ K G L
  | tg :: tgs, ds, K => ∃ d r, ds = d :: r ∧ Tgt M G L tg d fun G1 L1 => Tgts M G1 L1 tgs r K
def GGs (X : Cx) (ts : List Expr) (vs : List V) (σ : St) (H : Hp) (Q : St → Hp → Prop) : Prop := ∃ t, PGs X ts t ∧ t vs σ H Q
theorem bgs {X : Cx} {ts : List Expr} : PGs X ts (GGs X ts) := ⟨fun pins s σ H vs us Q I r ⟨_, h, q⟩ => h.run pins s σ H vs us Q I r q⟩
theorem Tgts.go : ∀ {ts : List Expr} {M : Mode} {G : List (Option D)} {L : Led} {ds : List D} {K : List (Option D) → Led → Prop}, Tgts M G L ts ds K →
    (hs : ∀ (X : Cx) (e : Expr) (es : List Expr), (e :: es) <:+ ts → (assignEach (e :: es) X.env).map (·.2) = assign e X.env :: (assignEach es X.env).map (·.2)) →
    ∀ X, Sit M X → ∀ F σ H vs, M.at G L F σ H → RepA M.C.K F ds vs → ∀ Q : St → Hp → Prop, (∀ G' L' F' σ' H', K G' L' → M.at G' L' F' σ' H' → Same F F' → Q σ' H') → GGs X ts vs σ H Q
  | [], M, G, L, ds, K, h, hs, X, S, F, σ, H, vs, A, r, Q, q => by
    obtain ⟨rfl, h⟩ := h
    cases r
    exact ⟨_, pgs_nil, rfl, q G L F σ H h A (Same.refl _)⟩
  | t :: ts, M, G, L, ds, K, h, hs, X, S, F, σ, H, vs, A, r, Q, q => by
    obtain ⟨d, rs, rfl, h⟩ := h
    cases r with
    | cons r1 r2 =>
      refine ⟨_, pgs_cons bg bgs (hs X t ts (List.suffix_refl _)), _, _, rfl, ?_⟩
      refine h X S F σ H _ A r1 _ fun G1 L1 F1 σ1 H1 k1 A1 s1 => ?_
      exact Tgts.go k1 (fun X e es hm => hs X e es (hm.trans (List.suffix_cons _ _))) X S F1 σ1 H1 _ A1 (r2.mono s1) Q fun G' L' F' σ' H' kk AA ss => q G' L' F' σ' H' kk AA (s1.trans ss)
theorem tgt_tup (hc : M.C.cm = true) {es : List Expr} {k : Nat} {ds : List D} {K : List (Option D) → Led → Prop} (h : Tgts M G L es ds K) (hl : ds.length = es.length)
    (hn : ∀ X : Cx, (assignEach es X.env).length = es.length := by intro _; rfl) (hst : ∀ X : Cx, (assignEach es X.env).findIdx? (·.1) = none := by intro _; rfl)
    (hs : ∀ (X : Cx) (e : Expr) (fs : List Expr), (e :: fs) <:+ es → (assignEach (e :: fs) X.env).map (·.2) = assign e X.env :: (assignEach fs X.env).map (·.2)) : Tgt M G L (.Tuple es k pos) (.tup ds) K := by
  intro X S F σ H v A r Q q
  obtain ⟨p, vs, rfl, h1, h2⟩ := tup_get A r
  refine ⟨_, pg_tup (n := es.length) (S.ok.calm hc) bgs (hn X) (hst X), p, vs, rfl, by rw [← S.ok.eK]; exact h1, by rw [← h2.length]; exact hl, ?_⟩
  exact h.go hs X S F σ H vs A h2 Q q
theorem two_sfx {a b e : Expr} {fs : List Expr} (h : (e :: fs) <:+ [a, b]) : (e = a ∧ fs = [b]) ∨ (e = b ∧ fs = []) := by
  obtain ⟨t, ht⟩ := h
  match t, ht with
  | [], ht => cases ht; exact .inl ⟨rfl, rfl⟩
  | [_], ht => cases ht; exact .inr ⟨rfl, rfl⟩
  | [_, _], ht => cases ht
  | _ :: _ :: _ :: _, ht => cases ht
theorem three_sfx {a b c e : Expr} {fs : List Expr} (h : (e :: fs) <:+ [a, b, c]) : (e = a ∧ fs = [b, c]) ∨ (e = b ∧ fs = [c]) ∨ (e = c ∧ fs = []) := by
  obtain ⟨t, ht⟩ := h
  match t, ht with
  | [], ht => cases ht; exact .inl ⟨rfl, rfl⟩
  | [_], ht => cases ht; exact .inr (.inl ⟨rfl, rfl⟩)
  | [_, _], ht => cases ht; exact .inr (.inr ⟨rfl, rfl⟩)
  | [_, _, _], ht => cases ht
  | _ :: _ :: _ :: _ :: _, ht => cases ht
/-- a, b = a pair -/
theorem tgt_two (hc : M.C.cm = true) {a b : Expr} {k : Nat} {d e : D} {K : List (Option D) → Led → Prop} (h : Tgt M G L a d fun G1 L1 => Tgt M G1 L1 b e K)
    (hn : ∀ X : Cx, (assignEach [a, b] X.env).length = 2 := by intro _; rfl) (hst : ∀ X : Cx, (assignEach [a, b] X.env).findIdx? (·.1) = none := by intro _; rfl)
    (h1 : ∀ X : Cx, (assignEach [a, b] X.env).map (·.2) = assign a X.env :: (assignEach [b] X.env).map (·.2) := by intro _; rfl) (h2 : ∀ X : Cx, (assignEach [b] X.env).map (·.2) = assign b X.env :: (assignEach [] X.env).map (·.2) := by intro _; rfl) :
    Tgt M G L (.Tuple [a, b] k pos) (.tup [d, e]) K :=
  tgt_tup hc (es := [a, b]) ⟨d, [e], rfl, fun X S F σ H v A r Q q => h X S F σ H v A r Q fun G1 L1 F1 σ1 H1 k1 A1 s1 => q G1 L1 F1 σ1 H1 ⟨e, [], rfl, fun X S F σ H v A r Q q => k1 X S F σ H v A r Q fun G2 L2 F2 σ2 H2 k2 A2 s2 => q G2 L2 F2 σ2 H2 ⟨rfl, k2⟩ A2 s2⟩ A1 s1⟩ rfl hn hst
    fun X e fs hm => by
      rcases two_sfx hm with ⟨rfl, rfl⟩ | ⟨rfl, rfl⟩
      · exact h1 X
      · exact h2 X
theorem tgt_three (hc : M.C.cm = true) {a b c : Expr} {k : Nat} {d e f : D} {K : List (Option D) → Led → Prop} (h : Tgt M G L a d fun G1 L1 => Tgt M G1 L1 b e fun G2 L2 => Tgt M G2 L2 c f K)
    (hn : ∀ X : Cx, (assignEach [a, b, c] X.env).length = 3 := by intro _; rfl) (hst : ∀ X : Cx, (assignEach [a, b, c] X.env).findIdx? (·.1) = none := by intro _; rfl)
    (h1 : ∀ X : Cx, (assignEach [a, b, c] X.env).map (·.2) = assign a X.env :: (assignEach [b, c] X.env).map (·.2) := by intro _; rfl) (h2 : ∀ X : Cx, (assignEach [b, c] X.env).map (·.2) = assign b X.env :: (assignEach [c] X.env).map (·.2) := by intro _; rfl)
    (h3 : ∀ X : Cx, (assignEach [c] X.env).map (·.2) = assign c X.env :: (assignEach [] X.env).map (·.2) := by intro _; rfl) :
    Tgt M G L (.Tuple [a, b, c] k pos) (.tup [d, e, f]) K :=
  tgt_tup hc (es := [a, b, c]) ⟨d, [e, f], rfl, fun X S F σ H v A r Q q => h X S F σ H v A r Q fun G1 L1 F1 σ1 H1 k1 A1 s1 => q G1 L1 F1 σ1 H1 ⟨e, [f], rfl, fun X S F σ H v A r Q q => k1 X S F σ H v A r Q fun G2 L2 F2 σ2 H2 k2 A2 s2 => q G2 L2 F2 σ2 H2
    ⟨f, [], rfl, fun X S F σ H v A r Q q => k2 X S F σ H v A r Q fun G2 L2 F2 σ2 H2 k2 A2 s2 => q G2 L2 F2 σ2 H2 ⟨rfl, k2⟩ A2 s2⟩ A2 s2⟩ A1 s1⟩ rfl hn hst
    fun X e fs hm => by
      rcases three_sfx hm with ⟨rfl, rfl⟩ | ⟨rfl, rfl⟩ | ⟨rfl, rfl⟩
      · exact h1 X
      · exact h2 X
      · exact h3 X

/-! ### loops -/
@[reducible] def Mode.fix (M : Mode) (F : Hp) : Mode := { M with F0 := F }
theorem At.fixed {F : Hp} {σ : St} {H : Hp} (A : M.at G L F σ H) : (M.fix F).at G L F σ H := ⟨Same.refl _, A.eh, A.fh, fun _ _ _ h => h, A.own, A.nd, A.env⟩
theorem At.unfix {F F' : Hp} {σ σ' : St} {H H' : Hp} {G' : List (Option D)} {L' : Led} (A : M.at G L F σ H) (B : (M.fix F).at G' L' F' σ' H') : M.at G' L' F' σ' H' :=
  ⟨A.ef.trans B.ef, B.eh, B.fh, fun a o h1 h2 => B.nf a o h1 (A.nf a o h1 h2), B.own, B.nd, B.env⟩
theorem Sit.fix {X : Cx} (S : Sit M X) {F : Hp} {σ : St} {H : Hp} (A : M.at G L F σ H) : Sit (M.fix F) X := by
  obtain ⟨ok, W, tk, hk⟩ := S
  exact ⟨ok, W, tk, fun ex G' L' F' σ' H' v d ht B he => hk ex G' L' F' σ' H' v d ht (A.unfix B) he⟩
/-- J goes through items, as long as src is in the ledger -/
def Goes (M : Mode) (J : It) (src : Led) (items : List D) : Prop := ∀ G L F σ H, M.at G L F σ H → (∀ s ∈ src, s ∈ L) → ∀ i : Nat,
  (∀ d, items[i]? = some d → J.go i H ∧ ∀ x H', J.yld i H x H' → ∃ F', M.at G L F' σ H' ∧ Rep M.C.K F' d x) ∧ (items.length ≤ i → J.stop i H)
/-- .. from one state on -/
def EvI1 (M : Mode) (G : List (Option D)) (X : Cx) (F : Hp) (σ : St) (H : Hp) (tg iter : Expr) (K : Led → List D → Led → Prop) : Prop := ∀ R : It → Hp → Prop,
  (∀ J src items L' F' H', K src items L' → Goes (M.fix F') J src items → M.at G L' F' σ H' → Same F F' → R J H') → GI X tg iter σ H R
def EvI (M : Mode) (G : List (Option D)) (L : Led) (tg iter : Expr) (K : Led → List D → Led → Prop) : Prop := ∀ X, Sit M X → ∀ F σ H, M.at G L F σ H → EvI1 M G X F σ H tg iter K
abbrev TD.turn (T : TD) (I : List (Option D) → Led → Prop) (R : List (Option D) → Led → Prop) : TD := { nx := I, ct := I, bk := R, rt := T.rt }
/-- what a loop follows -/
def ForInv (M : Mode) (G : List (Option D)) (tg : Expr) (body : List Stmt) (E : TD) (src : Led) (items : List D) (L1 : Led) : Prop := ∃ I : Nat → List (Option D) → Led → Prop, I 0 G L1 ∧ (∀ i G' L', I i G' L' → ∀ s ∈ src, s ∈ L') ∧
      (∀ F1 i d G' L', items[i]? = some d → I i G' L' → Tgt (M.fix F1) G' L' tg d fun G2 L2 => Run (M.fix F1) G2 L2 body (E.turn (I (i + 1)) E.nx)) ∧
      ∀ G' L', I items.length G' L' → E.nx G' L'
theorem for_go {tg iter : Expr} {body : List Stmt} {X : Cx} {F : Hp} {σ : St} {H : Hp} {D : Ends} (S : Sit M X) (A : M.at G L F σ H) (h : EvI1 M G X F σ H tg iter fun src items L1 => ForInv M G tg body E src items L1) (o : EndsOk M E D) :
    tFor (GI X tg iter) (GG X tg) (GSs X body) D σ H := by
  refine h _ fun J src items L1 F1 H1 k1 g1 A1 s1 => ?_
  obtain ⟨I, i0, isrc, turn, done⟩ := k1
  have S1 := S.fix A1
  refine ⟨fun i m σ' H' => m = items.length - i ∧ i ≤ items.length ∧ ∃ G' L' F', (M.fix F1).at G' L' F' σ' H' ∧ I i G' L', ⟨items.length, by simp, Nat.zero_le _, G, L1, F1, A1.fixed, i0⟩, ?_⟩
  rintro i m σ' H' ⟨rfl, hi, G', L', F', A', iv⟩
  obtain ⟨q1, q2⟩ := g1 G' L' F' σ' H' A' (isrc i G' L' iv) i
  by_cases hlt : i < items.length
  · obtain ⟨go, yl⟩ := q1 items[i] (by simp [hlt])
    refine .inr ⟨go, fun σ2 H2 => ∃ G' L' F', (M.fix F1).at G' L' F' σ2 H2 ∧ I (i + 1) G' L', fun σ2 H2 ⟨G2, L2, F2, A2, iv2⟩ => ⟨items.length - (i + 1), by omega, rfl, hlt, G2, L2, F2, A2, iv2⟩, fun x H2 y => ?_⟩
    obtain ⟨F2, A2, r2⟩ := yl x H2 y
    refine turn F1 i _ G' L' (by simp [hlt]) iv X S1 F2 σ' H2 x A2 r2 _ fun G3 L3 F3 σ3 H3 k3 A3 _ => ?_
    refine k3 X S1 F3 σ3 H3 A3 _ ⟨fun G L F σ H h A => ⟨G, L, F, A, h⟩, fun d G L v F σ H h A r => o.rt d G L v F σ H h (A1.unfix A) r, fun G L F σ H h A => o.nx G L F σ H h (A1.unfix A), fun G L F σ H h A => ⟨G, L, F, A, h⟩⟩
  · have e : i = items.length := by omega
    subst e
    exact .inl ⟨q2 (Nat.le_refl _), o.nx G' L' F' σ' H' (done G' L' iv) (A1.unfix A')⟩
theorem run_for {tg iter : Expr} {body : List Stmt} (hlp : M.C.lp = true) (hc : M.C.cm = true) (h : EvI M G L tg iter fun src items L1 => ForInv M G tg body { E with nx := fun G' L' => Run M G' L' rest E } src items L1)
    (hs : ∀ (X : Cx) x, foldedSetIterable iter X.env x = pure x := by intro _ _; rfl) : Run M G L (.For tg iter body [] pos :: rest) E := by
  intro X S F σ H A D o
  exact gss_cons ⟨_, ps_for (S.ok.po hlp) (S.ok.calm hc) bi bg bss (hs X), for_go S A (h X S F σ H A) (o.seq S)⟩
theorem run_while {c : Expr} {body : List Stmt} (hlp : M.C.lp = true) (I : Nat → List (Option D) → Led → Prop) (m0 : Nat) (h0 : I m0 G L)
    (hs : ∀ m G' L', I m G' L' → Tst M G' L' c fun k L1 => (k = true → Run M G' L1 body (E.turn (fun G2 L2 => ∃ m', m' < m ∧ I m' G2 L2) fun G2 L2 => Run M G2 L2 rest E)) ∧ (k = false → Run M G' L1 rest E)) : Run M G L (.While c body [] pos :: rest) E := by
  intro X S F σ H A D o
  refine gss_cons ⟨_, ps_while (S.ok.po hlp) bt bss, ?_⟩
  refine ⟨fun m σ' H' => ∃ G' L' F', M.at G' L' F' σ' H' ∧ I m G' L', ⟨m0, G, L, F, A, h0⟩, ?_⟩
  rintro m σ' H' ⟨G', L', F', A', iv⟩
  refine hs m G' L' iv X S F' σ' H' A' _ fun k L1 F1 H1 k1 A1 s1 => ?_
  cases k with
  | true =>
    rw [if_pos rfl]
    refine ⟨fun σ2 H2 => ∃ m', m' < m ∧ ∃ G2 L2 F2, M.at G2 L2 F2 σ2 H2 ∧ I m' G2 L2, fun σ2 H2 h => h, ?_⟩
    exact k1.1 rfl X S F1 σ' H1 A1 _ ⟨fun G L F σ H ⟨m', hm, h⟩ A => ⟨m', hm, G, L, F, A, h⟩, o.rt, fun G L F σ H h A => h X S F σ H A D o, fun G L F σ H ⟨m', hm, h⟩ A => ⟨m', hm, G, L, F, A, h⟩⟩
  | false =>
    rw [if_neg Bool.false_ne_true]
    exact k1.2 rfl X S F1 σ' H1 A1 D o

/-! ### what is walked -/
theorem ei_tup {tg e : Expr} {K : Led → List D → Led → Prop} (h : Ev M G L e fun d L1 => ∃ ds, d = .tup ds ∧ K [] ds L1) : EvI M G L tg e K := by
  intro X S F σ H A R q
  refine ⟨_, pi_tup be, ?_⟩
  refine h X S F σ H A _ fun d L1 v F1 H1 k1 A1 r1 s1 => ?_
  obtain ⟨ds, rfl, hk⟩ := k1
  obtain ⟨p, vs, rfl, h1, h2⟩ := tup_get A1 r1
  refine ⟨p, rfl, ⟨vs, by rw [← S.ok.eK]; exact h1⟩, q _ [] ds L1 F1 H1 hk (fun G' L' F' σ' H' A' _ i => ⟨fun d hd => ?_, fun hi => ?_⟩) A1 s1⟩
  · obtain ⟨p', vs', e', h1', h2'⟩ := tup_get A' (r1.mono A'.ef)
    cases e'
    obtain ⟨w, hw, rw'⟩ := h2'.get hd
    have h1'' : SqT X.K H' p vs' := by rw [← S.ok.eK]; exact h1'
    refine ⟨⟨vs', w, h1'', hw⟩, fun x H2 ⟨e2, y⟩ => ?_⟩
    subst e2
    have e3 := y vs' h1''
    rw [hw] at e3
    cases e3
    exact ⟨F', A', rw'⟩
  · obtain ⟨p', vs', e', h1', h2'⟩ := tup_get A' (r1.mono A'.ef)
    cases e'
    exact ⟨vs', by rw [← S.ok.eK]; exact h1', by rw [← h2'.length]; exact hi⟩
/-- the entries that a list leans on -/
def srcL : D → List D → Led
  | .v (.ref l), ds => [(l, .lst ds)]
  | _, _ => []
theorem IsL.src {x : D} {ds : List D} (h : IsL L x ds) {L' : Led} (hs : ∀ s ∈ srcL x ds, s ∈ L') : IsL L' x ds := by
  cases h with
  | frz => exact .frz
  | own _ => exact .own (hs _ (List.mem_singleton.mpr rfl))
theorem ei_lst {tg e : Expr} {K : Led → List D → Led → Prop} (h : Ev M G L e fun d L1 => ∃ ds, IsL L1 d ds ∧ K (srcL d ds) ds L1) : EvI M G L tg e K := by
  intro X S F σ H A R q
  refine ⟨_, pi_list be, ?_⟩
  refine h X S F σ H A _ fun d L1 v F1 H1 k1 A1 r1 s1 => ?_
  obtain ⟨ds, hd, hk⟩ := k1
  obtain ⟨p, vs, rfl, h1, h2⟩ := hd.get A1 r1
  refine ⟨p, rfl, ⟨vs, SqL.of h1⟩, q _ _ ds L1 F1 H1 hk (fun G' L' F' σ' H' A' hs i => ⟨fun d hd' => ?_, fun hi => ?_⟩) A1 s1⟩
  · obtain ⟨p', vs', e', h1', h2'⟩ := (hd.src hs).get A' (r1.mono A'.ef)
    cases e'
    obtain ⟨w, hw, rw'⟩ := h2'.get hd'
    refine ⟨⟨vs', w, SqL.of h1', hw⟩, fun x H2 ⟨e2, y⟩ => ?_⟩
    subst e2
    have e3 := y vs' (SqL.of h1')
    rw [hw] at e3
    cases e3
    exact ⟨F', A', rw'⟩
  · obtain ⟨p', vs', e', h1', h2'⟩ := (hd.src hs).get A' (r1.mono A'.ef)
    cases e'
    exact ⟨vs', SqL.of h1', by rw [← h2'.length]; exact hi⟩
def rng (lo : Int) (n : Nat) : List D := (List.range n).map fun i => .int (lo + (i : Nat))
theorem rng_get {lo : Int} {n i : Nat} {d : D} (h : (rng lo n)[i]? = some d) : i < n ∧ d = .int (lo + (i : Nat)) := by
  unfold rng at h
  rw [List.getElem?_map] at h
  by_cases hi : i < n
  · rw [List.getElem?_range hi] at h
    exact ⟨hi, (Option.some.inj h).symm⟩
  · rw [List.getElem?_eq_none (by simpa using Nat.le_of_not_lt hi)] at h
    cases h
theorem rng_length (lo : Int) (n : Nat) : (rng lo n).length = n := by unfold rng; simp
theorem goes_rng {lo : Int} {n : Nat} : Goes M (Itr lo n) [] (rng lo n) := by
  intro G' L' F' σ' H' A' _ i
  refine ⟨fun d hd => ?_, fun hi => by rw [rng_length] at hi; exact hi⟩
  obtain ⟨hi, rfl⟩ := rng_get hd
  exact ⟨hi, fun x H2 ⟨e1, e2⟩ => by subst e1 e2; exact ⟨F', A', .v _⟩⟩
theorem gl_of {X : Cx} {x : Str} (S : Sit M X) (h : GlC M.C x) : Gl X x := by
  show X.env.scope.names.lookup x = _
  rw [← S.ok.es]
  exact h
theorem mg_of {X : Cx} {x : Str} {o : Option Value} (S : Sit M X) (h : M.C.mg x = o) : X.mg x = o := by
  rw [← S.ok.em]
  exact h
theorem ei_rng1 {tg a : Expr} {p : Pos} {K : Led → List D → Led → Prop} (hg : GlC M.C "range") (hm : M.C.mg "range" = none)
    (h : Ev M G L a fun d L1 => ∃ j : Int, d = .int j ∧ -(2 ^ 62) ≤ j ∧ j < 2 ^ 62 ∧ K [] (rng 0 j.toNat) L1) (hs : ∀ X : Cx, starEach [a] X.env = [(false, eval a X.env)] := by intro _; rfl) : EvI M G L tg (.Call (.Name "range" p) [a] [] pos) K := by
  intro X S F σ H A R q
  refine ⟨_, pi_range1 (gl_of S hg) (mg_of S hm) (pa_cons be pa_nil (hs X)) (hs X), ?_⟩
  refine h X S F σ H A _ fun d L1 v F1 H1 k1 A1 r1 s1 => ?_
  obtain ⟨j, rfl, h1, h2, hk⟩ := k1
  cases r1
  exact ⟨j, rfl, h1, h2, q _ [] _ L1 F1 H1 hk goes_rng A1 s1⟩
theorem ei_str {tg e : Expr} {K : Led → List D → Led → Prop} (h : Ev M G L e fun d L1 => ∃ z, d = .str z ∧ K [] (z.cps.toList.map fun c => .str ⟨#[c]⟩) L1) : EvI M G L tg e K := by
  intro X S F σ H A R q
  refine ⟨_, pi_str be, ?_⟩
  refine h X S F σ H A _ fun d L1 v F1 H1 k1 A1 r1 s1 => ?_
  obtain ⟨z, rfl, hk⟩ := k1
  cases r1
  refine ⟨z, rfl, q _ [] _ L1 F1 H1 hk (fun G' L' F' σ' H' A' _ i => ⟨fun d hd => ?_, fun hi => (by have hi' := hi; rw [List.length_map] at hi'; simpa using hi' : z.cps.size ≤ i)⟩) A1 s1⟩
  rw [List.getElem?_map] at hd
  by_cases hi : i < z.cps.size
  · refine ⟨hi, fun x H2 ⟨e1, c, hc, e2⟩ => ?_⟩
    subst e1 e2
    have e3 : z.cps.toList[i]? = some c := by simpa using hc
    rw [e3] at hd
    cases hd
    exact ⟨F', A', .v _⟩
  · rw [List.getElem?_eq_none (by simpa using Nat.le_of_not_lt hi)] at hd
    cases hd
def enumD (ds : List D) : List D := (List.range ds.length).map fun i => .tup [.int (i : Nat), ds.getD i .non]
theorem enum_get {ds : List D} {i : Nat} {d : D} (h : (enumD ds)[i]? = some d) : ∃ x, ds[i]? = some x ∧ d = .tup [.int (i : Nat), x] := by
  unfold enumD at h
  rw [List.getElem?_map] at h
  by_cases hi : i < ds.length
  · rw [List.getElem?_range hi] at h
    exact ⟨ds[i], by simp [hi], by rw [← Option.some.inj h]; simp [hi]⟩
  · rw [List.getElem?_eq_none (by simpa using Nat.le_of_not_lt hi)] at h
    cases h
theorem ei_enum {elts : List Expr} {kk : Nat} {tpos p : Pos} {e : Expr} {K : Led → List D → Led → Prop} (hg : GlC M.C "enumerate") (hm : M.C.mg "enumerate" = none)
    (h : Ev M G L e fun d L1 => ∃ ds, IsL L1 d ds ∧ K (srcL d ds) (enumD ds) L1) (hs : ∀ X : Cx, starEach [e] X.env = [(false, eval e X.env)] := by intro _; rfl) : EvI M G L (.Tuple elts kk tpos) (.Call (.Name "enumerate" p) [e] [] pos) K := by
  intro X S F σ H A R q
  refine ⟨_, pi_enum (gl_of S hg) (mg_of S hm) (pa_cons be pa_nil (hs X)) (hs X), ?_⟩
  refine h X S F σ H A _ fun d L1 v F1 H1 k1 A1 r1 s1 => ?_
  obtain ⟨ds, hd, hk⟩ := k1
  obtain ⟨p, vs, rfl, h1, h2⟩ := hd.get A1 r1
  refine ⟨p, vs, rfl, SqL.of h1, q _ _ _ L1 F1 H1 hk (fun G' L' F' σ' H' A' hs i => ⟨fun d hd' => ?_, fun hi => ?_⟩) A1 s1⟩
  · obtain ⟨x, hx, rfl⟩ := enum_get hd'
    obtain ⟨p', vs', e', h1', h2'⟩ := (hd.src hs).get A' (r1.mono A'.ef)
    cases e'
    obtain ⟨w, hw, rw'⟩ := h2'.get hx
    refine ⟨⟨vs', w, SqL.of h1', hw⟩, fun x H2 ⟨T, y, e1, hT, e2, y2⟩ => ?_⟩
    subst e1 e2
    have e3 := y2 vs' (SqL.of h1')
    rw [hw] at e3
    cases e3
    obtain ⟨A2, s2⟩ := A'.ice (o := .tup [.int (i : Nat), w]) hT
    exact ⟨_, A2, .tup (.inl (.inl upd_same)) (.cons (.v _) (.cons (rw'.mono s2) .nil))⟩
  · obtain ⟨p', vs', e', h1', h2'⟩ := (hd.src hs).get A' (r1.mono A'.ef)
    cases e'
    refine ⟨vs', SqL.of h1', ?_⟩
    rw [← h2'.length]
    unfold enumD at hi
    simpa using hi
def zipD (ds es : List D) : List D := List.zipWith (fun a b => .tup [a, b]) ds es
theorem zip_get : ∀ {ds es : List D} {i : Nat} {d : D}, (zipD ds es)[i]? = some d → ∃ x y, ds[i]? = some x ∧ es[i]? = some y ∧ d = .tup [x, y] := by
  intro ds es i d h
  unfold zipD at h
  rw [List.getElem?_zipWith] at h
  cases e1 : ds[i]? with
  | none => rw [e1] at h; cases h
  | some x =>
    cases e2 : es[i]? with
    | none => rw [e1, e2] at h; cases h
    | some y => rw [e1, e2] at h; exact ⟨x, y, rfl, rfl, (Option.some.inj h).symm⟩
theorem ei_zip {elts : List Expr} {kk : Nat} {tpos p : Pos} {e f : Expr} {K : Led → List D → Led → Prop} (hg : GlC M.C "zip") (hm : M.C.mg "zip" = none)
    (h : Ev M G L e fun d L1 => Ev M G L1 f fun d2 L2 => (∃ ds es, IsL L2 d ds ∧ IsL L2 d2 es ∧ K (srcL d ds ++ srcL d2 es) (zipD ds es) L2) ∨ ∃ ds es, d = .tup ds ∧ d2 = .tup es ∧ K [] (zipD ds es) L2)
    (hs : ∀ X : Cx, starEach [e, f] X.env = (false, eval e X.env) :: starEach [f] X.env := by intro _; rfl) (hs2 : ∀ X : Cx, starEach [f] X.env = [(false, eval f X.env)] := by intro _; rfl)
    (hpl : ∀ X : Cx, (backTo pos (starEach [f] X.env)).any (·.1) = false := by intro _; rfl) : EvI M G L (.Tuple elts kk tpos) (.Call (.Name "zip" p) [e, f] [] pos) K := by
  intro X S F σ H A R q
  refine ⟨_, RZ.pi_zipA (gl_of S hg) (mg_of S hm) (pa_cons be (pa_cons be pa_nil (hs2 X)) (hs X)) (hs X) (hpl X), ?_⟩
  refine h X S F σ H A _ fun d L1 v F1 H1 k1 A1 r1 s1 => ?_
  refine k1 X S F1 σ H1 A1 _ fun d2 L2 v2 F2 H2 k2 A2 r2 s2 => ?_
  have r1 := r1.mono s2
  rcases k2 with ⟨ds, es, hd, he, hk⟩ | ⟨ds, es, rfl, rfl, hk⟩
  · obtain ⟨p, vs, rfl, h1, h2⟩ := hd.get A2 r1
    obtain ⟨p2, vs2, rfl, h3, h4⟩ := he.get A2 r2
    refine ⟨p, p2, vs, vs2, rfl, .inl ⟨SqL.of h1, SqL.of h3, q _ _ _ L2 F2 H2 hk (fun G' L' F' σ' H' A' hs i => ?_) A2 (s1.trans s2)⟩⟩
    have hsd := hd.src (L' := L') fun s h => hs s (List.mem_append_left _ h)
    have hse := he.src (L' := L') fun s h => hs s (List.mem_append_right _ h)
    obtain ⟨p', vs', e', h1', h2'⟩ := hsd.get A' (r1.mono A'.ef)
    cases e'
    obtain ⟨p', ws', e', h3', h4'⟩ := hse.get A' (r2.mono A'.ef)
    cases e'
    refine ⟨fun d hd' => ?_, fun hi => ?_⟩
    · obtain ⟨x, y, hx, hy, rfl⟩ := zip_get hd'
      obtain ⟨w, hw, rw1⟩ := h2'.get hx
      obtain ⟨u, hu, ru1⟩ := h4'.get hy
      refine ⟨⟨vs', ws', w, u, SqL.of h1', SqL.of h3', hw, hu⟩, fun x H2 ⟨T, y, z, e1, hT, e2, y2, z2⟩ => ?_⟩
      subst e1 e2
      have e3 := y2 vs' (SqL.of h1')
      have e4 := z2 ws' (SqL.of h3')
      rw [hw] at e3
      rw [hu] at e4
      cases e3; cases e4
      obtain ⟨A2, s2⟩ := A'.ice (o := .tup [w, u]) hT
      exact ⟨_, A2, .tup (.inl (.inl upd_same)) (.cons (rw1.mono s2) (.cons (ru1.mono s2) .nil))⟩
    · refine ⟨vs', ws', SqL.of h1', SqL.of h3', ?_⟩
      unfold zipD at hi
      rw [List.length_zipWith, h2'.length, h4'.length] at hi
      omega
  · obtain ⟨p, vs, rfl, h1, h2⟩ := tup_get A2 r1
    obtain ⟨p2, vs2, rfl, h3, h4⟩ := tup_get A2 r2
    refine ⟨p, p2, vs, vs2, rfl, .inr ⟨by rw [← S.ok.eK]; exact h1, by rw [← S.ok.eK]; exact h3, q _ _ _ L2 F2 H2 hk (fun G' L' F' σ' H' A' hs i => ?_) A2 (s1.trans s2)⟩⟩
    obtain ⟨p', vs', e', h1', h2'⟩ := tup_get A' (r1.mono A'.ef)
    cases e'
    obtain ⟨p', ws', e', h3', h4'⟩ := tup_get A' (r2.mono A'.ef)
    cases e'
    have h1'' : SqT X.K H' p vs' := by rw [← S.ok.eK]; exact h1'
    have h3'' : SqT X.K H' p2 ws' := by rw [← S.ok.eK]; exact h3'
    refine ⟨fun d hd' => ?_, fun hi => ?_⟩
    · obtain ⟨x, y, hx, hy, rfl⟩ := zip_get hd'
      obtain ⟨w, hw, rw1⟩ := h2'.get hx
      obtain ⟨u, hu, ru1⟩ := h4'.get hy
      refine ⟨⟨vs', ws', w, u, h1'', h3'', hw, hu⟩, fun x H2 ⟨T, y, z, e1, hT, e2, y2, z2⟩ => ?_⟩
      subst e1 e2
      have e3 := y2 vs' h1''
      have e4 := z2 ws' h3''
      rw [hw] at e3
      rw [hu] at e4
      cases e3; cases e4
      obtain ⟨A2, s2⟩ := A'.ice (o := .tup [w, u]) hT
      exact ⟨_, A2, .tup (.inl (.inl upd_same)) (.cons (rw1.mono s2) (.cons (ru1.mono s2) .nil))⟩
    · refine ⟨vs', ws', h1'', h3'', ?_⟩
      unfold zipD at hi
      rw [List.length_zipWith, h2'.length, h4'.length] at hi
      omega
end
end TL

namespace TL
open PySem L2

/-! ### promises -/
/-- what a def does: arguments, own objects handed in; what is to be shown of result and own objects, of exceptions -/
abbrev Prm := List D → Led → (D → Led → Prop) → (EX → Led → Prop) → Prop
def TSp (K : PySem.W.Frag) (sp : Prm) : Sp := fun vs H Q E => ∃ (F H0 : Hp) (ds : List D) (L : Led) (KK : D → Led → Prop) (KE : EX → Led → Prop), RepA K F ds vs ∧ At K H0 F [] L F [] H ∧ sp ds L KK KE ∧
  (∀ d L' v F' H', KK d L' → At K H0 F [] L' F' [] H' → Rep K F' d v → Q v H') ∧ (∀ ex L' F' H' v dx, KE ex L' → At K H0 F [] L' F' [] H' → ExIs K F' H' ex v dx → E v dx H')
/-- the def at f keeps the promise -/
abbrev Def (P : Program) (w : World) (K : PySem.W.Frag) (mg : Str → Option Value) (base : Heap) (k : Nat) (f : Addr) (fd : FuncData) (ps : List Str) (sp : Prm) : Prop := FnOk P w K mg base (L2.CX P w) k f fd ps (TSp K sp)
/-- a def of the module, callable by its name -/
structure Glob (P : Program) (w : World) (K : PySem.W.Frag) (mg : Str → Option Value) (base : Heap) (x : Str) (ps : List Str) (sp : Prm) (j : Nat) : Prop where
  ex : ∃ (f : Addr) (fd : FuncData), Def P w K mg base j f fd ps sp ∧ mg x = some (.ref f) ∧ PySem.W.keepIn K (.ref f) = true ∧ Binds K fd ps []
/-- a method of the class at Cc -/
structure Mth (P : Program) (w : World) (K : PySem.W.Frag) (mg : Str → Option Value) (base : Heap) (Cc : Addr) (m : Str) (ps : List Str) (sp : Prm) (j : Nat) : Prop where
  ex : ∃ (f : Addr) (fd : FuncData), Def P w K mg base j f fd ps sp ∧ Meth K Cc m f ∧ Binds K fd ps []
section
variable {M : Mode} {G : List (Option D)} {L : Led} {K : D → Led → Prop} {pos : Pos}
/-- the wish of a call: what a callee's promise becomes here -/
def Calls (M : Mode) (G : List (Option D)) (sp : Prm) (ds : List D) (L1 : Led) (K : D → Led → Prop) : Prop :=
  ∃ Lc R, (Lc ++ R).Perm L1 ∧ ∃ mk : Led → Led, (∀ L', (L' ++ R).Perm (mk L')) ∧ sp ds Lc (fun d L' => K d (mk L')) (fun ex L' => M.T ex G (mk L'))
theorem Calls.tsp {sp : Prm} {ds : List D} {L1 : Led} (h : Calls M G sp ds L1 K) {F : Hp} {σ : St} {H : Hp} {W : WX} {vs : List V} (A : M.at G L1 F σ H) (r : RepA M.C.K F ds vs) (tk : M.Tk W) {Q : VK} (q : Post M G F σ K Q) : TSp M.C.K sp vs H Q (WE W σ) := by
  obtain ⟨Lc, R, pm, mk, hmk, hs⟩ := h
  refine ⟨F, _, ds, Lc, _, _, r, A.hand pm, hs, fun d L' v F' H' k B rd => ?_, fun ex L' F' H' v dx k B he => ?_⟩
  · exact q d _ v F' H' k ((A.back pm B).perm (hmk L')) rd B.ef
  · exact tk ex G _ F' σ H' v dx k ((A.back pm B).perm (hmk L')) he
theorem room_le {X : Cx} (S : Sit M X) (hc : M.C.cm = true) {j : Nat} (hj : j ≤ M.C.k) : Room j X.A := (S.ok.room hc).mono hj
theorem ev_call {x : Str} {p : Pos} {e : Expr} {es : List Expr} {ps : List Str} {sp : Prm} {j : Nat} (B : Glob M.C.P M.C.w M.C.K M.C.mg M.C.base x ps sp j) (hc : M.C.cm = true) (hj : j ≤ M.C.k) (hg : GlC M.C x)
    (h : EvA M G L (e :: es) fun ds L1 => Calls M G sp ds L1 K) (hdb : (x == ("__debug__" : Str)) = false := by decide +kernel)
    (he : ∀ X : Cx, starEach (e :: es) X.env = (false, eval e X.env) :: starEach es X.env := by intro _; rfl) (hpl : ∀ X : Cx, (backTo pos (starEach es X.env)).any (·.1) = false := by intro _; rfl) : Ev M G L (.Call (.Name x p) (e :: es) [] pos) K := by
  intro X S F σ H A Q q
  obtain ⟨W, tk, hk⟩ := S.tk
  obtain ⟨f, fd, ok, hm, kp, bd⟩ := B.ex
  rw [S.ok.eP, S.ok.ew, S.ok.eK, S.ok.em, S.ok.eb] at ok
  rw [S.ok.eK] at kp bd
  refine ⟨_, pe_callS (E := WE W) ok (room_le S hc hj) (gl_of S hg) (mg_of S hm) kp bd (fun σ => passAt tk σ) ba hdb (he X) (hpl X), ?_⟩
  refine h X S F σ H A _ fun ds L1 vs F1 H1 k1 A1 r1 s1 => ?_
  have z := k1.tsp A1 r1 hk (Q := Q) fun d L' v F' H' k' A' r' s' => q d L' v F' H' k' A' r' (s1.trans s')
  rw [S.ok.eK] at z
  exact z
/-- o.m(e, ..), o an instance of an own class, an error may leave -/
theorem ge_meth {X : Cx} {C f : Addr} {k : Nat} {fd : FuncData} {ps : List Str} {sp : Sp} {E : St → XK} {m : Str} {apos : Pos} {o e : Expr} {es : List Expr} {pl : Sem Bool} {σ : St} {H : Hp} {Q : VK}
    (c : Cls X.K C) (hm : Meth X.K C m f) (ok : FnOk X.prog X.w X.K X.mg X.base (L2.CX X.prog X.w) k f fd ps sp) (hr : Room k X.A) (bd : Binds X.K fd ps []) (hx : ∀ σ, PassesAt (L2.CX X.prog X.w) X σ (E σ))
    (h1 : starEach (e :: es) X.env = (false, eval e X.env) :: starEach es X.env) (h2 : (backTo pos (starEach es X.env)).any (·.1) = false)
    (ht : eval (.Call (.Attribute o m apos) (e :: es) [] pos) X.env = (eval o X.env >>= fun ov => standAt apos.atName >>= fun _ => holding [ov] (getMethod ov m pl) >>= fun (f, first) => callWith pos f first (backTo pos (starEach (e :: es) X.env)) (backToKw pos (keywordEach [] X.env))))
    (h : GE X o σ H fun x H1 => ∃ a dx fs, x = .ref a ∧ H1 a = some (.ins C dx fs) ∧ fs.lookup m = none ∧ GA X (e :: es) σ H1 fun vs H2 => sp (x :: vs) H2 Q (E σ)) : GE X (.Call (.Attribute o m apos) (e :: es) [] pos) σ H Q := by
  refine ⟨fun σ H Q => GE X o σ H fun x H1 => ∃ a dx fs, x = .ref a ∧ H1 a = some (.ins C dx fs) ∧ fs.lookup m = none ∧ GA X (e :: es) σ H1 fun vs H2 => sp (x :: vs) H2 Q (E σ), ⟨fun pins s σ H Q I h => ?_⟩, h⟩
  refine PySem.W.methodCall_KW (pl := pl) (thn (be.run pins s σ H _ I h) fun ov s1 hh => ?_) ht
  obtain ⟨x, H1, I1, rx, a, dx, fs, rfl, ha, hl, hq⟩ := hh
  obtain rfl : ov = Value.ref a := rx
  refine getmeth_ok I1 ha c hm hl ?_
  refine PySem.W.callWith_K (first := [.ref a]) (h₀ := X.base) I1.ok.mod.kin hm.kp (thn (ba.run pos pins s1 σ H1 _ I1 hq) fun us s2 hh => ?_) h1 h2
  obtain ⟨vs, H2, I2, rv, hs⟩ := hh
  exact ⟨I2.kIn, run_fnS (us := .ref a :: us) (vs := .ref a :: vs) ok hr bd (hx σ) I2 (.cons rfl rv) hs⟩
theorem ge_meth0 {X : Cx} {C f : Addr} {k : Nat} {fd : FuncData} {ps : List Str} {sp : Sp} {E : St → XK} {m : Str} {apos : Pos} {o : Expr} {pl : Sem Bool} {σ : St} {H : Hp} {Q : VK}
    (c : Cls X.K C) (hm : Meth X.K C m f) (ok : FnOk X.prog X.w X.K X.mg X.base (L2.CX X.prog X.w) k f fd ps sp) (hr : Room k X.A) (bd : Binds X.K fd ps []) (hx : ∀ σ, PassesAt (L2.CX X.prog X.w) X σ (E σ))
    (ht : eval (.Call (.Attribute o m apos) [] [] pos) X.env = (eval o X.env >>= fun ov => standAt apos.atName >>= fun _ => holding [ov] (getMethod ov m pl) >>= fun (f, first) => callWith pos f first (backTo pos (starEach [] X.env)) (backToKw pos (keywordEach [] X.env))))
    (h : GE X o σ H fun x H1 => ∃ a dx fs, x = .ref a ∧ H1 a = some (.ins C dx fs) ∧ fs.lookup m = none ∧ sp [x] H1 Q (E σ)) : GE X (.Call (.Attribute o m apos) [] [] pos) σ H Q := by
  refine ⟨fun σ H Q => GE X o σ H fun x H1 => ∃ a dx fs, x = .ref a ∧ H1 a = some (.ins C dx fs) ∧ fs.lookup m = none ∧ sp [x] H1 Q (E σ), ⟨fun pins s σ H Q I h => ?_⟩, h⟩
  refine PySem.W.methodCall_KW (pl := pl) (thn (be.run pins s σ H _ I h) fun ov s1 hh => ?_) ht
  obtain ⟨x, H1, I1, rx, a, dx, fs, rfl, ha, hl, hq⟩ := hh
  obtain rfl : ov = Value.ref a := rx
  refine getmeth_ok I1 ha c hm hl ?_
  exact PySem.W.callWith_K0 (first := [.ref a]) I1.kIn hm.kp (run_fnS (us := [.ref a]) (vs := [.ref a]) ok hr bd (hx σ) I1 (.cons rfl .nil) hq)
def plOf (o : Expr) (X : Cx) : Sem Bool := do return (← importBound o X.env).getD true
theorem ev_meth {Cc : Addr} {m : Str} {apos : Pos} {o e : Expr} {es : List Expr} {ps : List Str} {sp : Prm} {j : Nat} (B : Mth M.C.P M.C.w M.C.K M.C.mg M.C.base Cc m ps sp j) (c : Cls M.C.K Cc) (hc : M.C.cm = true) (hj : j ≤ M.C.k)
    (h : Ev M G L o fun x L1 => ∃ fs, IsO L1 x Cc fs ∧ fs.lookup m = none ∧ EvA M G L1 (e :: es) fun ds L2 => Calls M G sp (x :: ds) L2 K)
    (h1 : ∀ X : Cx, starEach (e :: es) X.env = (false, eval e X.env) :: starEach es X.env := by intro _; rfl) (h2 : ∀ X : Cx, (backTo pos (starEach es X.env)).any (·.1) = false := by intro _; rfl)
    (ht : ∀ X : Cx, eval (.Call (.Attribute o m apos) (e :: es) [] pos) X.env = (eval o X.env >>= fun ov => standAt apos.atName >>= fun _ => holding [ov] (getMethod ov m (plOf o X)) >>= fun (f, first) => callWith pos f first (backTo pos (starEach (e :: es) X.env)) (backToKw pos (keywordEach [] X.env))) := by intro _; rfl) :
    Ev M G L (.Call (.Attribute o m apos) (e :: es) [] pos) K := by
  intro X S F σ H A Q q
  obtain ⟨W, tk, hk⟩ := S.tk
  obtain ⟨f, fd, ok, hm, bd⟩ := B.ex
  rw [S.ok.eP, S.ok.ew, S.ok.eK, S.ok.em, S.ok.eb] at ok
  rw [S.ok.eK] at hm bd c
  refine ge_meth (pl := plOf o X) (E := WE W) c hm ok (room_le S hc hj) bd (fun σ => passAt tk σ) (h1 X) (h2 X) (ht X) ?_
  refine h X S F σ H A _ fun x L1 v F1 H1 k1 A1 r1 s1 => ?_
  obtain ⟨fs, ho, hl, ha⟩ := k1
  obtain ⟨p, dx, ws, rfl, e1, e2⟩ := ho.get A1 r1
  refine ⟨p, dx, ws, rfl, e1, e2.lookup_none hl, ?_⟩
  refine ha X S F1 σ H1 A1 _ fun ds L2 vs F2 H2 k2 A2 r2 s2 => ?_
  have z := k2.tsp A2 (.cons (r1.mono s2) r2) hk (Q := Q) fun d L' v F' H' k' A' r' s' => q d L' v F' H' k' A' r' ((s1.trans s2).trans s')
  rw [S.ok.eK] at z
  exact z
theorem ev_meth0 {Cc : Addr} {m : Str} {apos : Pos} {o : Expr} {ps : List Str} {sp : Prm} {j : Nat} (B : Mth M.C.P M.C.w M.C.K M.C.mg M.C.base Cc m ps sp j) (c : Cls M.C.K Cc) (hc : M.C.cm = true) (hj : j ≤ M.C.k)
    (h : Ev M G L o fun x L1 => ∃ fs, IsO L1 x Cc fs ∧ fs.lookup m = none ∧ Calls M G sp [x] L1 K)
    (ht : ∀ X : Cx, eval (.Call (.Attribute o m apos) [] [] pos) X.env = (eval o X.env >>= fun ov => standAt apos.atName >>= fun _ => holding [ov] (getMethod ov m (plOf o X)) >>= fun (f, first) => callWith pos f first (backTo pos (starEach [] X.env)) (backToKw pos (keywordEach [] X.env))) := by intro _; rfl) :
    Ev M G L (.Call (.Attribute o m apos) [] [] pos) K := by
  intro X S F σ H A Q q
  obtain ⟨W, tk, hk⟩ := S.tk
  obtain ⟨f, fd, ok, hm, bd⟩ := B.ex
  rw [S.ok.eP, S.ok.ew, S.ok.eK, S.ok.em, S.ok.eb] at ok
  rw [S.ok.eK] at hm bd c
  refine ge_meth0 (pl := plOf o X) (E := WE W) c hm ok (room_le S hc hj) bd (fun σ => passAt tk σ) (ht X) ?_
  refine h X S F σ H A _ fun x L1 v F1 H1 k1 A1 r1 s1 => ?_
  obtain ⟨fs, ho, hl, ha⟩ := k1
  obtain ⟨p, dx, ws, rfl, e1, e2⟩ := ho.get A1 r1
  refine ⟨p, dx, ws, rfl, e1, e2.lookup_none hl, ?_⟩
  have z := ha.tsp A1 (.cons r1 .nil) hk (Q := Q) fun d L' v F' H' k' A' r' s' => q d L' v F' H' k' A' r' (s1.trans s')
  rw [S.ok.eK] at z
  exact z
/-- e.f -/
theorem ev_fld {e : Expr} {f : Str} {Cc : Addr} (c : Cls M.C.K Cc) (n : NoAttr M.C.K Cc f) (h : Ev M G L e fun x L1 => ∃ fs d, IsO L1 x Cc fs ∧ fs.lookup f = some d ∧ K d L1)
    (hb : ∀ X : Cx, attributeBase e f X.env (eval e X.env) = eval e X.env := by intro _; rfl) : Ev M G L (.Attribute e f pos) K := by
  intro X S F σ H A Q q
  refine ⟨_, pe_fld be (hb X), ?_⟩
  refine h X S F σ H A _ fun x L1 v F1 H1 k1 A1 r1 s1 => ?_
  obtain ⟨fs, d, ho, hl, hk⟩ := k1
  obtain ⟨p, dx, ws, rfl, e1, e2⟩ := ho.get A1 r1
  obtain ⟨w, hw, rw'⟩ := e2.lookup hl
  rw [S.ok.eK] at c n
  exact ⟨p, Cc, dx, ws, w, rfl, e1, c, n, hw, q d L1 w F1 H1 hk A1 rw' s1⟩
/-- self.f = e, self an own instance -/
theorem run_fld {o e : Expr} {f : Str} {p : Pos} {rest : List Stmt} {E : TD} {Cc : Addr} (c : Cls M.C.K Cc) (n : NoAttr M.C.K Cc f)
    (h : Ev M G L e fun d L1 => Ev M G L1 o fun x L2 => ∃ l fs L3, x = .ref l ∧ Chg L2 l (.ins Cc fs) (.ins Cc (putD f d fs)) L3 ∧ fs.length < 1000 ∧ Run M G L3 rest E)
    (hs : ∀ X : Cx, swapsWith e (some (.Attribute o f p)) pos.line X.env = pure false := by intro _; rfl) : Run M G L (.Assign [.Attribute o f p] e pos :: rest) E := by
  intro X S F σ H A D o'
  refine gss_cons ⟨_, ps_fld be be (hs X), ?_⟩
  refine h X S F σ H A _ fun d L1 v F1 H1 k1 A1 r1 s1 => ?_
  refine k1 X S F1 σ H1 A1 _ fun x L2 u F2 H2 k2 A2 r2 s2 => ?_
  obtain ⟨l, fs, L3, rfl, ch, hlen, hr⟩ := k2
  cases r2
  obtain ⟨ow, f1, f2⟩ := A2.own _ ch.mem
  cases ow with
  | ins e1 e2 =>
    rename_i dx ws
    rw [S.ok.eK] at c n
    refine ⟨l, Cc, dx, ws, rfl, e1, c, n, by rw [← e2.length]; exact hlen, ?_⟩
    exact hr X S F2 σ _ (A2.chg ch (.ins upd_same (RepF.put (r1.mono s2) e2))) D o'
/-- C(..): a new own instance, __init__'s promise; what it leaves -/
structure Cla (P : Program) (w : World) (K : PySem.W.Frag) (mg : Str → Option Value) (base : Heap) (x : Str) (Cc : Addr) (ps : List Str) (sp : Prm) (j : Nat) : Prop where
  ex : ∃ (f : Addr) (fd : FuncData), Def P w K mg base j f fd ps sp ∧ mg x = some (.ref Cc) ∧ Mk K Cc f ∧ Binds K fd ps []
  kp : PySem.W.keepIn K (.ref Cc) = true

theorem run_makeS {X : Cx} {C f : Addr} {k : Nat} {fd : FuncData} {ps : List Str} {sp : Sp} {E : XK} {pins : List (Addr × Obj)} {σ : St} {H : Hp} {s : Shared} {Q : VK} {us : List Value} {vs : List V}
    (mk : Mk X.K C f) (ok : FnOk X.prog X.w X.K X.mg X.base (L2.CX X.prog X.w) k f fd ps sp) (hr : Room (k + 1) X.A) (bd : Binds X.K fd ps []) (hx : PassesAt (L2.CX X.prog X.w) X σ E) (I : Inv X pins σ H s) (r : Vals vs us)
    (h : ∀ x dx, H x = none → H dx = none → dx ≠ x → sp (.ref x :: vs) (upd (upd H dx (.own x)) x (.ins C dx [])) (fun v H2 => v = .non ∧ Q (.ref x) H2) E) :
    wpAny (model X.prog X.w) X.A (call (.ref C) us) (EP X pins σ Q) X.xe s := by
  generalize hn : s.heap.objs.size = n at *
  have fr : H (n + 1) = none := I.hok.fresh (by omega)
  have fr0 : H n = none := I.hok.fresh (by omega)
  have hq := h (n + 1) n fr fr0 (Nat.ne_of_lt (Nat.lt_succ_self n))
  have I2 := Inv.made (C := C) I
  rw [hn] at I2
  have rr : Vals (V.ref (n + 1) :: vs) (Value.ref (n + 1) :: us) := .cons rfl r
  have len : (Value.ref (n + 1) :: us).length = ps.length := rr.length.symm.trans (ok.len _ _ _ _ hq)
  have b := bd _ (Value.ref (n + 1) :: us) I2.kIn (by rw [List.append_nil]; exact len)
  rw [List.append_nil] at b
  refine wpAny_call (make_map (f := f) I.kIn mk.makes mk.init (beq_iff_eq.mp mk.fn) ?_)
  rw [hn]
  refine codeAny_mono (ok.run _ X.stack _ _ ⟨Value.ref (n + 1) :: us, []⟩ _ _ _ E (hr.make C us []) (I2.env0.make C us []) b rr hq) fun res s' hres => ?_
  match res, hres with
  | .error e, hres => exact hx pins _ _ e s' I2 hres
  | .ok (.ret u), hres =>
    obtain ⟨v, H', I3, rv, ev, q3⟩ := I2.after hres
    cases ev
    exact ⟨rv, ⟨V.ref (n + 1), H', I3, rfl, q3⟩⟩
  | .ok .next, hres => exact False.elim hres
  | .ok .brk, hres => exact False.elim hres
  | .ok .cont, hres => exact False.elim hres
theorem ev_make {x : Str} {p : Pos} {e : Expr} {es : List Expr} {ps : List Str} {sp : Prm} {j : Nat} {Cc : Addr} (B : Cla M.C.P M.C.w M.C.K M.C.mg M.C.base x Cc ps sp j) (hc : M.C.cm = true) (hj : j + 1 ≤ M.C.k) (hg : GlC M.C x)
    (h : EvA M G L (e :: es) fun ds L1 => ∀ l, Calls M G sp (.ref l :: ds) ((l, .ins Cc []) :: L1) fun d L' => d = .non ∧ K (.ref l) L') (hdb : (x == ("__debug__" : Str)) = false := by decide +kernel)
    (he : ∀ X : Cx, starEach (e :: es) X.env = (false, eval e X.env) :: starEach es X.env := by intro _; rfl) (hpl : ∀ X : Cx, (backTo pos (starEach es X.env)).any (·.1) = false := by intro _; rfl) : Ev M G L (.Call (.Name x p) (e :: es) [] pos) K := by
  intro X S F σ H A Q q
  obtain ⟨W, tk, hk⟩ := S.tk
  obtain ⟨f, fd, ok, hm, mk, bd⟩ := B.ex
  have kp := B.kp
  rw [S.ok.eP, S.ok.ew, S.ok.eK, S.ok.em, S.ok.eb] at ok
  rw [S.ok.eK] at mk bd kp
  have main : GA X (e :: es) σ H fun vs H1 => ∀ x dx, H1 x = none → H1 dx = none → dx ≠ x → TSp X.K sp (.ref x :: vs) (upd (upd H1 dx (.own x)) x (.ins Cc dx [])) (fun v H2 => v = .non ∧ Q (.ref x) H2) (WE W σ) := by
    refine h X S F σ H A _ fun ds L1 vs F1 H1 k1 A1 r1 s1 y dx hy hdx hne => ?_
    have A2 := A1.junk (o := .own y) hdx
    have A3 := A2.new (p := y) (o := .ins Cc dx []) (w := .ins Cc []) (by rw [upd_ne (Ne.symm hne)]; exact hy) (.ins upd_same .nil)
    have z := (k1 y).tsp A3 (.cons (.v _) r1) hk (Q := fun v H2 => v = .non ∧ Q (.ref y) H2) fun d L' v F' H' k' A' r' s' => by
      obtain ⟨rfl, k'⟩ := k'
      exact ⟨r'.flat, q _ L' _ F' H' k' A' (.v _) (s1.trans s')⟩
    rw [S.ok.eK] at z
    exact z
  refine ⟨fun σ' H' Q' => GA X (e :: es) σ' H' fun vs H1 => ∀ x dx, H1 x = none → H1 dx = none → dx ≠ x → TSp X.K sp (.ref x :: vs) (upd (upd H1 dx (.own x)) x (.ins Cc dx [])) (fun v H2 => v = .non ∧ Q' (.ref x) H2) (WE W σ'), ⟨fun pins s σ H Q I h => ?_⟩, main⟩
  refine wpAny_Call_Name_kw (ld_glob I (gl_of S hg) (mg_of S hm) ?_ hdb)
  refine PySem.W.callWith_K (h₀ := X.base) I.ok.mod.kin kp (thn (ba.run pos pins s σ H _ I h) fun us s1 hh => ?_) (he X) (hpl X)
  obtain ⟨vs, H1, I1, rv, hs⟩ := hh
  exact ⟨I1.kIn, run_makeS mk ok (room_le S hc hj) bd (passAt tk σ) I1 rv hs⟩

/-! ### the def -/
@[reducible] def ctxOf (P : Program) (w : World) (K : PySem.W.Frag) (mg : Str → Option Value) (base : Heap) (N : List Str) (st : Stmt) (k : Nat) : Ctx := ⟨P, w, K, mg, base, N, defScope st, k, fun _ => true, true, true⟩
end
def slotsOf (N : List Str) (ds : List D) : List (Option D) := ds.map some ++ List.replicate (N.length - ds.length) none
theorem slots_rep {K : PySem.W.Frag} {F : Hp} : ∀ {ds : List D} {vs : List V} (n : Nat), RepA K F ds vs → RepS K F (ds.map some ++ List.replicate n none) (vs.map some ++ List.replicate n none)
  | _, _, 0, .nil => .nil
  | _, _, n + 1, .nil => .any (slots_rep n (ds := []) .nil)
  | _, _, n, .cons r t => .val r (slots_rep n t)
/-- THE RULE for a def -/
theorem def_ok {P : Program} {w : World} {K : PySem.W.Frag} {mg : Str → Option Value} {base : Heap} {x qual : Str} {st : Stmt} {f : Addr} {fd : FuncData} {N ps : List Str} {k : Nat} {sp : Prm} (FF : Fun K x qual st f fd) (S : FnScope N ps (defScope st))
    (len : ∀ ds L KK KE, sp ds L KK KE → ds.length = ps.length)
    (body : ∀ ds L KK KE, sp ds L KK KE → ∀ H0 F0, Run ⟨ctxOf P w K mg base N st k, H0, F0, fun ex _ L' => KE ex L'⟩ (slotsOf N ds) L (defBody st) ⟨fun _ L' => KK .non L', KK, fun _ _ => False, fun _ _ => False⟩) :
    Def P w K mg base (k + 1) f fd ps sp := by
  refine FF.okX S (fun vs H Q E ⟨F, H0, ds, L, KK, KE, r, _, hs, _⟩ => by rw [← r.length]; exact len _ _ _ _ hs) (fun cdv A outer s H vs Q E hr h => ?_)
  obtain ⟨F, H0, ds, L, KK, KE, r, a, hs, hq, he⟩ := h
  have b := body ds L KK KE hs H0 F
  have ps_len : ds.length = ps.length := len _ _ _ _ hs
  refine b (cxOf (L2.CX P w) P w K mg base N qual (defScope st) f cdv A outer s H E) ⟨⟨rfl, rfl, rfl, rfl, rfl, rfl, rfl, fun _ => rfl, fun _ => hr, S.nd, fun _ _ => rfl, fun _ => passes_of rfl, fun _ => ⟨rfl, rfl⟩⟩, fun cls d _ H' => E cls d H', takes_of rfl rfl rfl rfl, fun ex G' L' F' σ' H' v d ht B hx => ?_⟩ F _ H (a.envOf ?_) _ ⟨fun G' L' F' σ' H' h' B => ?_, fun d G' L' v F' σ' H' h' B rr => ?_, fun _ _ _ _ _ h' _ => h'.elim, fun _ _ _ _ _ h' _ => h'.elim⟩
  · exact he ex L' F' H' v d ht (B.envOf .nil) hx
  · unfold slotsOf L2.start
    rw [← r.length]
    exact slots_rep _ r
  · exact hq _ L' _ F' H' h' (B.envOf .nil) (.v _)
  · exact hq d L' v F' H' h' (B.envOf .nil) rr

/-! ### exceptions -/
/-- an own class over ValueError, without an __init__ of its own -/
structure ExcC (K : PySem.W.Frag) (mg : Str → Option Value) (x : Str) (Cc : Addr) : Prop where
  q : PySem.W.excIn K Cc [.type "ValueError", .type "Exception", .type "BaseException", .type "object"] "ValueError.__new__" = true
  m : mg x = some (.ref Cc)
  kp : PySem.W.keepIn K (.ref Cc) = true
  sub : PySem.W.subIn K (.ref Cc) (.type "BaseException") = some true
  ty : PySem.W.typeIn K (.ref Cc) = some (.type "type")
section
variable {M : Mode} {G : List (Option D)} {L : Led} {pos : Pos} {rest : List Stmt} {E : TD}
theorem pmk_own0 {X : Cx} {C : Addr} {x : Str} {p : Pos} (q : PySem.W.excIn X.K C [.type "ValueError", .type "Exception", .type "BaseException", .type "object"] "ValueError.__new__" = true) (gC : X.mg x = some (.ref C)) (kC : PySem.W.keepIn X.K (.ref C) = true)
    (r : Raises X (.ref C)) (hg : Gl X x) (hdb : (x == ("__debug__" : Str)) = false := by decide +kernel) : PMk X (.Call (.Name x p) [] [] pos) (fun _ H Q => Q (.ref C) none H) := by
  intro pins s σ H Q I h
  refine wpAny_Call_Name_kw (ld_glob I hg gC (PySem.W.callWith_K0 I.kIn kC ?_) hdb)
  have hh := exc_obj I.kIn q
  obtain ⟨bm, N, nm, qn, bs, hdct, sn, sub, ab, col, dd, k0, k1, k2, k3, k5, mN, hC, hN, hni, T⟩ := hh
  refine wpAny_call_exc_subT PySem.F.excBase_ValueError T hC hN hni (fun h' e hm => mk_of I hm r h (I.hok.gone hm.new)) (Nat.zero_le _)
theorem run_raise0 {x : Str} {p p2 : Pos} {Cc : Addr} (B : ExcC M.C.K M.C.mg x Cc) (hc : M.C.cm = true) (hg : GlC M.C x) (h : M.T (.own Cc) G L) (hdb : (x == ("__debug__" : Str)) = false := by decide +kernel) : Run M G L (.Raise (some (.Call (.Name x p) [] [] p2)) none pos :: rest) E := by
  intro X S F σ H A D o
  obtain ⟨W, tk, hk⟩ := S.tk
  obtain ⟨q, m, kp, sub, ty⟩ := B
  rw [S.ok.eK] at q kp sub ty
  refine gss_cons ⟨_, ps_raise (S.ok.calm hc) tk (pmk_own0 q (mg_of S m) kp (raises_own sub ty) (gl_of S hg) hdb), ?_⟩
  exact hk _ G L F σ H _ _ h A .own
end
end TL

namespace TL
open PySem L2

/-! ### weaker states -/
section
variable {M : Mode} {G : List (Option D)} {L : Led} {K : D → Led → Prop} {pos : Pos} {ss : List Stmt} {E : TD}
theorem run_drop {L' : Led} (s : L'.Sublist L) (h : Run M G L' ss E) : Run M G L ss E := fun X S F σ H A D o => h X S F σ H (A.drop s) D o
theorem run_frz {x : Str} {p : Addr} {o : OW} {L' : Led} {G' : List (Option D)} (hl : Look M.C.N G x (some (.ref p))) (ho : Out L p o L') (hp : Put M.C.N G x (some o.frz) G') (h : Run M G' L' ss E) : Run M G L ss E := by
  intro X S F σ H A D e
  obtain ⟨F', A', s, r⟩ := A.freeze ho
  have nd : M.C.N.Nodup := S.ok.nd
  obtain ⟨i, hi, hg⟩ := hl.ix
  obtain ⟨j, hj, rfl⟩ := hp.ix
  have e1 : i = j := nodup_ix nd hi hj
  subst e1
  obtain ⟨v, hv, rv⟩ := A'.env.get hg
  cases rv
  have B := A'.set (i := i) r
  have e2 : σ.set i (some (.ref p)) = σ := by
    apply List.ext_getElem?
    intro n
    by_cases hn : i = n
    · subst hn
      rw [List.getElem?_set_self (List.getElem?_eq_some_iff.mp hv).1, hv]
    · rw [List.getElem?_set_ne hn]
  rw [e2] at B
  exact h X S F' σ H B D e
/-- slots forgotten -/
inductive Wkn : List (Option D) → List (Option D) → Prop
  | nil : Wkn [] []
  | same {d : Option D} {g g' : List (Option D)} : Wkn g g' → Wkn (d :: g) (d :: g')
  | drop {d : Option D} {g g' : List (Option D)} : Wkn g g' → Wkn (d :: g) (none :: g')
theorem Wkn.rep {K : PySem.W.Frag} {F : Hp} : ∀ {g g' : List (Option D)} {σ : St}, Wkn g g' → RepS K F g σ → RepS K F g' σ
  | _, _, _, .nil, h => h
  | _, _, _, .same w, .any t => .any (w.rep t)
  | _, _, _, .same w, .val r t => .val r (w.rep t)
  | _, _, _, .drop w, .any t => .any (w.rep t)
  | _, _, _, .drop w, .val r t => .any (w.rep t)
theorem run_weak {G' : List (Option D)} (w : Wkn G G') (h : Run M G' L ss E) : Run M G L ss E := fun X S F σ H A D o => h X S F σ H (A.envOf (w.rep A.env)) D o
theorem run_perm {L' : Led} (s : L.Perm L') (h : Run M G L' ss E) : Run M G L ss E := fun X S F σ H A D o =>
  h X S F σ H ⟨A.ef, A.eh, A.fh, A.nf, fun q hq => A.own q (s.symm.subset hq), (s.map _).nodup_iff.mp A.nd, A.env⟩ D o
/-- a datum and the ledger, made weaker: entries dropped, the own object itself frozen -/
theorem ev_drop {e : Expr} (h : Ev M G L e fun d L1 => ∃ L2 : Led, L2.Sublist L1 ∧ K d L2) : Ev M G L e K := fun X S F σ H A Q q =>
  h X S F σ H A Q fun d L1 v F1 H1 ⟨L2, s, k⟩ A1 r1 s1 => q d L2 v F1 H1 k (A1.drop s) r1 s1
theorem ev_frz {e : Expr} (h : Ev M G L e fun d L1 => ∃ p o L2, d = .ref p ∧ Out L1 p o L2 ∧ K o.frz L2) : Ev M G L e K := fun X S F σ H A Q q =>
  h X S F σ H A Q fun d L1 v F1 H1 ⟨p, o, L2, ed, ho, k⟩ A1 r1 s1 => by
    subst ed
    cases r1
    obtain ⟨F2, A2, s2, r2⟩ := A1.freeze ho
    exact q _ L2 _ F2 H1 k A2 r2 (s1.trans s2)

/-! ### list comprehensions -/
def wipeG (G : List (Option D)) : List Nat → List (Option D)
  | [] => G
  | v :: vs => (wipeG G vs).set v none
theorem wipe_rep {Kk : PySem.W.Frag} {F : Hp} {σ : St} (h : RepS Kk F G σ) : ∀ vs : List Nat, RepS Kk F (wipeG G vs) (wipe σ vs)
  | [] => h
  | v :: vs => (wipe_rep h vs).clear v
theorem wipe_len (σ : St) : ∀ vs : List Nat, (wipe σ vs).length = σ.length := wipe_length σ
theorem wipe_set {j : Nat} {a : Option V} : ∀ {vs : List Nat} {σ : St}, j ∈ vs → wipe (σ.set j a) vs = wipe σ vs
  | [], _, h => by cases h
  | v :: vs, σ, h => by
    show (wipe (σ.set j a) vs).set v none = (wipe σ vs).set v none
    by_cases hj : j ∈ vs
    · rw [wipe_set hj]
    · have e : j = v := (List.mem_cons.mp h).resolve_right hj
      subst e
      have out : ∀ (us : List Nat) (τ : St), j ∉ us → wipe (τ.set j a) us = (wipe τ us).set j a := by
        intro us
        induction us with
        | nil => intro τ _; rfl
        | cons u us ih =>
          intro τ hu
          show (wipe (τ.set j a) us).set u none = ((wipe τ us).set u none).set j a
          rw [ih τ (fun z => hu (List.mem_cons_of_mem _ z)), List.set_comm _ _ (fun z => hu (by rw [z]; exact List.mem_cons_self))]
      rw [out vs σ hj, List.set_set]
theorem wipe_wipe {vs : List Nat} (σ : St) : wipe (wipe σ vs) vs = wipe σ vs := by
  have go : ∀ us : List Nat, (∀ u ∈ us, u ∈ vs) → wipe (wipe σ us) vs = wipe σ vs := by
    intro us
    induction us with
    | nil => intro _; rfl
    | cons u us ih =>
      intro h
      show wipe ((wipe σ us).set u none) vs = _
      rw [wipe_set (h u List.mem_cons_self), ih fun z hz => h z (List.mem_cons_of_mem _ hz)]
  exact go vs fun _ h => h
/-- the mode of a comprehension's block -/
@[reducible] def Mode.blk (M : Mode) (scope : Scope) : Mode := { M with C := { M.C with sc := relS scope M.C.sc, df := fun x => scope.names.lookup x == some .cell, lp := false }, T := fun _ _ _ => False }
theorem Sit.blk {X : Cx} (S : Sit M X) {scope : Scope} {s : Shared} {H : Hp} {C : Addr} {cl : List (Str × Addr)} {fp : List Addr} : Sit (M.blk scope) (X.blk s H scope (compEnvC scope cl C X.env) fp) := by
  obtain ⟨⟨eP, ew, eK, em, eb, eN, es, calm, room, nd, fn, po, st⟩, _⟩ := S
  refine ⟨⟨eP, ew, eK, em, eb, eN, ?_, calm, room, nd, (fun x h => h), (fun h => nomatch h), (fun h => nomatch h)⟩, fun _ _ _ _ => False, takes0, fun _ _ _ _ _ _ _ _ h => h.elim⟩
  show relS scope M.C.sc = relS scope X.env.scope
  rw [es]
/-- a target of names, own ones of the block -/
def TgtN (M : Mode) (G : List (Option D)) (L : Led) (vs : List Nat) (tg : Expr) (d : D) (K : List (Option D) → Prop) : Prop :=
  ∀ X, Sit M X → ∀ F σ H v, M.at G L F σ H → Rep M.C.K F d v → ∀ Q : St → Hp → Prop, (∀ G' σ', K G' → M.at G' L F σ' H → wipe σ' vs = wipe σ vs → Q σ' H) → GG X tg v σ H Q
theorem tn_name {x : Str} {p : Pos} {d : D} {vs : List Nat} {i : Nat} {Kg : List (Option D) → Prop} (hx : Loc' M x) (hi : M.C.N[i]? = some x) (hv : i ∈ vs) (h : Kg (G.set i (some d))) : TgtN M G L vs (.Name x p) d Kg := by
  intro X S F σ H v A r Q q
  obtain ⟨hl, hf⟩ := hx.loc S
  rw [S.ok.eN] at hi
  refine ⟨_, pg_name (i := i) (by rw [← S.ok.eN]; exact S.ok.nd) hi hl hf, ?_⟩
  exact q _ _ h (A.set r) (wipe_set hv)
theorem tn_two {x y : Str} {p p2 p3 : Pos} {d e : D} {vs : List Nat} {i j kk : Nat} {Kg : List (Option D) → Prop} (hc : M.C.cm = true) (hx : Loc' M x) (hi : M.C.N[i]? = some x) (hv : i ∈ vs) (hy : Loc' M y) (hj : M.C.N[j]? = some y) (hw : j ∈ vs)
    (h : Kg ((G.set i (some d)).set j (some e))) : TgtN M G L vs (.Tuple [.Name x p, .Name y p2] kk p3) (.tup [d, e]) Kg := by
  intro X S F σ H v A r Q q
  obtain ⟨lx, fx⟩ := hx.loc S
  obtain ⟨ly, fy⟩ := hy.loc S
  rw [S.ok.eN] at hi hj
  have nd : X.N.Nodup := by rw [← S.ok.eN]; exact S.ok.nd
  obtain ⟨a, xs, rfl, h1, h2⟩ := tup_get A r
  cases h2 with
  | cons r1 t =>
    cases t with
    | cons r2 t =>
      cases t
      refine ⟨_, pg_tup (n := 2) (S.ok.calm hc) (pgs_cons (pg_name (i := i) nd hi lx fx) (pgs_cons (pg_name (i := j) nd hj ly fy) pgs_nil)), a, _, rfl, by rw [← S.ok.eK]; exact h1, rfl, _, _, rfl, _, _, rfl, rfl, ?_⟩
      exact q _ _ h ((A.set r1).set r2) ((wipe_set hw).trans (wipe_set hv))
/-- a clause's tests: none, or one -/
def TstI (M : Mode) (G : List (Option D)) (L : Led) (ifs : List Expr) (K : Bool → Led → Prop) : Prop := match ifs with
  | [] => K true L
  | [c] => Tst M G L c K
  | _ => False
theorem tstI_go {ifs : List Expr} {KB : Bool → Led → Prop} {M : Mode} {G : List (Option D)} {L : Led} (h : TstI M G L ifs KB) : ∀ X, Sit M X → ∀ F σ H, M.at G L F σ H → ∀ Q : Bool → Hp → Prop, (∀ b L' F' H', KB b L' → M.at G L' F' σ H' → Same F F' → Q b H') → ∃ t, PTs X ifs t ∧ t σ H Q := by
  intro X S F σ H A Q q
  match ifs, h with
  | [], h => exact ⟨_, pts_nil, q true L F H h A (Same.refl _)⟩
  | [c], h => exact ⟨_, pts_one bt, h X S F σ H A Q q⟩
/-- what follows the list: the invariant I by the turn, the list so far, the ledger -/
def LcInv (M : Mode) (G : List (Option D)) (vs : List Nat) (scope : Scope) (elt tg : Expr) (ifs : List Expr) (src : Led) (items : List D) (L1 : Led) (K : D → Led → Prop) : Prop :=
  ∃ I : Nat → List D → Led → Prop, I 0 [] L1 ∧ (∀ i acc L', I i acc L' → (∀ s ∈ src, s ∈ L') ∧ acc.length < sizeLine) ∧
    (∀ F1 Dl i d acc L', items[i]? = some d → I i acc L' → TgtN ((M.fix F1).blk scope) (wipeG G vs) ((Dl, .lst acc) :: L') vs tg d fun G2 => TstI ((M.fix F1).blk scope) G2 ((Dl, .lst acc) :: L') ifs fun b L2 =>
      (b = true → Ev ((M.fix F1).blk scope) G2 L2 elt fun y L3 => ∃ L4 : Led, ((Dl, OW.lst acc) :: L4).Sublist L3 ∧ I (i + 1) (acc ++ [y]) L4) ∧ (b = false → ∃ L4 : Led, ((Dl, OW.lst acc) :: L4).Sublist L2 ∧ I (i + 1) acc L4)) ∧
    ∀ acc L', I items.length acc L' → ∀ Dl, K (.ref Dl) ((Dl, .lst acc) :: L')
section
variable (X : Cx) (scope : Scope)
def gB (tg : Expr) : TG := fun v σ' H' Q' => ∀ s H C cl fp, GG (X.blk s H scope (compEnvC scope cl C X.env) fp) tg v σ' H' Q'
def tB (ifs : List Expr) : TT := fun σ' H' Q' => ∀ s H C cl fp, ∃ t, PTs (X.blk s H scope (compEnvC scope cl C X.env) fp) ifs t ∧ t σ' H' Q'
def eB (e : Expr) : TE := fun σ' H' Q' => ∀ s H C cl fp, GE (X.blk s H scope (compEnvC scope cl C X.env) fp) e σ' H' Q'
end
theorem gB_ok {X : Cx} {scope : Scope} {tg : Expr} (s : Shared) (H : Hp) (C : Addr) (cl : List (Str × Addr)) (fp : List Addr) : PG (X.blk s H scope (compEnvC scope cl C X.env) fp) tg (gB X scope tg) :=
  ⟨fun pins s' σ' H' v u Q' I r h' => bg.run pins s' σ' H' v u Q' I r (h' s H C cl fp)⟩
theorem tB_ok {X : Cx} {scope : Scope} {ifs : List Expr} (s : Shared) (H : Hp) (C : Addr) (cl : List (Str × Addr)) (fp : List Addr) : PTs (X.blk s H scope (compEnvC scope cl C X.env) fp) ifs (tB X scope ifs) :=
  ⟨fun pins s' σ' H' Q' I h' => by
    obtain ⟨t, p, ht⟩ := h' s H C cl fp
    exact p.run pins s' σ' H' Q' I ht⟩
theorem eB_ok {X : Cx} {scope : Scope} {e : Expr} (s : Shared) (H : Hp) (C : Addr) (cl : List (Str × Addr)) (fp : List Addr) : PE (X.blk s H scope (compEnvC scope cl C X.env) fp) e (eB X scope e) :=
  ⟨fun pins s' σ' H' Q' I h' => be.run pins s' σ' H' Q' I (h' s H C cl fp)⟩
theorem lc_go {X : Cx} {elt tg iter : Expr} {ifs : List Expr} {scope : Scope} {own : List (Str × Nat)} {σ : St} {H F : Hp} {Q : VK} (S : Sit M X) (hc : M.C.cm = true) (A : M.at G L F σ H)
    (h : EvI1 M G X F σ H tg iter fun src items L1 => LcInv M G (own.map (·.2)) scope elt tg ifs src items L1 K) (q : Post M G F σ K Q) :
    tLc (GI X tg iter) (gB X scope tg) (tB X scope ifs) (eB X scope elt) (own.map (·.2)) σ H Q := by
  refine h _ fun J src items L1 F1 H1 k1 g1 A1 s1 Dl hD => ?_
  obtain ⟨I, i0, isrc, turn, done⟩ := k1
  have S1 := S.fix A1
  have A1' : (M.fix F1).at G ((Dl, .lst []) :: L1) F1 σ (upd H1 Dl (.lst [])) := A1.fixed.new hD (.lst upd_same .nil)
  refine ⟨fun i m H' => m = items.length - i ∧ i ≤ items.length ∧ ∃ acc L' F', (M.fix F1).at G ((Dl, .lst acc) :: L') F' σ H' ∧ I i acc L', ⟨items.length, by simp, Nat.zero_le _, [], L1, F1, A1', i0⟩, ?_⟩
  rintro i m H' ⟨rfl, hi, acc, L', F', A', iv⟩
  obtain ⟨is1, is2⟩ := isrc i acc L' iv
  obtain ⟨q1, q2⟩ := g1 G _ F' σ H' A' (fun s hs => List.mem_cons_of_mem _ (is1 s hs)) i
  by_cases hlt : i < items.length
  · obtain ⟨go, yl⟩ := q1 items[i] (by simp [hlt])
    refine .inr ⟨go, fun H2 => ∃ acc L' F', (M.fix F1).at G ((Dl, .lst acc) :: L') F' σ H2 ∧ I (i + 1) acc L', fun H2 ⟨acc2, L2, F2, A2, iv2⟩ => ⟨items.length - (i + 1), by omega, rfl, hlt, acc2, L2, F2, A2, iv2⟩, fun x H2 y s0 Hz C cl fp => ?_⟩
    obtain ⟨F2, A2, r2⟩ := yl x H2 y
    have A2w : ((M.fix F1).blk scope).at (wipeG G (own.map (·.2))) ((Dl, .lst acc) :: L') F2 (wipe σ (own.map (·.2))) H2 := A2.envOf (wipe_rep A2.env _)
    refine turn F1 Dl i _ acc L' (by simp [hlt]) iv _ S1.blk F2 _ H2 x A2w r2 _ fun G3 σ3 k3 A3 hw => ?_
    have hww : wipe σ3 (own.map (·.2)) = wipe σ (own.map (·.2)) := hw.trans (wipe_wipe σ)
    refine ⟨hww, fun s0' Hz' C' cl' fp' => ?_⟩
    -- back to the slots of the comprehension's own frame
    have back : ∀ {L5 : Led} {F5 H5 : Hp}, ((M.fix F1).blk scope).at G3 L5 F5 σ3 H5 → Same F2 F5 → (M.fix F1).at G L5 F5 σ H5 := fun {L5 F5 H5} B s => ⟨B.ef, B.eh, B.fh, B.nf, B.own, B.nd, A2.env.mono s⟩
    refine tstI_go k3 _ S1.blk F2 σ3 H2 A3 _ fun b L4 F4 H4 k4 A4 s4 => ?_
    cases b with
    | true =>
      rw [if_pos rfl]
      intro s0'' Hz'' C'' cl'' fp''
      refine k4.1 rfl _ S1.blk F4 σ3 H4 A4 _ fun z L5 w F5 H5 k5 A5 r5 s5 => ?_
      obtain ⟨L6, sub, iv6⟩ := k5
      have A6 := (back A5 (s4.trans s5)).drop sub
      obtain ⟨ow, _, _⟩ := A6.own _ List.mem_cons_self
      cases ow with
      | lst e1 e2 =>
        rename_i ws
        refine ⟨ws, e1, by rw [← e2.length]; exact is2, ?_⟩
        exact ⟨acc ++ [z], L6, F5, A6.chg .here (.lst upd_same (e2.snoc r5)), iv6⟩
    | false =>
      rw [if_neg Bool.false_ne_true]
      obtain ⟨L6, sub, iv6⟩ := k4.2 rfl
      exact ⟨acc, L6, F4, (back A4 s4).drop sub, iv6⟩
  · have e : i = items.length := by omega
    subst e
    exact .inl ⟨q2 (Nat.le_refl _), q _ _ _ F' H' (done acc L' iv Dl) (A1.unfix A') (.v _) (s1.trans A'.ef)⟩
theorem ev_lc {elt tg iter : Expr} {ifs : List Expr} {scope : Scope} (own : List (Str × Nat)) (hc : M.C.cm = true) (ok : blkC M.C.N M.C.sc scope own = true)
    (h : EvI M G L tg iter fun src items L1 => LcInv M G (own.map (·.2)) scope elt tg ifs src items L1 K)
    (hs : ∀ (X : Cx) x, foldedSetIterable iter X.env x = pure x := by intro _ _; rfl) : Ev M G L (.ListComp elt [⟨tg, iter, ifs, 0⟩] scope pos) K := by
  intro X S F σ H A Q q
  refine ⟨_, pe_lc (S.ok.calm hc) (by rw [← S.ok.eN]; exact S.ok.nd) bi (by rw [← S.ok.eN, ← S.ok.es]; exact blkOk_by ok) gB_ok tB_ok eB_ok (hs X), ?_⟩
  exact lc_go S hc A (h X S F σ H A) q
/-- x = [..], the name a local -/
theorem run_setlc {x : Str} {p : Pos} {elt tg iter : Expr} {ifs : List Expr} {scope : Scope} {rest : List Stmt} {spos : Pos} (own : List (Str × Nat)) (hc : M.C.cm = true) (hx : M.C.sc.names.lookup x = some .local) (hn : x ∈ M.C.N) (ok : blkC M.C.N M.C.sc scope own = true)
    (h : EvI M G L tg iter fun src items L1 => LcInv M G (own.map (·.2)) scope elt tg ifs src items L1 fun d L2 => ∃ G', Put M.C.N G x (some d) G' ∧ Run M G' L2 rest E)
    (hkind : M.C.sc.kind = .function) (hl : (p.line == pos.line) = true) (ha : (scope.names.any fun (n, k) => n == x && (k == .local || k == .cell)) = false)
    (hs : ∀ (X : Cx) x, foldedSetIterable iter X.env x = pure x := by intro _ _; rfl) : Run M G L (.Assign [.Name x p] (.ListComp elt [⟨tg, iter, ifs, 0⟩] scope pos) spos :: rest) E := by
  intro X S F σ H A D o
  obtain ⟨i, hi⟩ := List.getElem?_of_mem hn
  have nd : X.N.Nodup := by rw [← S.ok.eN]; exact S.ok.nd
  have lx : X.env.scope.names.lookup x = some .local := by rw [← S.ok.es]; exact hx
  rw [S.ok.eN] at hi
  refine gss_cons ⟨_, ps_setLc (i := i) (S.ok.calm hc) nd hi lx (sw_true (by rw [← S.ok.es]; exact hkind) lx hl ha) bi (by rw [← S.ok.eN, ← S.ok.es]; exact blkOk_by ok) gB_ok tB_ok eB_ok (hs X), ?_⟩
  refine lc_go S hc A (h X S F σ H A) fun d L2 v F2 H2 k2 A2 r2 s2 => ?_
  obtain ⟨G', hp, hr⟩ := k2
  obtain ⟨j, hj, rfl⟩ := hp.ix
  rw [S.ok.eN] at hj
  have e : j = i := nodup_ix nd hj hi
  subst e
  exact hr X S F2 _ H2 (A2.set r2) D o
/-- items that are not asked of the ledger: which are kept, what each gives -/
theorem lc_pure {vs : List Nat} {scope : Scope} {elt tg : Expr} {ifs : List Expr} {src : Led} {items : List D} {L1 : Led} (p : D → Bool) (f : D → D) (hsz : items.length < sizeLine) (hsrc : ∀ s ∈ src, s ∈ L1)
    (turn : ∀ F1 Dl d acc, d ∈ items → TgtN ((M.fix F1).blk scope) (wipeG G vs) ((Dl, .lst acc) :: L1) vs tg d fun G2 => TstI ((M.fix F1).blk scope) G2 ((Dl, .lst acc) :: L1) ifs fun b L2 =>
      b = p d ∧ ((Dl, OW.lst acc) :: L1).Sublist L2 ∧ (p d = true → Ev ((M.fix F1).blk scope) G2 L2 elt fun y L3 => y = f d ∧ ((Dl, OW.lst acc) :: L1).Sublist L3))
    (hk : ∀ Dl, K (.ref Dl) ((Dl, .lst ((items.filter p).map f)) :: L1)) : LcInv M G vs scope elt tg ifs src items L1 K := by
  refine ⟨fun i acc L' => i ≤ items.length ∧ L' = L1 ∧ acc = ((items.take i).filter p).map f, ⟨Nat.zero_le _, rfl, rfl⟩, fun i acc L' ⟨h1, h2, h3⟩ => ⟨by rw [h2]; exact hsrc, ?_⟩, fun F1 Dl i d acc L' hd ⟨h1, h2, h3⟩ => ?_, fun acc L' ⟨h1, h2, h3⟩ Dl => ?_⟩
  · rw [h3, List.length_map]
    exact Nat.lt_of_le_of_lt (Nat.le_trans (List.length_filter_le _ _) (by rw [List.length_take]; omega)) hsz
  · subst h2
    have hlt := (List.getElem?_eq_some_iff.mp hd).1
    have tk : items.take (i + 1) = items.take i ++ [d] := by rw [List.take_succ, hd]; rfl
    intro X S F σ H v A r Q q
    refine turn F1 Dl d acc (List.mem_of_getElem? hd) X S F σ H v A r Q fun G' σ' k A' w => q G' σ' ?_ A' w
    have step : ∀ {b : Bool} {L2 : Led}, (b = p d ∧ ((Dl, OW.lst acc) :: L').Sublist L2 ∧ (p d = true → Ev ((M.fix F1).blk scope) G' L2 elt fun y L3 => y = f d ∧ ((Dl, OW.lst acc) :: L').Sublist L3)) →
        ((b = true → Ev ((M.fix F1).blk scope) G' L2 elt fun y L3 => ∃ L4 : Led, ((Dl, OW.lst acc) :: L4).Sublist L3 ∧ i + 1 ≤ items.length ∧ L4 = L' ∧ acc ++ [y] = ((items.take (i + 1)).filter p).map f) ∧
          (b = false → ∃ L4 : Led, ((Dl, OW.lst acc) :: L4).Sublist L2 ∧ i + 1 ≤ items.length ∧ L4 = L' ∧ acc = ((items.take (i + 1)).filter p).map f)) := by
      rintro b L2 ⟨rfl, s2, he⟩
      refine ⟨fun hb => (he hb).imp fun y L3 ⟨ey, s3⟩ => ⟨L', s3, hlt, rfl, ?_⟩, fun hb => ⟨L', s2, hlt, rfl, ?_⟩⟩
      · rw [tk, List.filter_append, List.map_append, h3, List.filter_cons, if_pos hb, ey]
        rfl
      · rw [tk, List.filter_append, List.map_append, h3, List.filter_cons, if_neg (by rw [hb]; decide)]
        simp
    match ifs, k with
    | [], k => exact step k
    | [c], k => exact fun X S F σ H A Q q => k X S F σ H A Q fun b L2 F2 H2 kb => q b L2 F2 H2 (step kb)
  · subst h2
    rw [List.take_length] at h3
    rw [h3]
    exact hk Dl
end
end TL

namespace TL
open PySem L2

section
variable {M : Mode} {G : List (Option D)} {L : Led} {K : D → Led → Prop} {pos : Pos}
/-! ### built-ins, called by name -/
theorem ev_blt {x : Str} {id : String} {p : Pos} {e : Expr} {es : List Expr} (hg : GlC M.C x) (hm : M.C.mg x = none) (hv : bootBuiltins x = some (.builtin id)) (h : EvA M G L (e :: es) fun ds L1 => CallV M G L1 (.builtin id) ds K) (hn : x ≠ "__name__" := by decide +kernel) (hdb : (x == ("__debug__" : Str)) = false := by decide +kernel)
    (he : ∀ X : Cx, starEach (e :: es) X.env = (false, eval e X.env) :: starEach es X.env := by intro _; rfl) (hpl : ∀ X : Cx, (backTo pos (starEach es X.env)).any (·.1) = false := by intro _; rfl) : Ev M G L (.Call (.Name x p) (e :: es) [] pos) K := by
  intro X S F σ H A Q q
  refine ⟨_, pe_callB bc (gl_of S hg) (mg_of S hm) hv ba hn hdb (he X) (hpl X), ?_⟩
  refine h X S F σ H A _ fun ds L1 vs F1 H1 k1 A1 r1 s1 => ?_
  exact k1 X S F1 σ H1 vs A1 r1 Q fun d L' v F' H' k' A' r' s' => q d L' v F' H' k' A' r' (s1.trans s')
theorem ev_blty {x : Str} {id : String} {p : Pos} {e : Expr} {es : List Expr} (hg : GlC M.C x) (hm : M.C.mg x = none) (hv : bootBuiltins x = some (.type id)) (h : EvA M G L (e :: es) fun ds L1 => CallV M G L1 (.type id) ds K) (hn : x ≠ "__name__" := by decide +kernel) (hdb : (x == ("__debug__" : Str)) = false := by decide +kernel)
    (he : ∀ X : Cx, starEach (e :: es) X.env = (false, eval e X.env) :: starEach es X.env := by intro _; rfl) (hpl : ∀ X : Cx, (backTo pos (starEach es X.env)).any (·.1) = false := by intro _; rfl) : Ev M G L (.Call (.Name x p) (e :: es) [] pos) K := by
  intro X S F σ H A Q q
  refine ⟨_, pe_callTy bc (gl_of S hg) (mg_of S hm) hv ba hn hdb (he X) (hpl X), ?_⟩
  refine h X S F σ H A _ fun ds L1 vs F1 H1 k1 A1 r1 s1 => ?_
  exact k1 X S F1 σ H1 vs A1 r1 Q fun d L' v F' H' k' A' r' s' => q d L' v F' H' k' A' r' (s1.trans s')
/-- a built-in class as a value -/
theorem ev_tyn {x : Str} {id : String} (hg : GlC M.C x) (hm : M.C.mg x = none) (hv : bootBuiltins x = some (.type id)) (h : K (.v (.ty id)) L) (hn : x ≠ "__name__" := by decide +kernel) (hdb : (x == ("__debug__" : Str)) = false := by decide +kernel) : Ev M G L (.Name x pos) K :=
  fun X S F σ H A Q q => ⟨_, pe_bltn (v := .ty id) (gl_of S hg) (mg_of S hm) hv rfl hn hdb, q _ L _ F H h A (.v _) (Same.refl _)⟩
theorem reps1 {Kk : PySem.W.Frag} {F : Hp} {d : D} {vs : List V} (r : RepA Kk F [d] vs) : ∃ v, vs = [v] ∧ Rep Kk F d v := by
  cases r with
  | cons r t => cases t; exact ⟨_, rfl, r⟩
theorem reps2 {Kk : PySem.W.Frag} {F : Hp} {d e : D} {vs : List V} (r : RepA Kk F [d, e] vs) : ∃ v u, vs = [v, u] ∧ Rep Kk F d v ∧ Rep Kk F e u := by
  cases r with
  | cons r t =>
    obtain ⟨u, rfl, r2⟩ := reps1 t
    exact ⟨_, u, rfl, r, r2⟩
theorem cv_lenQ {x : D} {ds : List D} (hx : IsSq L x ds) (h : K (.int ds.length) L) : CallV M G L (.builtin "len") [x] K := by
  intro X S F σ H vs A r Q q
  obtain ⟨v, rfl, rr⟩ := reps1 r
  obtain ⟨p, ws, rfl, h1, h2⟩ := hx.get A rr
  refine ⟨_, call_len_seq, p, ws, rfl, by rw [← S.ok.eK]; exact h1, ?_⟩
  rw [← h2.length]
  exact q _ L _ F H h A (.v _) (Same.refl _)
theorem cv_lenS {z : Str} (hz : z.length ≤ sizeLine) (h : K (.int z.length) L) : CallV M G L (.builtin "len") [.str z] K := by
  intro X S F σ H vs A r Q q
  obtain ⟨v, rfl, rr⟩ := reps1 r
  cases rr
  exact ⟨_, call_len_str, z, rfl, hz, q _ L _ F H h A (.v _) (Same.refl _)⟩
theorem lenK_R {X : Cx} : CallR X (.builtin "len") (fun xs H Q => ∃ a kvs, xs = [V.ref a] ∧ Rd H a (.dK kvs) ∧ Q (.int kvs.length) H) := by
  intro pins s σ H xs us Q I r h
  obtain ⟨a, kvs, rfl, e, q⟩ := h
  obtain ⟨u, rfl, ru⟩ := vals1 r
  cases ru
  exact d_len I e fun t s' I' => ⟨.int kvs.length, H, I', ⟨t, rfl⟩, q⟩
theorem cv_lenK {x : D} {kvs : List (Key × D)} (hx : IsK L x kvs) (h : K (.int kvs.length) L) : CallV M G L (.builtin "len") [x] K := by
  intro X S F σ H vs A r Q q
  obtain ⟨v, rfl, rr⟩ := reps1 r
  obtain ⟨p, ws, rfl, h1, h2⟩ := hx.get A rr
  refine ⟨_, lenK_R, p, ws, rfl, h1, ?_⟩
  rw [← h2.length]
  exact q _ L _ F H h A (.v _) (Same.refl _)
/-- lists of bools, of ints, of texts, as data -/
def boolD : D → Bool
  | .v (.bl b) => b
  | _ => false
def isBl : D → Bool
  | .v (.bl _) => true
  | _ => false
def intD : D → Int
  | .v (.int b) => b
  | _ => 0
def isInt : D → Bool
  | .v (.int _) => true
  | _ => false
def strD : D → Str
  | .v (.str b) => b
  | _ => Str.empty
def isStr : D → Bool
  | .v (.str _) => true
  | _ => false
theorem reps_bl {Kk : PySem.W.Frag} {F : Hp} : ∀ {ds : List D} {vs : List V}, RepA Kk F ds vs → ds.all isBl = true → vs = (ds.map boolD).map V.bl
  | _, _, .nil, _ => rfl
  | d :: ds, _, .cons r t, h => by
    rw [List.all_cons, Bool.and_eq_true] at h
    match d, r, h with
    | .v (.bl b), r, h => rw [r.flat, reps_bl t h.2]; rfl
theorem reps_int {Kk : PySem.W.Frag} {F : Hp} : ∀ {ds : List D} {vs : List V}, RepA Kk F ds vs → ds.all isInt = true → vs = (ds.map intD).map V.int
  | _, _, .nil, _ => rfl
  | d :: ds, _, .cons r t, h => by
    rw [List.all_cons, Bool.and_eq_true] at h
    match d, r, h with
    | .v (.int b), r, h => rw [r.flat, reps_int t h.2]; rfl
theorem reps_str {Kk : PySem.W.Frag} {F : Hp} : ∀ {ds : List D} {vs : List V}, RepA Kk F ds vs → ds.all isStr = true → vs = (ds.map strD).map V.str
  | _, _, .nil, _ => rfl
  | d :: ds, _, .cons r t, h => by
    rw [List.all_cons, Bool.and_eq_true] at h
    match d, r, h with
    | .v (.str b), r, h => rw [r.flat, reps_str t h.2]; rfl
theorem cv_all {x : D} {ds : List D} (hc : M.C.cm = true) (hx : IsL L x ds) (hb : ds.all isBl = true) (h : K (.bl (ds.all boolD)) L) : CallV M G L (.builtin "all") [x] K := by
  intro X S F σ H vs A r Q q
  obtain ⟨v, rfl, rr⟩ := reps1 r
  obtain ⟨p, ws, rfl, h1, h2⟩ := hx.get A rr
  have e := reps_bl h2 hb
  subst e
  refine ⟨_, cr_all (S.ok.calm hc), p, _, rfl, SqL.of h1, ?_⟩
  have e : (ds.map boolD).all id = ds.all boolD := by rw [List.all_map]; rfl
  rw [e]
  exact q _ L _ F H h A (.v _) (Same.refl _)
theorem cv_any {x : D} {ds : List D} (hc : M.C.cm = true) (hx : IsL L x ds) (hb : ds.all isBl = true) (h : K (.bl (ds.any boolD)) L) : CallV M G L (.builtin "any") [x] K := by
  intro X S F σ H vs A r Q q
  obtain ⟨v, rfl, rr⟩ := reps1 r
  obtain ⟨p, ws, rfl, h1, h2⟩ := hx.get A rr
  have e := reps_bl h2 hb
  subst e
  refine ⟨_, cr_any (S.ok.calm hc), p, _, rfl, SqL.of h1, ?_⟩
  have e : (ds.map boolD).any id = ds.any boolD := by rw [List.any_map]; rfl
  rw [e]
  exact q _ L _ F H h A (.v _) (Same.refl _)
theorem cv_sum {x : D} {ds : List D} (hc : M.C.cm = true) (hx : IsL L x ds) (hb : ds.all isInt = true) (h : K (.int (ds.map intD).sum) L) : CallV M G L (.builtin "sum") [x] K := by
  intro X S F σ H vs A r Q q
  obtain ⟨v, rfl, rr⟩ := reps1 r
  obtain ⟨p, ws, rfl, h1, h2⟩ := hx.get A rr
  have e := reps_int h2 hb
  subst e
  exact ⟨_, cr_sum (S.ok.calm hc), p, _, rfl, SqL.of h1, q _ L _ F H h A (.v _) (Same.refl _)⟩
theorem cv_max {x : D} {ds : List D} (hc : M.C.cm = true) (hx : IsL L x ds) (hb : ds.all isInt = true) (hl : 0 < ds.length) (h : ∀ m, m ∈ ds.map intD → (∀ y, y ∈ ds.map intD → y ≤ m) → K (.int m) L) : CallV M G L (.builtin "max") [x] K := by
  intro X S F σ H vs A r Q q
  obtain ⟨v, rfl, rr⟩ := reps1 r
  obtain ⟨p, ws, rfl, h1, h2⟩ := hx.get A rr
  have e := reps_int h2 hb
  subst e
  exact ⟨_, cr_max (S.ok.calm hc), p, _, rfl, SqL.of h1, by simpa using hl, fun m hm hle => q _ L _ F H (h m hm hle) A (.v _) (Same.refl _)⟩
theorem cv_min {x : D} {ds : List D} (hc : M.C.cm = true) (hx : IsL L x ds) (hb : ds.all isInt = true) (hl : 0 < ds.length) (h : ∀ m, m ∈ ds.map intD → (∀ y, y ∈ ds.map intD → m ≤ y) → K (.int m) L) : CallV M G L (.builtin "min") [x] K := by
  intro X S F σ H vs A r Q q
  obtain ⟨v, rfl, rr⟩ := reps1 r
  obtain ⟨p, ws, rfl, h1, h2⟩ := hx.get A rr
  have e := reps_int h2 hb
  subst e
  exact ⟨_, cr_min (S.ok.calm hc), p, _, rfl, SqL.of h1, by simpa using hl, fun m hm hle => q _ L _ F H (h m hm hle) A (.v _) (Same.refl _)⟩
theorem cv_max2 {i j : Int} (hc : M.C.cm = true) (h : K (.int (max i j)) L) : CallV M G L (.builtin "max") [.int i, .int j] K := by
  intro X S F σ H vs A r Q q
  obtain ⟨v, u, rfl, r1, r2⟩ := reps2 r
  cases r1; cases r2
  refine ⟨_, call_max2 (S.ok.calm hc), i, j, rfl, ?_⟩
  have e : (if j > i then j else i) = max i j := by rw [Int.max_def]; split <;> split <;> omega
  rw [e]
  exact q _ L _ F H h A (.v _) (Same.refl _)
theorem cv_min2 {i j : Int} (hc : M.C.cm = true) (h : K (.int (min i j)) L) : CallV M G L (.builtin "min") [.int i, .int j] K := by
  intro X S F σ H vs A r Q q
  obtain ⟨v, u, rfl, r1, r2⟩ := reps2 r
  cases r1; cases r2
  refine ⟨_, call_min2 (S.ok.calm hc), i, j, rfl, ?_⟩
  have e : (if j < i then j else i) = min i j := by rw [Int.min_def]; split <;> split <;> omega
  rw [e]
  exact q _ L _ F H h A (.v _) (Same.refl _)
theorem cv_strI {i : Int} (hi : i.natAbs.log2 < 1920) (h : K (.str (toString i)) L) : CallV M G L (.type "str") [.int i] K := by
  intro X S F σ H vs A r Q q
  obtain ⟨v, rfl, rr⟩ := reps1 r
  cases rr
  exact ⟨_, call_str_int, i, rfl, hi, q _ L _ F H h A (.v _) (Same.refl _)⟩
theorem cv_intI {i : Int} (h : K (.int i) L) : CallV M G L (.type "int") [.int i] K := by
  intro X S F σ H vs A r Q q
  obtain ⟨v, rfl, rr⟩ := reps1 r
  cases rr
  exact ⟨_, call_int1, .inl ⟨i, rfl, q _ L _ F H h A (.v _) (Same.refl _)⟩⟩
theorem cv_intB {b : Bool} (h : K (.int (if b then 1 else 0)) L) : CallV M G L (.type "int") [.bl b] K := by
  intro X S F σ H vs A r Q q
  obtain ⟨v, rfl, rr⟩ := reps1 r
  cases rr
  exact ⟨_, call_int1, .inr ⟨b, rfl, q _ L _ F H h A (.v _) (Same.refl _)⟩⟩
theorem cv_intS {z : Str} {n : Int} (hn : PySem.intText? z = some n) (hl : z.length ≤ 640) (h : K (.int n) L) : CallV M G L (.type "int") [.str z] K := by
  intro X S F σ H vs A r Q q
  obtain ⟨v, rfl, rr⟩ := reps1 r
  cases rr
  exact ⟨_, call_int_str, z, n, rfl, hn, hl, q _ L _ F H h A (.v _) (Same.refl _)⟩
/-- tuple(list): new, frozen; tuple(tuple): itself -/
theorem cv_tupL {x : D} {ds : List D} (hx : IsL L x ds) (h : K (.tup ds) L) : CallV M G L (.type "tuple") [x] K := by
  intro X S F σ H vs A r Q q
  obtain ⟨v, rfl, rr⟩ := reps1 r
  obtain ⟨p, ws, rfl, h1, h2⟩ := hx.get A rr
  refine ⟨_, call_tuple_of, p, ws, rfl, .inl ⟨SqL.of h1, fun l hl => ?_⟩⟩
  obtain ⟨A2, s2⟩ := A.ice (o := .tup ws) hl
  exact q _ L _ _ _ h A2 (.tup (.inl (.inl upd_same)) (h2.mono s2)) s2
theorem cv_tupT {ds : List D} (h : K (.tup ds) L) : CallV M G L (.type "tuple") [.tup ds] K := by
  intro X S F σ H vs A r Q q
  obtain ⟨v, rfl, rr⟩ := reps1 r
  obtain ⟨p, ws, rfl, h1, h2⟩ := tup_get A rr
  exact ⟨_, call_tuple_of, p, ws, rfl, .inr ⟨by rw [← S.ok.eK]; exact h1, q _ L _ F H h A rr (Same.refl _)⟩⟩
theorem cv_list {x : D} {ds : List D} (hx : IsSq L x ds) (h : ∀ p, K (.ref p) ((p, .lst ds) :: L)) : CallV M G L (.type "list") [x] K := by
  intro X S F σ H vs A r Q q
  obtain ⟨v, rfl, rr⟩ := reps1 r
  obtain ⟨p, ws, rfl, h1, h2⟩ := hx.get A rr
  refine ⟨_, call_list_of, p, ws, rfl, by rw [← S.ok.eK]; exact h1, fun l hl => ?_⟩
  exact q _ _ _ F _ (h l) (A.new hl (.lst upd_same h2)) (.v _) (Same.refl _)
theorem cv_listQ {ds : List D} (h : ∀ p, K (.ref p) ((p, .lst ds) :: L)) : CallV M G L (.type "list") [.sq ds] K := by
  intro X S F σ H vs A r Q q
  obtain ⟨v, rfl, rr⟩ := reps1 r
  cases rr with
  | sq h1 h2 =>
    refine ⟨_, call_list_of, _, _, rfl, .inl (by rw [← S.ok.eK]; exact A.fh.seq h1), fun l hl => ?_⟩
    exact q _ _ _ F _ (h l) (A.new hl (.lst upd_same h2)) (.v _) (Same.refl _)
theorem dcopy_R {X : Cx} : CallR X (.type "dict") (fun xs H Q => ∃ a kvs, xs = [V.ref a] ∧ Rd H a (.dK kvs) ∧ ∀ p, H p = none → Q (.ref p) (upd H p (.dK kvs))) := by
  intro pins s σ H xs us Q I r h
  obtain ⟨a, kvs, rfl, e, q⟩ := h
  obtain ⟨u, rfl, ru⟩ := vals1 r
  cases ru
  exact d_copyOf I e fun p s' hp I' => ⟨.ref p, _, I', rfl, q p hp⟩
theorem cv_dcopy {x : D} {kvs : List (Key × D)} (hx : IsK L x kvs) (h : ∀ p, K (.ref p) ((p, .dK kvs) :: L)) : CallV M G L (.type "dict") [x] K := by
  intro X S F σ H vs A r Q q
  obtain ⟨v, rfl, rr⟩ := reps1 r
  obtain ⟨p, ws, rfl, h1, h2⟩ := hx.get A rr
  exact ⟨_, dcopy_R, p, ws, rfl, h1, fun l hl => q _ _ _ F _ (h l) (A.new hl (.dK upd_same h2)) (.v _) (Same.refl _)⟩
/-! ### isinstance -/
/-- what isinstance asks of an own class whose instances are told apart -/
structure ClsI (K : PySem.W.Frag) (C : Addr) : Prop where
  cl : Cls K C
  ha : PySem.W.findIn K (.ref C) "__class__" = some (some (.builtin "object.__class__"))
  hn : PySem.W.specialIn K (.builtin "object.__class__") "__get__" = some (some (.builtin "getset_descriptor.__get__"))
  htk : PySem.W.takesIn K (.builtin "object.__class__") = some true
  hm : PySem.W.mroIn K C (.type "object") = some true
inductive TyD (K : PySem.W.Frag) (L : Led) : D → Value → Prop
  | non : TyD K L .non (.type "NoneType")
  | bl {b : Bool} : TyD K L (.bl b) (.type "bool")
  | int {b : Int} : TyD K L (.int b) (.type "int")
  | str {b : Str} : TyD K L (.str b) (.type "str")
  | tup {ds : List D} : TyD K L (.tup ds) (.type "tuple")
  | lst {x : D} {ds : List D} : IsL L x ds → TyD K L x (.type "list")
  | dK {x : D} {ds : List (Key × D)} : IsK L x ds → TyD K L x (.type "dict")
  | dT {ds : List (List Key × D)} {l : Addr} : (l, OW.dT ds) ∈ L → TyD K L (.ref l) (.type "dict")
  | ob {x : D} {C : Addr} {fs : List (Str × D)} : IsO L x C fs → ClsI K C → TyD K L x (.ref C)
theorem TyD.get {Kk : PySem.W.Frag} {H0 F0 F H : Hp} {σ : St} {x : D} {v : V} {t : Value} (h : TyD Kk L x t) (A : At Kk H0 F0 G L F σ H) (r : Rep Kk F x v) : TyX Kk H v t := by
  cases h with
  | non => cases r; exact .base .non
  | bl => cases r; exact .base (.bl _)
  | int => cases r; exact .base (.int _)
  | str => cases r; exact .base (.str _)
  | tup =>
    obtain ⟨p, vs, rfl, h1, _⟩ := tup_get A r
    rcases h1 with (h1 | ⟨o, h1⟩) | ⟨o, its, n, h1, h2, _⟩
    · exact .base (.tup h1)
    · exact .fTuple h1
    · exact .kTuple h1 h2
  | lst h =>
    obtain ⟨p, vs, rfl, h1, _⟩ := h.get A r
    exact .base (.lst h1)
  | dK h =>
    obtain ⟨p, vs, rfl, h1, _⟩ := h.get A r
    rcases h1 with h1 | ⟨o, h1⟩
    · exact .base (.dK h1)
    · exact .fDict h1
  | dT h =>
    cases r
    obtain ⟨o, _⟩ := A.own _ h
    cases o with
    | dT h1 _ => exact .base (.dT h1)
  | ob h c =>
    obtain ⟨p, dx, ws, rfl, h1, _⟩ := h.get A r
    exact .base (.ins h1 c.cl c.ha c.hn c.htk c.hm)
theorem cv_isTy {x : D} {t : Value} {n : String} {b : Bool} (hx : TyD M.C.K L x t) (hk : PySem.W.kitOne M.C.K t (.type n) = some b) (h : K (.bl b) L) : CallV M G L (.builtin "isinstance") [x, .v (.ty n)] K := by
  intro X S F σ H vs A r Q q
  obtain ⟨v, u, rfl, r1, r2⟩ := reps2 r
  cases r2
  have ty := hx.get A r1
  rw [S.ok.eK] at ty hk
  exact ⟨_, call_isi, v, .ty n, t, .type n, b, rfl, .ty n, ty, hk, q _ L _ F H h A (.v _) (Same.refl _)⟩
theorem cv_isCl {x : D} {t : Value} {C : Addr} {b : Bool} (hx : TyD M.C.K L x t) (hk : PySem.W.kitOne M.C.K t (.ref C) = some b) (h : K (.bl b) L) : CallV M G L (.builtin "isinstance") [x, .ref C] K := by
  intro X S F σ H vs A r Q q
  obtain ⟨v, u, rfl, r1, r2⟩ := reps2 r
  cases r2
  have ty := hx.get A r1
  rw [S.ok.eK] at ty hk
  exact ⟨_, call_isi, v, .ref C, t, .ref C, b, rfl, .own C, ty, hk, q _ L _ F H h A (.v _) (Same.refl _)⟩
/-! ### truth -/
theorem tr_non : TruD M G L .non false := fun F σ H v A r => by cases r; rfl
theorem tr_bl {b : Bool} : TruD M G L (.bl b) b := fun F σ H v A r => by cases r; rfl
theorem tr_int {i : Int} : TruD M G L (.int i) (i != 0) := fun F σ H v A r => by cases r; rfl
theorem tr_Q {x : D} {ds : List D} (hx : IsSq L x ds) : TruD M G L x (!ds.isEmpty) := fun F σ H v A r => by
  obtain ⟨p, vs, rfl, h1, h2⟩ := hx.get A r
  have e : ds.isEmpty = vs.isEmpty := by
    cases h2 <;> rfl
  rcases h1 with h1 | h1
  · exact .inl ⟨vs, h1, by rw [e]⟩
  · exact .inr (.inl ⟨vs, h1, by rw [e]⟩)
/-! ### methods of built-in types -/
theorem ev_bm0 {T id : String} {name : Str} {apos : Pos} {o : Expr} (pa : PlainAttrs T) (slot : Slot T name id) (hty : typeOf (.builtin id) = pure (.type "method_descriptor"))
    (h : Ev M G L o fun x L1 => (∀ F σ H v, M.at G L1 F σ H → Rep M.C.K F x v → tyV M.C.K T v H) ∧ MtV M G L1 id x [] K) (hbase : ∀ X : Cx, attributeBase o name X.env (eval o X.env) = eval o X.env := by intro _; rfl) (hline : (apos.endLine == pos.line) = true := by rfl) :
    Ev M G L (.Call (.Attribute o name apos) [] [] pos) K := by
  intro X S F σ H A Q q
  refine ⟨_, pe_bm0 pa slot hty bm be (hbase X) hline, ?_⟩
  refine h X S F σ H A _ fun x L1 v F1 H1 k1 A1 r1 s1 => ⟨by rw [← S.ok.eK]; exact k1.1 F1 σ H1 v A1 r1, ?_⟩
  exact k1.2 X S F1 σ H1 v [] A1 r1 .nil Q fun d L' v F' H' k' A' r' s' => q d L' v F' H' k' A' r' (s1.trans s')
theorem ev_bm {T id : String} {name : Str} {apos : Pos} {o e : Expr} {es : List Expr} (pa : PlainAttrs T) (slot : Slot T name id) (hty : typeOf (.builtin id) = pure (.type "method_descriptor"))
    (h : Ev M G L o fun x L1 => (∀ F σ H v, M.at G L1 F σ H → Rep M.C.K F x v → tyV M.C.K T v H) ∧ EvA M G L1 (e :: es) fun ds L2 => MtV M G L2 id x ds K) (hbase : ∀ X : Cx, attributeBase o name X.env (eval o X.env) = eval o X.env := by intro _; rfl)
    (hfew : ∀ X : Cx, ((backTo pos (starEach (e :: es) X.env)).all (fun x => !x.1) && (backToKw pos (keywordEach [] X.env)).all (fun x => x.1.isSome) && decide ((e :: es).length + ([] : List Keyword).length + (if ([] : List Keyword).isEmpty then 0 else 1) < 30)) = true := by intro _; rfl)
    (hline : (apos.endLine == pos.line) = true := by rfl) (hs : ∀ X : Cx, starEach (e :: es) X.env = (false, eval e X.env) :: starEach es X.env := by intro _; rfl) (hpl : ∀ X : Cx, (backTo pos (starEach es X.env)).any (·.1) = false := by intro _; rfl) :
    Ev M G L (.Call (.Attribute o name apos) (e :: es) [] pos) K := by
  intro X S F σ H A Q q
  refine ⟨_, pe_bm pa slot hty bm be ba (hbase X) (hfew X) hline (hs X) (hpl X), ?_⟩
  refine h X S F σ H A _ fun x L1 v F1 H1 k1 A1 r1 s1 => ⟨by rw [← S.ok.eK]; exact k1.1 F1 σ H1 v A1 r1, ?_⟩
  refine k1.2 X S F1 σ H1 A1 _ fun ds L2 vs F2 H2 k2 A2 r2 s2 => ?_
  exact k2 X S F2 σ H2 v vs A2 (r1.mono s2) r2 Q fun d L' v F' H' k' A' r' s' => q d L' v F' H' k' A' r' ((s1.trans s2).trans s')
theorem ty_lst {x : D} {ds : List D} (hx : IsL L x ds) : ∀ F σ H v, M.at G L F σ H → Rep M.C.K F x v → tyV M.C.K "list" v H := fun F σ H v A r => by
  obtain ⟨p, vs, rfl, h1, _⟩ := hx.get A r
  exact .inl ⟨rfl, vs, SqL.of h1⟩
theorem ty_str {z : Str} : ∀ F σ H v, M.at G L F σ H → Rep M.C.K F (.str z) v → tyV M.C.K "str" v H := fun F σ H v A r => by
  cases r
  rfl
/-- l.append(e) -/
theorem ev_append {apos : Pos} {o e : Expr} (h : Ev M G L o fun x L1 => ∃ l ds0, x = .ref l ∧ (l, OW.lst ds0) ∈ L1 ∧ Ev M G L1 e fun d L2 => ∃ ds L3, Chg L2 l (.lst ds) (.lst (ds ++ [d])) L3 ∧ ds.length < sizeLine ∧ K .non L3) (hbase : ∀ X : Cx, attributeBase o "append" X.env (eval o X.env) = eval o X.env := by intro _; rfl)
    (hfew : ∀ X : Cx, ((backTo pos (starEach [e] X.env)).all (fun x => !x.1) && (backToKw pos (keywordEach [] X.env)).all (fun x => x.1.isSome) && decide (([e] : List Expr).length + ([] : List Keyword).length + (if ([] : List Keyword).isEmpty then 0 else 1) < 30)) = true := by intro _; rfl)
    (hline : (apos.endLine == pos.line) = true := by rfl) (hs : ∀ X : Cx, starEach [e] X.env = (false, eval e X.env) :: starEach [] X.env := by intro _; rfl) : Ev M G L (.Call (.Attribute o "append" apos) [e] [] pos) K := by
  refine ev_bm PySem.F.plainAttrs_list PySem.F.slot_list_append PySem.F.type_list_append (h.imp fun x L1 ⟨l, ds0, ex, hm, h2⟩ => ?_) hbase hfew hline hs
  subst ex
  refine ⟨ty_lst (.own hm), ea_cons (h2.imp fun d L2 ⟨ds, L3, ch, hl, hk⟩ => ea_nil ?_) hs⟩
  intro X S F σ H v vs A r rs Q q
  cases r
  obtain ⟨y, rfl, ry⟩ := reps1 rs
  obtain ⟨ow, _, _⟩ := A.own _ ch.mem
  cases ow with
  | lst e1 e2 =>
    rename_i ws
    exact ⟨_, mt_append, l, ws, y, rfl, rfl, e1, by rw [← e2.length]; exact hl, q _ L3 _ F _ hk (A.chg ch (.lst upd_same (e2.snoc ry))) (.v _) (Same.refl _)⟩
/-- l.pop() -/
theorem ev_pop {apos : Pos} {o : Expr} (h : Ev M G L o fun x L1 => ∃ l ds d L2, x = .ref l ∧ Chg L1 l (.lst ds) (.lst ds.dropLast) L2 ∧ ds[ds.length - 1]? = some d ∧ K d L2) (hbase : ∀ X : Cx, attributeBase o "pop" X.env (eval o X.env) = eval o X.env := by intro _; rfl)
    (hline : (apos.endLine == pos.line) = true := by rfl) : Ev M G L (.Call (.Attribute o "pop" apos) [] [] pos) K := by
  refine ev_bm0 PySem.F.plainAttrs_list PySem.F.slot_list_pop PySem.F.type_list_pop (h.imp fun x L1 ⟨l, ds, d, L2, ex, ch, hd, hk⟩ => ?_) hbase hline
  subst ex
  refine ⟨ty_lst (.own ch.mem), ?_⟩
  intro X S F σ H v vs A r rs Q q
  cases r
  cases rs
  obtain ⟨ow, _, _⟩ := A.own _ ch.mem
  cases ow with
  | lst e1 e2 =>
    rename_i ws
    rw [e2.length] at hd
    obtain ⟨w, hw, rw'⟩ := e2.get hd
    refine ⟨_, mt_pop, l, ws, w, rfl, rfl, e1, hw, q _ L2 _ F _ hk (A.chg ch (.lst upd_same ?_)) rw' (Same.refl _)⟩
    rw [List.dropLast_eq_take, List.dropLast_eq_take, e2.length]
    exact e2.take _
/-- l.pop(0) -/
theorem ev_pop0 {apos p0 : Pos} {j : Nat} {o : Expr} (h : Ev M G L o fun x L1 => ∃ l d ds L2, x = .ref l ∧ Chg L1 l (.lst (d :: ds)) (.lst ds) L2 ∧ K d L2) (hbase : ∀ X : Cx, attributeBase o "pop" X.env (eval o X.env) = eval o X.env := by intro _; rfl)
    (hline : (apos.endLine == pos.line) = true := by rfl) : Ev M G L (.Call (.Attribute o "pop" apos) [.Constant (.int 0) j p0] [] pos) K := by
  refine ev_bm PySem.F.plainAttrs_list PySem.F.slot_list_pop PySem.F.type_list_pop (h.imp fun x L1 ⟨l, d, ds, L2, ex, ch, hk⟩ => ?_) hbase (fun _ => rfl) hline (fun _ => rfl) (fun _ => rfl)
  subst ex
  refine ⟨ty_lst (.own ch.mem), ea_cons (ev_int (ea_nil ?_)) (fun _ => rfl)⟩
  intro X S F σ H v vs A r rs Q q
  cases r
  obtain ⟨y, rfl, ry⟩ := reps1 rs
  cases ry
  obtain ⟨ow, _, _⟩ := A.own _ ch.mem
  cases ow with
  | lst e1 e2 =>
    cases e2 with
    | cons r1 t =>
      rename_i w ws
      refine ⟨_, mt_popAt, l, w :: ws, 0, 0, w, rfl, rfl, e1, by decide, by decide, ?_, rfl, q _ L2 _ F _ hk (A.chg ch (.lst upd_same t)) r1 (Same.refl _)⟩
      simp [seqIndex?]
/-- texts -/
theorem ev_split {apos : Pos} {o e : Expr} (h : Ev M G L o fun x L1 => ∃ a, x = .str a ∧ Ev M G L1 e fun y L2 => ∃ b, y = .str b ∧ (b.length == 0) = false ∧ a.length + 2 ≤ sizeLine ∧ ∀ p, K (.ref p) ((p, .lst ((Txt.split a b).map D.str)) :: L2))
    (hs : ∀ X : Cx, starEach [e] X.env = [(false, eval e X.env)] := by intro _; rfl) (hbase : ∀ X : Cx, attributeBase o "split" X.env (eval o X.env) = eval o X.env := by intro _; rfl) (hline : (apos.endLine == pos.line) = true := by rfl) :
    Ev M G L (.Call (.Attribute o "split" apos) [e] [] pos) K := by
  intro X S F σ H A Q q
  refine ⟨_, pe_split be be (hs X) (hbase X) hline, ?_⟩
  refine h X S F σ H A _ fun x L1 v F1 H1 k1 A1 r1 s1 => ?_
  obtain ⟨a, rfl, k1⟩ := k1
  cases r1
  refine ⟨⟨a, rfl⟩, ?_⟩
  refine k1 X S F1 σ H1 A1 _ fun y L2 u F2 H2 k2 A2 r2 s2 => ?_
  obtain ⟨b, rfl, h1, h2, hk⟩ := k2
  cases r2
  refine ⟨a, b, rfl, rfl, h1, h2, fun p hp => q _ _ _ F2 _ (hk p) (A2.new hp (.lst upd_same ?_)) (.v _) (s1.trans s2)⟩
  have e := RepA.of_flats (K := M.C.K) (F := F2) ((Txt.split a b).map V.str)
  rw [List.map_map] at e
  exact e
theorem ev_join {apos : Pos} {o e : Expr} (h : Ev M G L o fun x L1 => ∃ a, x = .str a ∧ Ev M G L1 e fun y L2 => ∃ ds, IsSq L2 y ds ∧ ds.all isStr = true ∧ ((ds.map strD).map (·.length)).sum + (ds.map strD).length * a.length ≤ 16777216 ∧ K (.str (Txt.join a (ds.map strD))) L2)
    (hs : ∀ X : Cx, starEach [e] X.env = [(false, eval e X.env)] := by intro _; rfl) (hbase : ∀ X : Cx, attributeBase o "join" X.env (eval o X.env) = eval o X.env := by intro _; rfl) (hline : (apos.endLine == pos.line) = true := by rfl) :
    Ev M G L (.Call (.Attribute o "join" apos) [e] [] pos) K := by
  intro X S F σ H A Q q
  refine ⟨_, pe_join be be (hs X) (hbase X) hline, ?_⟩
  refine h X S F σ H A _ fun x L1 v F1 H1 k1 A1 r1 s1 => ?_
  obtain ⟨a, rfl, k1⟩ := k1
  cases r1
  refine ⟨⟨a, rfl⟩, ?_⟩
  refine k1 X S F1 σ H1 A1 _ fun y L2 u F2 H2 k2 A2 r2 s2 => ?_
  obtain ⟨ds, hy, h1, h2, hk⟩ := k2
  obtain ⟨p, vs, rfl, h3, h4⟩ := hy.get A2 r2
  have e := reps_str h4 h1
  subst e
  exact ⟨a, p, _, rfl, rfl, by rw [← S.ok.eK]; exact h3, h2, q _ L2 _ F2 H2 hk A2 (.v _) (s1.trans s2)⟩
/-! ### slices -/
theorem ev_sl {e : Expr} {lo hi : Option Expr} {p2 : Pos} (h : Ev M G L e fun x L1 => EvP M G L1 lo fun i L2 => EvP M G L2 hi fun j L3 => SlV M G L3 x i j K) : Ev M G L (.Subscript e (.Slice lo hi none p2) pos) K := by
  intro X S F σ H A Q q
  have key : ∀ (F : Hp) (H : Hp) (x : D) (L1 : Led), M.at G L1 F σ H → EvP M G L1 lo (fun i L2 => EvP M G L2 hi fun j L3 => SlV M G L3 x i j K) → ∀ v, Rep M.C.K F x v → (∀ d L' v F' H', K d L' → M.at G L' F' σ H' → Rep M.C.K F' d v → Same F F' → Q v H') →
      (∃ tl, PO X lo tl ∧ tl σ H fun l H2 => ∃ th, PO X hi th ∧ th σ H2 fun u H3 => GSl X v l u H3 Q) := by
    intro F H x L1 A1 k1 v r1 q
    obtain ⟨tl, pl, hl⟩ := k1.go X S
    refine ⟨tl, pl, hl F σ H A1 _ fun i L2 F2 H2 k2 A2 s2 => ?_⟩
    obtain ⟨th, ph, hh⟩ := k2.go X S
    refine ⟨th, ph, hh F2 σ H2 A2 _ fun j L3 F3 H3 k3 A3 s3 => ?_⟩
    exact k3 X S F3 σ H3 v A3 (r1.mono (s2.trans s3)) Q fun d L' v F' H' k' A' r' s' => q d L' v F' H' k' A' r' ((s2.trans s3).trans s')
  refine ⟨tSl (GSl X) (GE X e) (fun σ H Q => ∃ t, PO X lo t ∧ t σ H Q) (fun σ H Q => ∃ t, PO X hi t ∧ t σ H Q), pe_slice bsl be ⟨fun pins s σ H Q I ⟨t, h, q⟩ => h.run pins s σ H Q I q⟩ ⟨fun pins s σ H Q I ⟨t, h, q⟩ => h.run pins s σ H Q I q⟩, ?_⟩
  refine h X S F σ H A _ fun x L1 v F1 H1 k1 A1 r1 s1 => ?_
  exact key F1 H1 x L1 A1 k1 v r1 fun d L' v F' H' k' A' r' s' => q d L' v F' H' k' A' r' (s1.trans s')
/-- the items of xs[lo:hi] -/
def cutD (xs : List D) (lo hi : Option Int) : List D := (xs.drop (HT.sIx xs.length 0 lo)).take (HT.sIx xs.length xs.length hi - HT.sIx xs.length 0 lo)
theorem sl_L {x : D} {ds : List D} {lo hi : Option Int} (hx : IsL L x ds) (h : ∀ p, K (.ref p) ((p, .lst (cutD ds lo hi)) :: L)) : SlV M G L x lo hi K := by
  intro X S F σ H v A r Q q
  obtain ⟨p, vs, rfl, h1, h2⟩ := hx.get A r
  refine ⟨_, sl_list, p, vs, rfl, SqL.of h1, fun l hl => q _ _ _ F _ (h l) (A.new hl (.lst upd_same ?_)) (.v _) (Same.refl _)⟩
  unfold cutD cutV
  rw [h2.length]
  exact (h2.drop _).take _
theorem sl_T {ds : List D} {lo hi : Option Int} (h : K (.tup (cutD ds lo hi)) L) : SlV M G L (.tup ds) lo hi K := by
  intro X S F σ H v A r Q q
  obtain ⟨p, vs, rfl, h1, h2⟩ := tup_get A r
  have e : RepA M.C.K F (cutD ds lo hi) (cutV vs lo hi) := by
    unfold cutD cutV
    rw [h2.length]
    exact (h2.drop _).take _
  refine ⟨_, sl_tupA, p, vs, rfl, by rw [← S.ok.eK]; exact h1, fun hw => ?_, fun hw l hl => ?_⟩
  · refine q _ L _ F H h A ?_ (Same.refl _)
    have ec : cutD ds lo hi = ds := by
      unfold cutD
      rw [h2.length, hw.1, hw.2, List.drop_zero, Nat.sub_zero, ← h2.length, List.take_length]
    rw [ec]
    exact r
  · obtain ⟨A2, s2⟩ := A.ice (o := .tup (cutV vs lo hi)) hl
    exact q _ L _ _ _ h A2 (.tup (.inl (.inl upd_same)) (e.mono s2)) s2
end
end TL

namespace TL
open PySem L2
theorem kt_int_int {K : PySem.W.Frag} : PySem.W.kitOne K (.type "int") (.type "int") = some true := kit_ty (by decide +kernel)
theorem kt_int_bool {K : PySem.W.Frag} : PySem.W.kitOne K (.type "int") (.type "bool") = some false := kit_ty (by decide +kernel)
theorem kt_bool_int {K : PySem.W.Frag} : PySem.W.kitOne K (.type "bool") (.type "int") = some true := kit_ty (by decide +kernel)
theorem kt_bool_bool {K : PySem.W.Frag} : PySem.W.kitOne K (.type "bool") (.type "bool") = some true := kit_ty (by decide +kernel)
theorem kt_str_str {K : PySem.W.Frag} : PySem.W.kitOne K (.type "str") (.type "str") = some true := kit_ty (by decide +kernel)
theorem kt_int_str {K : PySem.W.Frag} : PySem.W.kitOne K (.type "int") (.type "str") = some false := kit_ty (by decide +kernel)
theorem kt_str_int {K : PySem.W.Frag} : PySem.W.kitOne K (.type "str") (.type "int") = some false := kit_ty (by decide +kernel)
theorem kt_tuple_tuple {K : PySem.W.Frag} : PySem.W.kitOne K (.type "tuple") (.type "tuple") = some true := kit_ty (by decide +kernel)
theorem kt_nonetype_tuple {K : PySem.W.Frag} : PySem.W.kitOne K (.type "NoneType") (.type "tuple") = some false := kit_ty (by decide +kernel)
theorem kt_list_tuple {K : PySem.W.Frag} : PySem.W.kitOne K (.type "list") (.type "tuple") = some false := kit_ty (by decide +kernel)
theorem kt_dict_dict {K : PySem.W.Frag} : PySem.W.kitOne K (.type "dict") (.type "dict") = some true := kit_ty (by decide +kernel)
theorem kt_list_list {K : PySem.W.Frag} : PySem.W.kitOne K (.type "list") (.type "list") = some true := kit_ty (by decide +kernel)
theorem kt_tuple_list {K : PySem.W.Frag} : PySem.W.kitOne K (.type "tuple") (.type "list") = some false := kit_ty (by decide +kernel)
theorem kt_dict_list {K : PySem.W.Frag} : PySem.W.kitOne K (.type "dict") (.type "list") = some false := kit_ty (by decide +kernel)
theorem kt_list_dict {K : PySem.W.Frag} : PySem.W.kitOne K (.type "list") (.type "dict") = some false := kit_ty (by decide +kernel)
theorem kt_nonetype_list {K : PySem.W.Frag} : PySem.W.kitOne K (.type "NoneType") (.type "list") = some false := kit_ty (by decide +kernel)
theorem kt_nonetype_dict {K : PySem.W.Frag} : PySem.W.kitOne K (.type "NoneType") (.type "dict") = some false := kit_ty (by decide +kernel)
theorem kt_tuple_dict {K : PySem.W.Frag} : PySem.W.kitOne K (.type "tuple") (.type "dict") = some false := kit_ty (by decide +kernel)
theorem kt_str_tuple {K : PySem.W.Frag} : PySem.W.kitOne K (.type "str") (.type "tuple") = some false := kit_ty (by decide +kernel)
theorem kt_str_list {K : PySem.W.Frag} : PySem.W.kitOne K (.type "str") (.type "list") = some false := kit_ty (by decide +kernel)
theorem kt_str_dict {K : PySem.W.Frag} : PySem.W.kitOne K (.type "str") (.type "dict") = some false := kit_ty (by decide +kernel)
theorem kt_int_tuple {K : PySem.W.Frag} : PySem.W.kitOne K (.type "int") (.type "tuple") = some false := kit_ty (by decide +kernel)
theorem kt_int_list {K : PySem.W.Frag} : PySem.W.kitOne K (.type "int") (.type "list") = some false := kit_ty (by decide +kernel)
theorem kt_int_dict {K : PySem.W.Frag} : PySem.W.kitOne K (.type "int") (.type "dict") = some false := kit_ty (by decide +kernel)
theorem kt_dict_tuple {K : PySem.W.Frag} : PySem.W.kitOne K (.type "dict") (.type "tuple") = some false := kit_ty (by decide +kernel)
theorem kt_str_bool {K : PySem.W.Frag} : PySem.W.kitOne K (.type "str") (.type "bool") = some false := kit_ty (by decide +kernel)
theorem kt_nonetype_int {K : PySem.W.Frag} : PySem.W.kitOne K (.type "NoneType") (.type "int") = some false := kit_ty (by decide +kernel)
theorem kt_nonetype_str {K : PySem.W.Frag} : PySem.W.kitOne K (.type "NoneType") (.type "str") = some false := kit_ty (by decide +kernel)
theorem kt_nonetype_bool {K : PySem.W.Frag} : PySem.W.kitOne K (.type "NoneType") (.type "bool") = some false := kit_ty (by decide +kernel)
theorem kt_tuple_int {K : PySem.W.Frag} : PySem.W.kitOne K (.type "tuple") (.type "int") = some false := kit_ty (by decide +kernel)
theorem kt_tuple_str {K : PySem.W.Frag} : PySem.W.kitOne K (.type "tuple") (.type "str") = some false := kit_ty (by decide +kernel)
theorem kt_tuple_bool {K : PySem.W.Frag} : PySem.W.kitOne K (.type "tuple") (.type "bool") = some false := kit_ty (by decide +kernel)
theorem kt_list_int {K : PySem.W.Frag} : PySem.W.kitOne K (.type "list") (.type "int") = some false := kit_ty (by decide +kernel)
theorem kt_list_str {K : PySem.W.Frag} : PySem.W.kitOne K (.type "list") (.type "str") = some false := kit_ty (by decide +kernel)
theorem kt_list_bool {K : PySem.W.Frag} : PySem.W.kitOne K (.type "list") (.type "bool") = some false := kit_ty (by decide +kernel)
theorem kt_dict_int {K : PySem.W.Frag} : PySem.W.kitOne K (.type "dict") (.type "int") = some false := kit_ty (by decide +kernel)
theorem kt_dict_str {K : PySem.W.Frag} : PySem.W.kitOne K (.type "dict") (.type "str") = some false := kit_ty (by decide +kernel)
theorem kt_dict_bool {K : PySem.W.Frag} : PySem.W.kitOne K (.type "dict") (.type "bool") = some false := kit_ty (by decide +kernel)
theorem kt_bool_str {K : PySem.W.Frag} : PySem.W.kitOne K (.type "bool") (.type "str") = some false := kit_ty (by decide +kernel)
theorem kt_bool_tuple {K : PySem.W.Frag} : PySem.W.kitOne K (.type "bool") (.type "tuple") = some false := kit_ty (by decide +kernel)
theorem kt_bool_list {K : PySem.W.Frag} : PySem.W.kitOne K (.type "bool") (.type "list") = some false := kit_ty (by decide +kernel)
theorem kt_bool_dict {K : PySem.W.Frag} : PySem.W.kitOne K (.type "bool") (.type "dict") = some false := kit_ty (by decide +kernel)
def biNames : List Str := ["len", "isinstance", "range", "int", "str", "all", "any", "min", "max", "tuple", "list", "dict", "zip", "enumerate", "sum", "sorted", "bool"]
structure Bi (mg : Str → Option Value) : Prop where
  h : ∀ {x : Str}, biNames.contains x = true → mg x = none
/-! what a kernel's look decides -/
def visB (sc : Scope) (x : Str) : Bool := match sc.names.lookup x with
  | some .local => true
  | some .cell => true
  | some .free => true
  | _ => false
theorem vis_of {sc : Scope} {x : Str} (h : visB sc x = true) : Vis sc x := by
  unfold visB at h
  unfold Vis
  split at h
  · rename_i e; exact .inl e
  · rename_i e; exact .inr (.inl e)
  · rename_i e; exact .inr (.inr e)
  · cases h
theorem gl_by {C : Ctx} {x : Str} (h : C.sc.names.lookup x = some .globalImplicit) : GlC C x := h
def locB (sc : Scope) (df : Str → Bool) (x : Str) : Bool := match sc.names.lookup x with
  | some .local => true
  | some .cell => df x
  | _ => false
theorem loc_of {M : Mode} {x : Str} (h : locB M.C.sc M.C.df x = true) : Loc' M x := by
  unfold locB at h
  split at h
  · rename_i e; exact .inl e
  · rename_i e; exact .inr ⟨e, h⟩
  · cases h
theorem mem_of {N : List Str} {x : Str} (h : N.contains x = true) : x ∈ N := by simpa using h
end TL

namespace TL
open PySem L2
section
variable {M : Mode} {G : List (Option D)} {L : Led} {K : D → Led → Prop} {pos : Pos} {rest : List Stmt} {E : TD}
/-! ### dicts -/
/-- d[k] = e -/
theorem run_dput {o i e : Expr} {p : Pos} (hc : M.C.cm = true) (h : Ev M G L e fun d L1 => Ev M G L1 o fun x L2 => Ev M G L2 i fun y L3 => ∃ l kvs k L4, x = .ref l ∧ y = .v (kV k) ∧ Chg L3 l (.dK kvs) (.dK (putE kvs k d)) L4 ∧ kvs.length < sizeLine ∧ Run M G L4 rest E)
    (hs : ∀ X : Cx, swapsWith e (some (.Subscript o i p)) pos.line X.env = pure false := by intro _; rfl) : Run M G L (.Assign [.Subscript o i p] e pos :: rest) E := by
  intro X S F σ H A D o'
  refine gss_cons ⟨_, ps_dput (sit_hu S hc) be be be (hs X), ?_⟩
  refine h X S F σ H A _ fun d L1 v F1 H1 k1 A1 r1 s1 => ?_
  refine k1 X S F1 σ H1 A1 _ fun x L2 u F2 H2 k2 A2 r2 s2 => ?_
  refine k2 X S F2 σ H2 A2 _ fun y L3 w F3 H3 k3 A3 r3 s3 => ?_
  obtain ⟨l, kvs, k, L4, rfl, rfl, ch, hl, hr⟩ := k3
  cases r2; cases r3
  obtain ⟨ow, _, _⟩ := A3.own _ ch.mem
  cases ow with
  | dK e1 e2 =>
    rename_i ws
    refine ⟨l, _, rfl, DPut.k e1 (by rw [← e2.length]; exact hl), ?_⟩
    exact hr X S F3 σ _ (A3.chg ch (.dK upd_same (e2.put k (r1.mono (s2.trans s3))))) D o'
/-- {} -/
theorem ev_dnew (h : ∀ p, K (.ref p) ((p, .dK []) :: L)) : Ev M G L (.Dict [] [] pos) K := fun X S F σ H A Q q =>
  ⟨_, pe_dnewK, fun p hp => q _ _ _ F _ (h p) (A.new hp (.dK upd_same .nil)) (.v _) (Same.refl _)⟩
/-- d.get(k) -/
theorem ev_get1 {apos : Pos} {o e : Expr} (hc : M.C.cm = true) (h : Ev M G L o fun x L1 => ∃ kvs, IsK L1 x kvs ∧ Ev M G L1 e fun y L2 => ∃ k, IsK L2 x kvs ∧ y = .v (kV k) ∧ K ((valD kvs k).getD .non) L2)
    (m : ∀ X : Cx, M1 X o "get" apos e pos) : Ev M G L (.Call (.Attribute o "get" apos) [e] [] pos) K := by
  intro X S F σ H A Q q
  refine ⟨_, pe_dget1 (sit_hu S hc) be be (m X), ?_⟩
  refine h X S F σ H A _ fun x L1 v F1 H1 k1 A1 r1 s1 => ?_
  obtain ⟨kvs, hx, k1⟩ := k1
  obtain ⟨p, ws, rfl, h1, h2⟩ := hx.get A1 r1
  refine ⟨p, rfl, .inl ⟨ws, h1⟩, ?_⟩
  refine k1 X S F1 σ H1 A1 _ fun y L2 u F2 H2 k2 A2 r2 s2 => ?_
  obtain ⟨k, hx2, rfl, hk⟩ := k2
  cases r2
  obtain ⟨p', ws', e', h3, h4⟩ := hx2.get A2 (r1.mono s2)
  cases e'
  refine ⟨valV ws' k, .inl ⟨ws', k, h3, rfl, rfl⟩, ?_⟩
  refine q _ L2 _ F2 H2 hk A2 ?_ (s1.trans s2)
  obtain ⟨z1, z2⟩ := h4.val k
  cases e : valD kvs k with
  | none => rw [z2 e]; exact .v _
  | some d => obtain ⟨w, hw, rw'⟩ := z1 d e; rw [hw]; exact rw'
/-- d.get(k, x) -/
theorem ev_get2 {apos : Pos} {o e f : Expr} (hc : M.C.cm = true) (h : Ev M G L o fun x L1 => ∃ kvs, IsK L1 x kvs ∧ Ev M G L1 e fun y L2 => Ev M G L2 f fun z L3 => ∃ k, IsK L3 x kvs ∧ y = .v (kV k) ∧ K ((valD kvs k).getD z) L3)
    (m : ∀ X : Cx, M2 X o "get" apos e f pos) : Ev M G L (.Call (.Attribute o "get" apos) [e, f] [] pos) K := by
  intro X S F σ H A Q q
  refine ⟨_, pe_dget2 (sit_hu S hc) be be be (m X), ?_⟩
  refine h X S F σ H A _ fun x L1 v F1 H1 k1 A1 r1 s1 => ?_
  obtain ⟨kvs, hx, k1⟩ := k1
  obtain ⟨p, ws, rfl, h1, h2⟩ := hx.get A1 r1
  refine ⟨p, rfl, .inl ⟨ws, h1⟩, ?_⟩
  refine k1 X S F1 σ H1 A1 _ fun y L2 u F2 H2 k2 A2 r2 s2 => ?_
  refine k2 X S F2 σ H2 A2 _ fun z L3 w F3 H3 k3 A3 r3 s3 => ?_
  obtain ⟨k, hx2, rfl, hk⟩ := k3
  cases r2
  obtain ⟨p', ws', e', h3, h4⟩ := hx2.get A3 (r1.mono (s2.trans s3))
  cases e'
  refine ⟨valV ws' k, .inl ⟨ws', k, h3, rfl, rfl⟩, ?_⟩
  refine q _ L3 _ F3 H3 hk A3 ?_ ((s1.trans s2).trans s3)
  obtain ⟨z1, z2⟩ := h4.val k
  cases e : valD kvs k with
  | none => rw [z2 e]; exact r3
  | some d => obtain ⟨w, hw, rw'⟩ := z1 d e; rw [hw]; exact rw'
/-- {k: v, ..}, written -/
def EvPs (M : Mode) (G : List (Option D)) : List (Option Expr) → List Expr → Led → (List (D × D) → Led → Prop) → Prop
  | some k :: ks, v :: vs, L, KP => Ev M G L k fun x L1 => Ev M G L1 v fun y L2 => EvPs M G ks vs L2 fun ps L3 => KP ((x, y) :: ps) L3
  | [], [], L, KP => KP [] L
  | _, _, _, _ => False
inductive RepP (K : PySem.W.Frag) (F : Hp) : List (D × D) → List (V × V) → Prop
  | nil : RepP K F [] []
  | cons {a b : D} {x y : V} {l : List (D × D)} {m : List (V × V)} : Rep K F a x → Rep K F b y → RepP K F l m → RepP K F ((a, b) :: l) ((x, y) :: m)
theorem RepP.mono {Kk : PySem.W.Frag} {F F' : Hp} (s : Same F F') : ∀ {l : List (D × D)} {m : List (V × V)}, RepP Kk F l m → RepP Kk F' l m
  | _, _, .nil => .nil
  | _, _, .cons a b t => .cons (a.mono s) (b.mono s) (t.mono s)
def trsOf (X : Cx) : List (Option Expr) → List Expr → List (TE × TE)
  | some k :: ks, v :: vs => (GE X k, GE X v) :: trsOf X ks vs
  | _, _ => []
theorem pps_of {X : Cx} : ∀ {ks : List (Option Expr)} {vs : List Expr}, ks.length = vs.length → (∀ k ∈ ks, k.isSome = true) → PPs X pos ks vs (trsOf X ks vs)
  | [], [], _, _ => pps_nil
  | [], _ :: _, h, _ => nomatch h
  | _ :: _, [], h, _ => nomatch h
  | none :: _, _ :: _, _, h => absurd (h none List.mem_cons_self) (by decide)
  | some k :: ks, v :: vs, h, g => pps_cons be be (pps_of (Nat.succ.inj h) fun z hz => g z (List.mem_cons_of_mem _ hz))
theorem tPairs_go {X : Cx} (S : Sit M X) : ∀ {ks : List (Option Expr)} {vs : List Expr} {L : Led} {KP : List (D × D) → Led → Prop} {F : Hp} {σ : St} {H : Hp} {Q : List (V × V) → Hp → Prop}, EvPs M G ks vs L KP → M.at G L F σ H →
    (∀ ps L' vs F' H', KP ps L' → M.at G L' F' σ H' → RepP M.C.K F' ps vs → Same F F' → Q vs H') → tPairs (trsOf X ks vs) σ H Q
  | some k :: ks, v :: vs, L, KP, F, σ, H, Q, h, A, q => by
    show GE X k σ H fun x H1 => GE X v σ H1 fun y H2 => tPairs (trsOf X ks vs) σ H2 fun ps H3 => Q ((x, y) :: ps) H3
    refine h X S F σ H A _ fun d L1 x F1 H1 k1 A1 r1 s1 => ?_
    refine k1 X S F1 σ H1 A1 _ fun e L2 y F2 H2 k2 A2 r2 s2 => ?_
    refine tPairs_go S k2 A2 fun ps L' vs F' H' kk A' r' s' => ?_
    exact q _ L' _ F' H' kk A' (.cons (r1.mono (s2.trans s')) (r2.mono s') r') ((s1.trans s2).trans s')
  | [], [], L, KP, F, σ, H, Q, h, A, q => q [] L [] F H h A .nil (Same.refl _)
  | none :: _, _, _, _, _, _, _, _, h, _, _ => h.elim
  | some _ :: _, [], _, _, _, _, _, _, h, _, _ => h.elim
  | [], _ :: _, _, _, _, _, _, _, h, _, _ => h.elim
/-- what a display makes -/
def dispE (kvs : List (Key × D)) : List (Key × D) := kvs.foldl (fun acc kv => putE acc kv.1 kv.2) []
theorem RepK.fold {Kk : PySem.W.Frag} {F : Hp} : ∀ {more : List (Key × D)} {ws : List (Key × V)} {kvs : List (Key × D)} {us : List (Key × V)}, RepK Kk F more ws → RepK Kk F kvs us →
    RepK Kk F (more.foldl (fun acc kv => putE acc kv.1 kv.2) kvs) (ws.foldl (fun acc kv => putK acc kv.1 kv.2) us) := by
  intro more
  induction more with
  | nil => intro ws kvs us h g; cases h; exact g
  | cons a l ih =>
    intro ws kvs us h g
    cases h with
    | cons r t =>
      rw [List.foldl_cons, List.foldl_cons]
      exact ih t (g.put _ r)
theorem RepP.keys {Kk : PySem.W.Frag} {F : Hp} : ∀ {kvs : List (Key × D)} {vs : List (V × V)}, RepP Kk F (kvs.map fun kv => (.v (kV kv.1), kv.2)) vs → ∃ ws : List (Key × V), vs = ws.map (fun kv => (kV kv.1, kv.2)) ∧ RepK Kk F kvs ws
  | [], _, .nil => ⟨[], rfl, .nil⟩
  | (k, d) :: kvs, _, .cons a b t => by
    obtain ⟨ws, e, r⟩ := RepP.keys t
    exact ⟨(k, _) :: ws, by rw [a.flat, e]; rfl, .cons b r⟩
theorem ev_disp {ks : List (Option Expr)} {vs : List Expr} (h : ∀ p, EvPs M G ks vs ((p, .dK []) :: L) fun ps L' => ∃ kvs L2, ps = kvs.map (fun kv => (.v (kV kv.1), kv.2)) ∧ Chg L' p (.dK []) (.dK (dispE kvs)) L2 ∧ kvs.length ≤ 15 ∧ K (.ref p) L2)
    (hl : ks.length = vs.length := by rfl) (hall : ks.all (·.isSome) = true := by rfl) (h0 : ks ≠ [] := by exact List.cons_ne_nil _ _) (h15 : ks.length ≤ 15 := by decide) : Ev M G L (.Dict ks vs pos) K := by
  intro X S F σ H A Q q
  refine ⟨_, pe_disp (pps_of hl (fun k hk => List.all_eq_true.mp hall k hk)) hall hl h0 h15, fun p hp => ?_⟩
  refine tPairs_go S (h p) (A.new hp (.dK upd_same .nil)) fun ps L' us F' H' kk A' r' s' => ?_
  obtain ⟨kvs, L2, rfl, ch, hlen, hk⟩ := kk
  obtain ⟨ow, _, _⟩ := A'.own _ ch.mem
  obtain ⟨ws, rfl, rk⟩ := r'.keys
  cases ow with
  | dK e1 e2 =>
    cases e2
    refine ⟨e1, ws, rfl, by rw [← rk.length]; exact hlen, ?_⟩
    exact q _ L2 _ F' _ hk (A'.chg ch (.dK upd_same (rk.fold .nil))) (.v _) s'

/-! ### dict comprehensions -/
def DcInv (M : Mode) (G : List (Option D)) (vs : List Nat) (scope : Scope) (kx vx tg : Expr) (ifs : List Expr) (src : Led) (items : List D) (L1 : Led) (K : D → Led → Prop) : Prop :=
  ∃ I : Nat → List (Key × D) → Led → Prop, I 0 [] L1 ∧ (∀ i acc L', I i acc L' → (∀ s ∈ src, s ∈ L') ∧ acc.length < sizeLine) ∧
    (∀ F1 Dl i d acc L', items[i]? = some d → I i acc L' → TgtN ((M.fix F1).blk scope) (wipeG G vs) ((Dl, .dK acc) :: L') vs tg d fun G2 => TstI ((M.fix F1).blk scope) G2 ((Dl, .dK acc) :: L') ifs fun b L2 =>
      (b = true → Ev ((M.fix F1).blk scope) G2 L2 kx fun x L3 => Ev ((M.fix F1).blk scope) G2 L3 vx fun y L4 => ∃ (k : Key) (L5 : Led), x = .v (kV k) ∧ ((Dl, OW.dK acc) :: L5).Sublist L4 ∧ I (i + 1) (putE acc k y) L5) ∧
      (b = false → ∃ L5 : Led, ((Dl, OW.dK acc) :: L5).Sublist L2 ∧ I (i + 1) acc L5)) ∧
    ∀ acc L', I items.length acc L' → ∀ Dl, K (.ref Dl) ((Dl, .dK acc) :: L')
theorem dc_go {X : Cx} {kx vx tg iter : Expr} {ifs : List Expr} {scope : Scope} {own : List (Str × Nat)} {σ : St} {H F : Hp} {Q : VK} (S : Sit M X) (hc : M.C.cm = true) (A : M.at G L F σ H)
    (h : EvI1 M G X F σ H tg iter fun src items L1 => DcInv M G (own.map (·.2)) scope kx vx tg ifs src items L1 K) (q : Post M G F σ K Q) :
    tDc (GI X tg iter) (gB X scope tg) (tB X scope ifs) (eB X scope kx) (eB X scope vx) (own.map (·.2)) σ H Q := by
  refine h _ fun J src items L1 F1 H1 k1 g1 A1 s1 Dl hD => ?_
  obtain ⟨I, i0, isrc, turn, done⟩ := k1
  have S1 := S.fix A1
  have A1' : (M.fix F1).at G ((Dl, .dK []) :: L1) F1 σ (upd H1 Dl (.dK [])) := A1.fixed.new hD (.dK upd_same .nil)
  refine ⟨fun i m H' => m = items.length - i ∧ i ≤ items.length ∧ ∃ acc L' F', (M.fix F1).at G ((Dl, .dK acc) :: L') F' σ H' ∧ I i acc L', ⟨items.length, by simp, Nat.zero_le _, [], L1, F1, A1', i0⟩, ?_⟩
  rintro i m H' ⟨rfl, hi, acc, L', F', A', iv⟩
  obtain ⟨is1, is2⟩ := isrc i acc L' iv
  obtain ⟨q1, q2⟩ := g1 G _ F' σ H' A' (fun s hs => List.mem_cons_of_mem _ (is1 s hs)) i
  by_cases hlt : i < items.length
  · obtain ⟨go, yl⟩ := q1 items[i] (by simp [hlt])
    refine .inr ⟨go, fun H2 => ∃ acc L' F', (M.fix F1).at G ((Dl, .dK acc) :: L') F' σ H2 ∧ I (i + 1) acc L', fun H2 ⟨acc2, L2, F2, A2, iv2⟩ => ⟨items.length - (i + 1), by omega, rfl, hlt, acc2, L2, F2, A2, iv2⟩, fun x H2 y s0 Hz C cl fp => ?_⟩
    obtain ⟨F2, A2, r2⟩ := yl x H2 y
    have A2w : ((M.fix F1).blk scope).at (wipeG G (own.map (·.2))) ((Dl, .dK acc) :: L') F2 (wipe σ (own.map (·.2))) H2 := A2.envOf (wipe_rep A2.env _)
    refine turn F1 Dl i _ acc L' (by simp [hlt]) iv _ S1.blk F2 _ H2 x A2w r2 _ fun G3 σ3 k3 A3 hw => ?_
    have hww : wipe σ3 (own.map (·.2)) = wipe σ (own.map (·.2)) := hw.trans (wipe_wipe σ)
    refine ⟨hww, fun s0' Hz' C' cl' fp' => ?_⟩
    have back : ∀ {L5 : Led} {F5 H5 : Hp}, ((M.fix F1).blk scope).at G3 L5 F5 σ3 H5 → Same F2 F5 → (M.fix F1).at G L5 F5 σ H5 := fun {L5 F5 H5} B s => ⟨B.ef, B.eh, B.fh, B.nf, B.own, B.nd, A2.env.mono s⟩
    refine tstI_go k3 _ S1.blk F2 σ3 H2 A3 _ fun b L4 F4 H4 k4 A4 s4 => ?_
    cases b with
    | true =>
      rw [if_pos rfl]
      intro s0'' Hz'' C'' cl'' fp''
      refine k4.1 rfl _ S1.blk F4 σ3 H4 A4 _ fun z L5 w F5 H5 k5 A5 r5 s5 => ?_
      intro s09 Hz9 C9 cl9 fp9
      refine k5 _ S1.blk F5 σ3 H5 A5 _ fun z2 L6 w2 F6 H6 k6 A6 r6 s6 => ?_
      obtain ⟨k, L7, rfl, sub, iv6⟩ := k6
      cases r5
      have A7 := (back A6 ((s4.trans s5).trans s6)).drop sub
      obtain ⟨ow, _, _⟩ := A7.own _ List.mem_cons_self
      cases ow with
      | dK e1 e2 =>
        rename_i ws
        refine ⟨ws, k, rfl, e1, by rw [← e2.length]; exact is2, ?_⟩
        exact ⟨_, L7, F6, A7.chg .here (.dK upd_same (e2.put k r6)), iv6⟩
    | false =>
      rw [if_neg Bool.false_ne_true]
      obtain ⟨L6, sub, iv6⟩ := k4.2 rfl
      exact ⟨acc, L6, F4, (back A4 s4).drop sub, iv6⟩
  · have e : i = items.length := by omega
    subst e
    exact .inl ⟨q2 (Nat.le_refl _), q _ _ _ F' H' (done acc L' iv Dl) (A1.unfix A') (.v _) (s1.trans A'.ef)⟩
theorem ev_dc {kx vx tg iter : Expr} {ifs : List Expr} {scope : Scope} (own : List (Str × Nat)) (hc : M.C.cm = true) (ok : blkC M.C.N M.C.sc scope own = true)
    (h : EvI M G L tg iter fun src items L1 => DcInv M G (own.map (·.2)) scope kx vx tg ifs src items L1 K)
    (hs : ∀ (X : Cx) x, foldedSetIterable iter X.env x = pure x := by intro _ _; rfl) : Ev M G L (.DictComp kx vx [⟨tg, iter, ifs, 0⟩] scope pos) K := by
  intro X S F σ H A Q q
  refine ⟨_, pe_dc (S.ok.calm hc) (by rw [← S.ok.eN]; exact S.ok.nd) bi (by rw [← S.ok.eN, ← S.ok.es]; exact blkOk_by ok) gB_ok tB_ok eB_ok eB_ok (hs X), ?_⟩
  exact dc_go S hc A (h X S F σ H A) q

/-! ### a dict walked: locked while it is walked -/
@[reducible] def Mode.lok (M : Mode) (H0 F0 : Hp) : Mode := { M with H0 := H0, F0 := F0, T := fun _ _ _ => False }
theorem Sit.lok {X : Cx} (S : Sit M X) (H0 F0 : Hp) : Sit (M.lok H0 F0) X := by
  obtain ⟨ok, W, tk, _⟩ := S
  exact ⟨ok, W, tk, fun _ _ _ _ _ _ _ _ h => h.elim⟩
section
variable {Kk : PySem.W.Frag} {H0 F0 F F' H H' : Hp} {G' : List (Option D)} {L' : Led} {σ σ' : St} {p : Addr} {u : HO} {od : Obj}
theorem At.locked (a : At Kk H0 F0 G L F σ H) (hF : F p = some u) (hd : (∃ ws, u = .dK ws) ∨ ∃ ws, u = .dT ws) : At Kk (less H0 [p]) (upd F p (.frz od u)) G L (upd F p (.frz od u)) σ (upd H p (.frz od u)) := by
  have kp : Kp F (upd F p (.frz od u)) := by
    refine ⟨fun b v hv h => ?_, fun b xs h => ?_, fun b C dx fs h => ?_⟩
    · by_cases e : b = p
      · subst e
        rcases h with h | ⟨o, h⟩
        · rw [hF] at h; cases h; exact .inr ⟨od, upd_same⟩
        · rw [hF] at h; rcases hd with ⟨ws, rfl⟩ | ⟨ws, rfl⟩ <;> cases h
      · exact h.elim (fun h => .inl (by rw [upd_ne e]; exact h)) fun ⟨o, h⟩ => .inr ⟨o, by rw [upd_ne e]; exact h⟩
    · by_cases e : b = p
      · subst e; rw [hF] at h; rcases hd with ⟨ws, rfl⟩ | ⟨ws, rfl⟩ <;> cases h
      · rw [upd_ne e]; exact h
    · by_cases e : b = p
      · subst e; rw [hF] at h; rcases hd with ⟨ws, rfl⟩ | ⟨ws, rfl⟩ <;> cases h
      · rw [upd_ne e]; exact h
  refine ⟨Same.refl _, fun b o h => ?_, fun b o h => ?_, fun _ _ _ h => h, fun q hq => ?_, a.nd, a.env.keep kp⟩
  · obtain ⟨h1, h2⟩ := less_some h
    rw [upd_ne (fun e => h1 (by rw [e]; exact List.mem_cons_self))]
    exact a.eh b o h2
  · by_cases e : b = p
    · subst e; rw [upd_same] at h ⊢; exact h
    · rw [upd_ne e] at h ⊢; exact a.fh b o h
  · obtain ⟨x, y, z⟩ := a.own q hq
    have ne : q.1 ≠ p := fun e => by rw [e, hF] at y; cases y
    refine ⟨?_, by rw [upd_ne ne]; exact y, ?_⟩
    · have go : ∀ {l : Addr} {o : OW}, OwnAt Kk F H l o → l ≠ p → OwnAt Kk (upd F p (.frz od u)) (upd H p (.frz od u)) l o := by
        intro l o x ne
        cases x with
        | lst e r => exact .lst (by rw [upd_ne ne]; exact e) (r.keep kp)
        | dK e r => exact .dK (by rw [upd_ne ne]; exact e) (r.keep kp)
        | dT e r => exact .dT (by rw [upd_ne ne]; exact e) (r.keep kp)
        | ins e r => exact .ins (by rw [upd_ne ne]; exact e) (r.keep kp)
      exact go x ne
    · cases w : less H0 [p] q.1 with
      | none => rfl
      | some o => rw [(less_some w).2] at z; cases z
theorem At.unlocked (a : At Kk H0 F0 G L F σ H) (hF : F p = some u) (hd : (∃ ws, u = .dK ws) ∨ ∃ ws, u = .dT ws) (b : At Kk (less H0 [p]) (upd F p (.frz od u)) G' L' F' σ' H') :
    F' p = some (.frz od u) ∧ Same F (upd F' p u) ∧ Kp F' (upd F' p u) ∧ At Kk H0 F0 G' L' (upd F' p u) σ' (upd H' p u) := by
  have hp : F' p = some (.frz od u) := b.ef _ _ upd_same
  have nu : ∀ o v, u ≠ .frz o v := fun o v e => by rcases hd with ⟨ws, rfl⟩ | ⟨ws, rfl⟩ <;> cases e
  have kp : Kp F' (upd F' p u) := by
    refine ⟨fun c v hv h => ?_, fun c xs h => ?_, fun c C dx fs h => ?_⟩
    · by_cases e : c = p
      · subst e
        rcases h with h | ⟨o, h⟩
        · rw [hp] at h; cases h; exact absurd rfl (hv _ _)
        · rw [hp] at h; cases h; exact .inl upd_same
      · exact h.elim (fun h => .inl (by rw [upd_ne e]; exact h)) fun ⟨o, h⟩ => .inr ⟨o, by rw [upd_ne e]; exact h⟩
    · by_cases e : c = p
      · subst e; rw [hp] at h; cases h
      · rw [upd_ne e]; exact h
    · by_cases e : c = p
      · subst e; rw [hp] at h; cases h
      · rw [upd_ne e]; exact h
  have s : Same F (upd F' p u) := fun c o h => by
    by_cases e : c = p
    · subst e; rw [upd_same, ← hF]; exact h
    · rw [upd_ne e]; exact b.ef c o (by rw [upd_ne e]; exact h)
  refine ⟨hp, s, kp, a.ef.trans s, fun c o h => ?_, fun c o h => ?_, fun c o h1 h2 => ?_, fun q hq => ?_, b.nd, b.env.keep kp⟩
  · by_cases e : c = p
    · subst e; rw [upd_same, ← a.fh _ _ hF]; exact a.eh _ _ h
    · rw [upd_ne e]; exact b.eh c o (by rw [less_out (by simpa using e)]; exact h)
  · by_cases e : c = p
    · subst e; rw [upd_same] at h ⊢; exact h
    · rw [upd_ne e] at h ⊢; exact b.fh c o h
  · by_cases e : c = p
    · subst e
      have := a.nf _ o h1 h2
      rw [hF] at this; cases this
    · rw [upd_ne e]
      exact b.nf c o (by rw [less_out (by simpa using e)]; exact h1) (by rw [upd_ne e]; exact a.nf c o h1 h2)
  · obtain ⟨x, y, z⟩ := b.own q hq
    have ne : q.1 ≠ p := fun e => by rw [e, hp] at y; cases y
    refine ⟨?_, by rw [upd_ne ne]; exact y, ?_⟩
    · have go : ∀ {l : Addr} {o : OW}, OwnAt Kk F' H' l o → l ≠ p → OwnAt Kk (upd F' p u) (upd H' p u) l o := by
        intro l o x ne
        cases x with
        | lst e r => exact .lst (by rw [upd_ne ne]; exact e) (r.keep kp)
        | dK e r => exact .dK (by rw [upd_ne ne]; exact e) (r.keep kp)
        | dT e r => exact .dT (by rw [upd_ne ne]; exact e) (r.keep kp)
        | ins e r => exact .ins (by rw [upd_ne ne]; exact e) (r.keep kp)
      exact go x ne
    · cases w : H0 q.1 with
      | none => rfl
      | some o => rw [less_out (by simpa using ne)] at z; rw [z] at w; cases w
end
/-- e leads to the dict at p, and still does while that is locked -/
def Path (M : Mode) (G : List (Option D)) (L : Led) (e : Expr) (kvs : List (Key × D)) : Prop := ∀ X, Sit M X → ∀ F σ H, M.at G L F σ H → ∃ p ws, Rd F p (.dK ws) ∧ RepK M.C.K F kvs ws ∧ (∀ Q : VK, Q (.ref p) H → GE X e σ H Q) ∧
  ∀ od, F p = some (.dK ws) → ∀ Q : VK, Q (.ref p) (upd H p (.frz od (.dK ws))) → GE X e σ (upd H p (.frz od (.dK ws))) Q
theorem path_name {x : Str} {kvs : List (Key × D)} (hl : Look M.C.N G x (some (.dK kvs))) (hv : Vis M.C.sc x) (hd : (x == ("__debug__" : Str)) = false := by decide +kernel) (hcd : (x == ("__classdict__" : Str)) = false := by decide +kernel) : Path M G L (.Name x pos) kvs := by
  intro X S F σ H a
  obtain ⟨i, h1, h2⟩ := hl.ix
  obtain ⟨v, h3, r⟩ := a.env.get h2
  cases r with
  | dK r1 r2 =>
    refine ⟨_, _, r1, r2, fun Q q => ⟨tVar i, pe_var (by rw [← S.ok.eN]; exact h1) (by rw [← S.ok.es]; exact hv) hd hcd, _, h3, q⟩, fun od _ Q q => ⟨tVar i, pe_var (by rw [← S.ok.eN]; exact h1) (by rw [← S.ok.es]; exact hv) hd hcd, _, h3, q⟩⟩
/-- name.f, the name an instance -/
theorem path_fld {x f : Str} {p2 : Pos} {Cc : Addr} {y : D} {fs : List (Str × D)} {kvs : List (Key × D)} (c : Cls M.C.K Cc) (n : NoAttr M.C.K Cc f) (hl : Look M.C.N G x (some y)) (ho : IsO L y Cc fs) (hf : fs.lookup f = some (.dK kvs)) (hv : Vis M.C.sc x) (hd : (x == ("__debug__" : Str)) = false := by decide +kernel) (hcd : (x == ("__classdict__" : Str)) = false := by decide +kernel)
    (hb : ∀ X : Cx, attributeBase (.Name x p2) f X.env (eval (.Name x p2) X.env) = eval (.Name x p2) X.env := by intro _; rfl) : Path M G L (.Attribute (.Name x p2) f pos) kvs := by
  intro X S F σ H a
  obtain ⟨i, h1, h2⟩ := hl.ix
  obtain ⟨v, h3, r⟩ := a.env.get h2
  obtain ⟨q, dx, ws, rfl, e1, e2⟩ := ho.get a r
  obtain ⟨w, hw, rw'⟩ := e2.lookup hf
  have pe : ∀ Q : VK, ∀ H', (∃ v0, σ[i]? = some (some v0) ∧ Q v0 H') → GE X (.Name x p2) σ H' Q := fun Q H' h => ⟨tVar i, pe_var (by rw [← S.ok.eN]; exact h1) (by rw [← S.ok.es]; exact hv) hd hcd, h⟩
  rw [S.ok.eK] at c n
  cases rw' with
  | dK r1 r2 =>
    rename_i p us
    refine ⟨p, us, r1, r2, fun Q hq => ⟨_, pe_fld be (hb X), ?_⟩, fun od hF Q hq => ⟨_, pe_fld be (hb X), ?_⟩⟩
    · exact pe _ _ ⟨_, h3, q, Cc, dx, ws, _, rfl, e1, c, n, hw, hq⟩
    · have ne : q ≠ p := fun e => by
        have := a.fh _ _ hF
        rw [← e, e1] at this
        cases this
      exact pe _ _ ⟨_, h3, q, Cc, dx, ws, _, rfl, by rw [upd_ne ne]; exact e1, c, n, hw, hq⟩
def keysD (kvs : List (Key × D)) : List D := kvs.map fun kv => .v (kV kv.1)
/-- in the locked mode the walk is one through the keys -/
theorem keys_go {X : Cx} {F H : Hp} {σ : St} {tg e : Expr} {p : Addr} {od : Obj} {ws : List (Key × V)} {kvs : List (Key × D)} {K : Led → List D → Led → Prop} (hk : K [] (keysD kvs) L) (r : RepK M.C.K F kvs ws) (A : M.at G L F σ H) (hF : F p = some (.frz od (.dK ws)))
    (h : ∀ Q : VK, Q (.ref p) H → GE X e σ H Q) : EvI1 M G X F σ H tg e K := by
  intro R q
  have rk : ∀ {kvs : List (Key × D)} {ws : List (Key × V)}, RepK M.C.K F kvs ws → keysD kvs = ws.map fun kv => .v (kV kv.1) := by
    intro kvs ws r
    induction kvs generalizing ws with
    | nil => cases r; rfl
    | cons a l ih => cases r with
      | cons r1 r2 =>
        show (.v (kV _) : D) :: keysD _ = _
        rw [ih r2]
        rfl
  refine ⟨_, pi_keys be, h _ ⟨p, od, rfl, .inl ⟨ws, A.fh _ _ hF, q _ [] _ L F H hk (fun G' L' F' σ' H' A' _ i => ?_) A (Same.refl _)⟩⟩⟩
  have hH : H' p = some (.frz od (.dK ws)) := A'.fh _ _ (A'.ef _ _ hF)
  rw [rk r]
  refine ⟨fun d hd => ?_, fun hi => ⟨hH, by simpa using hi⟩⟩
  rw [List.getElem?_map] at hd
  cases e1 : ws[i]? with
  | none => rw [e1] at hd; cases hd
  | some kv =>
    rw [e1] at hd
    cases hd
    refine ⟨⟨hH, (List.getElem?_eq_some_iff.mp e1).1⟩, fun x H2 ⟨e2, k, v, e3, e4⟩ => ?_⟩
    rw [e1] at e3
    cases e3
    subst e2 e4
    exact ⟨F', A', .v _⟩
theorem kp_lock {Kk : PySem.W.Frag} {F : Hp} {p : Addr} {u : HO} {od : Obj} (hF : F p = some u) (hd : (∃ ws, u = .dK ws) ∨ ∃ ws, u = .dT ws) : Kp F (upd F p (.frz od u)) := by
  refine ⟨fun b v hv h => ?_, fun b xs h => ?_, fun b C dx fs h => ?_⟩
  · by_cases e : b = p
    · subst e
      rcases h with h | ⟨o, h⟩
      · rw [hF] at h; cases h; exact .inr ⟨od, upd_same⟩
      · rw [hF] at h; rcases hd with ⟨ws, rfl⟩ | ⟨ws, rfl⟩ <;> cases h
    · exact h.elim (fun h => .inl (by rw [upd_ne e]; exact h)) fun ⟨o, h⟩ => .inr ⟨o, by rw [upd_ne e]; exact h⟩
  · by_cases e : b = p
    · subst e; rw [hF] at h; rcases hd with ⟨ws, rfl⟩ | ⟨ws, rfl⟩ <;> cases h
    · rw [upd_ne e]; exact h
  · by_cases e : b = p
    · subst e; rw [hF] at h; rcases hd with ⟨ws, rfl⟩ | ⟨ws, rfl⟩ <;> cases h
    · rw [upd_ne e]; exact h
theorem run_forK {tg iter : Expr} {body : List Stmt} {kvs : List (Key × D)} (hlp : M.C.lp = true) (hc : M.C.cm = true) (hp : Path M G L iter kvs)
    (h : ∀ H0 F0, ForInv (M.lok H0 F0) G tg body { E with nx := fun G' L' => Run M G' L' rest E } [] (keysD kvs) L)
    (hs : ∀ (X : Cx) x, foldedSetIterable iter X.env x = pure x := by intro _ _; rfl) : Run M G L (.For tg iter body [] pos :: rest) E := by
  intro X S F σ H A D o
  obtain ⟨p, ws, rd, r, g1, g2⟩ := hp X S F σ H A
  rcases rd with hF | ⟨od, hF⟩
  · refine gss_cons ⟨_, ps_lock (ps_for (S.ok.po hlp) (S.ok.calm hc) bi bg bss (hs X)), p, .dK ws, A.fh _ _ hF, True.intro, fun od => ?_⟩
    have A2 := A.locked (od := od) hF (.inl ⟨ws, rfl⟩)
    have kp := kp_lock (Kk := M.C.K) (od := od) hF (.inl ⟨ws, rfl⟩)
    have ev := keys_go (M := M.lok (less M.H0 [p]) (upd F p (.frz od (.dK ws)))) (tg := tg) (K := fun src items L1 => ForInv (M.lok (less M.H0 [p]) (upd F p (.frz od (.dK ws)))) G tg body { E with nx := fun G' L' => Run M G' L' rest E } src items L1) (h _ _) (r.keep kp) A2 upd_same (g2 od hF)
    have un : ∀ {G' : List (Option TL.D)} {L' : Led} {F' : Hp} {σ' : St} {H' : Hp}, (M.lok (less M.H0 [p]) (upd F p (.frz od (.dK ws)))).at G' L' F' σ' H' → H' p = some (.frz od (.dK ws)) ∧ Kp F' (upd F' p (.dK ws)) ∧ M.at G' L' (upd F' p (.dK ws)) σ' (upd H' p (.dK ws)) := fun B => by
      obtain ⟨u1, u2, u3, u4⟩ := A.unlocked hF (.inl ⟨ws, rfl⟩) B
      exact ⟨B.fh _ _ u1, u3, u4⟩
    exact for_go (S.lok _ _) A2 ev ⟨fun G' L' F' σ' H' k B => let ⟨a, b, c⟩ := un B; ⟨a, k X S _ σ' _ c D o⟩, fun d G' L' v F' σ' H' k B r => let ⟨a, b, c⟩ := un B; ⟨a, o.rt d G' L' v _ σ' _ k c (r.keep b)⟩,
        fun G' L' F' σ' H' k B => let ⟨a, b, c⟩ := un B; ⟨a, o.bk G' L' _ σ' _ k c⟩, fun G' L' F' σ' H' k B => let ⟨a, b, c⟩ := un B; ⟨a, o.ct G' L' _ σ' _ k c⟩⟩
  · have A2 : (M.lok M.H0 M.F0).at G L F σ H := A
    have ev := keys_go (M := M.lok M.H0 M.F0) (tg := tg) (K := fun src items L1 => ForInv (M.lok M.H0 M.F0) G tg body { E with nx := fun G' L' => Run M G' L' rest E } src items L1) (h _ _) r A2 hF g1
    have o2 := o.seq S (rest := rest)
    exact gss_cons ⟨_, ps_for (S.ok.po hlp) (S.ok.calm hc) bi bg bss (hs X), for_go (S.lok _ _) A2 ev ⟨o2.nx, o2.rt, o2.bk, o2.ct⟩⟩
/-- [.. for x in a dict ..] -/
theorem ev_lcK {elt tg iter : Expr} {ifs : List Expr} {scope : Scope} {kvs : List (Key × TL.D)} (own : List (Str × Nat)) (hc : M.C.cm = true) (ok : blkC M.C.N M.C.sc scope own = true) (hp : Path M G L iter kvs)
    (h : ∀ H0 F0, LcInv (M.lok H0 F0) G (own.map (·.2)) scope elt tg ifs [] (keysD kvs) L K)
    (hs : ∀ (X : Cx) x, foldedSetIterable iter X.env x = pure x := by intro _ _; rfl) : Ev M G L (.ListComp elt [⟨tg, iter, ifs, 0⟩] scope pos) K := by
  intro X S F σ H A Q q
  obtain ⟨p, ws, rd, r, g1, g2⟩ := hp X S F σ H A
  have pe := pe_lc (X := X) (elt := elt) (tg := tg) (iter := iter) (ifs := ifs) (scope := scope) (own := own) (pos := pos) (S.ok.calm hc) (by rw [← S.ok.eN]; exact S.ok.nd) bi (by rw [← S.ok.eN, ← S.ok.es]; exact blkOk_by ok) gB_ok tB_ok eB_ok (hs X)
  rcases rd with hF | ⟨od, hF⟩
  · refine ⟨_, pe_lock pe, p, .dK ws, A.fh _ _ hF, True.intro, fun od => ?_⟩
    have A2 := A.locked (od := od) hF (.inl ⟨ws, rfl⟩)
    have kp := kp_lock (Kk := M.C.K) (od := od) hF (.inl ⟨ws, rfl⟩)
    have ev := keys_go (M := M.lok (less M.H0 [p]) (upd F p (.frz od (.dK ws)))) (tg := tg) (K := fun src items L1 => LcInv (M.lok (less M.H0 [p]) (upd F p (.frz od (.dK ws)))) G (own.map (·.2)) scope elt tg ifs src items L1 K) (h _ _) (r.keep kp) A2 upd_same (g2 od hF)
    refine lc_go (S.lok _ _) hc A2 ev fun d L' v F' H' k B rv _ => ?_
    obtain ⟨u1, u2, u3, u4⟩ := A.unlocked hF (.inl ⟨ws, rfl⟩) B
    exact ⟨B.fh _ _ u1, q d L' v _ _ k u4 (rv.keep u3) u2⟩
  · have A2 : (M.lok M.H0 M.F0).at G L F σ H := A
    have ev := keys_go (M := M.lok M.H0 M.F0) (tg := tg) (K := fun src items L1 => LcInv (M.lok M.H0 M.F0) G (own.map (·.2)) scope elt tg ifs src items L1 K) (h _ _) r A2 hF g1
    exact ⟨_, pe, lc_go (S.lok _ _) hc A2 ev q⟩
theorem run_setlcK {x : Str} {p2 : Pos} {elt tg iter : Expr} {ifs : List Expr} {scope : Scope} {spos : Pos} {kvs : List (Key × TL.D)} (own : List (Str × Nat)) (hc : M.C.cm = true) (hx : M.C.sc.names.lookup x = some .local) (hn : x ∈ M.C.N) (ok : blkC M.C.N M.C.sc scope own = true) (hp : Path M G L iter kvs)
    (h : ∀ H0 F0, LcInv (M.lok H0 F0) G (own.map (·.2)) scope elt tg ifs [] (keysD kvs) L fun d L2 => ∃ G', Put M.C.N G x (some d) G' ∧ Run M G' L2 rest E)
    (hkind : M.C.sc.kind = .function) (hl : (p2.line == pos.line) = true) (ha : (scope.names.any fun (n, k) => n == x && (k == .local || k == .cell)) = false)
    (hs : ∀ (X : Cx) x, foldedSetIterable iter X.env x = pure x := by intro _ _; rfl) : Run M G L (.Assign [.Name x p2] (.ListComp elt [⟨tg, iter, ifs, 0⟩] scope pos) spos :: rest) E := by
  intro X S F σ H A D o
  obtain ⟨i, hi⟩ := List.getElem?_of_mem hn
  have nd : X.N.Nodup := by rw [← S.ok.eN]; exact S.ok.nd
  have lx : X.env.scope.names.lookup x = some .local := by rw [← S.ok.es]; exact hx
  rw [S.ok.eN] at hi
  obtain ⟨p, ws, rd, r, g1, g2⟩ := hp X S F σ H A
  have ps := ps_setLc (X := X) (y := x) (py := p2) (elt := elt) (tg := tg) (iter := iter) (ifs := ifs) (scope := scope) (own := own) (i := i) (spos := spos) (pos := pos) (S.ok.calm hc) nd hi lx (sw_true (by rw [← S.ok.es]; exact hkind) lx hl ha) bi (by rw [← S.ok.eN, ← S.ok.es]; exact blkOk_by ok) gB_ok tB_ok eB_ok (hs X)
  have fin : ∀ {d : TL.D} {L2 : Led} {v : V} {F2 H2 : Hp}, (∃ G', Put M.C.N G x (some d) G' ∧ Run M G' L2 rest E) → M.at G L2 F2 σ H2 → Rep M.C.K F2 d v → GSs X rest D (σ.set i (some v)) H2 := by
    intro d L2 v F2 H2 k2 A2 r2
    obtain ⟨G', hp, hr⟩ := k2
    obtain ⟨j, hj, rfl⟩ := hp.ix
    rw [S.ok.eN] at hj
    have e : j = i := nodup_ix nd hj hi
    subst e
    exact hr X S F2 _ H2 (A2.set r2) D o
  rcases rd with hF | ⟨od, hF⟩
  · refine gss_cons ⟨_, ps_lock ps, p, .dK ws, A.fh _ _ hF, True.intro, fun od => ?_⟩
    have A2 := A.locked (od := od) hF (.inl ⟨ws, rfl⟩)
    have kp := kp_lock (Kk := M.C.K) (od := od) hF (.inl ⟨ws, rfl⟩)
    have ev := keys_go (M := M.lok (less M.H0 [p]) (upd F p (.frz od (.dK ws)))) (tg := tg) (K := fun src items L1 => LcInv (M.lok (less M.H0 [p]) (upd F p (.frz od (.dK ws)))) G (own.map (·.2)) scope elt tg ifs src items L1 fun d L2 => ∃ G', Put M.C.N G x (some d) G' ∧ Run M G' L2 rest E) (h _ _) (r.keep kp) A2 upd_same (g2 od hF)
    refine lc_go (S.lok _ _) hc A2 ev fun d L' v F' H' k B rv _ => ?_
    obtain ⟨u1, u2, u3, u4⟩ := A.unlocked hF (.inl ⟨ws, rfl⟩) B
    exact ⟨B.fh _ _ u1, fin k u4 (rv.keep u3)⟩
  · have A2 : (M.lok M.H0 M.F0).at G L F σ H := A
    have ev := keys_go (M := M.lok M.H0 M.F0) (tg := tg) (K := fun src items L1 => LcInv (M.lok M.H0 M.F0) G (own.map (·.2)) scope elt tg ifs src items L1 fun d L2 => ∃ G', Put M.C.N G x (some d) G' ∧ Run M G' L2 rest E) (h _ _) r A2 hF g1
    exact gss_cons ⟨_, ps, lc_go (S.lok _ _) hc A2 ev fun d L' v F' H' k B rv _ => fin k B rv⟩
theorem ev_dcK {kx vx tg iter : Expr} {ifs : List Expr} {scope : Scope} {kvs : List (Key × TL.D)} (own : List (Str × Nat)) (hc : M.C.cm = true) (ok : blkC M.C.N M.C.sc scope own = true) (hp : Path M G L iter kvs)
    (h : ∀ H0 F0, DcInv (M.lok H0 F0) G (own.map (·.2)) scope kx vx tg ifs [] (keysD kvs) L K)
    (hs : ∀ (X : Cx) x, foldedSetIterable iter X.env x = pure x := by intro _ _; rfl) : Ev M G L (.DictComp kx vx [⟨tg, iter, ifs, 0⟩] scope pos) K := by
  intro X S F σ H A Q q
  obtain ⟨p, ws, rd, r, g1, g2⟩ := hp X S F σ H A
  have pe := pe_dc (X := X) (kx := kx) (vx := vx) (tg := tg) (iter := iter) (ifs := ifs) (scope := scope) (own := own) (pos := pos) (S.ok.calm hc) (by rw [← S.ok.eN]; exact S.ok.nd) bi (by rw [← S.ok.eN, ← S.ok.es]; exact blkOk_by ok) gB_ok tB_ok eB_ok eB_ok (hs X)
  rcases rd with hF | ⟨od, hF⟩
  · refine ⟨_, pe_lock pe, p, .dK ws, A.fh _ _ hF, True.intro, fun od => ?_⟩
    have A2 := A.locked (od := od) hF (.inl ⟨ws, rfl⟩)
    have kp := kp_lock (Kk := M.C.K) (od := od) hF (.inl ⟨ws, rfl⟩)
    have ev := keys_go (M := M.lok (less M.H0 [p]) (upd F p (.frz od (.dK ws)))) (tg := tg) (K := fun src items L1 => DcInv (M.lok (less M.H0 [p]) (upd F p (.frz od (.dK ws)))) G (own.map (·.2)) scope kx vx tg ifs src items L1 K) (h _ _) (r.keep kp) A2 upd_same (g2 od hF)
    refine dc_go (S.lok _ _) hc A2 ev fun d L' v F' H' k B rv _ => ?_
    obtain ⟨u1, u2, u3, u4⟩ := A.unlocked hF (.inl ⟨ws, rfl⟩) B
    exact ⟨B.fh _ _ u1, q d L' v _ _ k u4 (rv.keep u3) u2⟩
  · have A2 : (M.lok M.H0 M.F0).at G L F σ H := A
    have ev := keys_go (M := M.lok M.H0 M.F0) (tg := tg) (K := fun src items L1 => DcInv (M.lok M.H0 M.F0) G (own.map (·.2)) scope kx vx tg ifs src items L1 K) (h _ _) r A2 hF g1
    exact ⟨_, pe, dc_go (S.lok _ _) hc A2 ev q⟩
end
end TL

namespace TL
open PySem L2
section
variable {M : Mode} {G : List (Option D)} {L : Led} {K : D → Led → Prop} {pos : Pos} {rest : List Stmt} {E : TD}
/-! ### try -/
def EX.cls : EX → Value
  | .own C => .ref C
  | .low C _ _ => .ref C
theorem ExIs.cls {Kk : PySem.W.Frag} {F H : Hp} {ex : EX} {v : Value} {d : Option Addr} (h : ExIs Kk F H ex v d) : v = ex.cls := by cases h <;> rfl
@[reducible] def Mode.sui (M : Mode) : Mode := { M with C := { M.C with cm := false, lp := false }, T := fun _ _ _ => False }
theorem Sit.sui {X : Cx} (S : Sit M X) (a : Addr) (pn : List (Addr × Obj)) : Sit M.sui (X.suite a pn) := by
  obtain ⟨⟨eP, ew, eK, em, eb, eN, es, calm, room, nd, fn, po, st⟩, _⟩ := S
  exact ⟨⟨eP, ew, eK, em, eb, eN, es, (fun h => nomatch h), (fun h => nomatch h), nd, fn, (fun h => nomatch h), (fun h => nomatch h)⟩, fun _ _ _ _ => False, takes0, fun _ _ _ _ _ _ _ _ h => h.elim⟩
theorem Sit.tr {X : Cx} (S : Sit M X) {T : EX → List (Option D) → Led → Prop} {W : WX} {pn : List (Addr × Obj)} {xe : Value → Shared → Prop} (tk : Takes (X.tr pn xe) W) (hp : PassesOwn (model X.prog X.w) X.A X.env xe)
    (hk : Mode.Tk { M with T := T } W) : Sit { M with T := T } (X.tr pn xe) := by
  obtain ⟨⟨eP, ew, eK, em, eb, eN, es, calm, room, nd, fn, po, st⟩, _⟩ := S
  exact ⟨⟨eP, ew, eK, em, eb, eN, es, calm, room, nd, fn, fun _ => hp, st⟩, W, tk, hk⟩
def HdsC (M : Mode) : List ExceptHandler → List Value → Prop
  | [], [] => True
  | .ExceptHandler (some (.Name x _)) none (_ :: _) _ :: hds, c :: cs => (GlC M.C x ∧ (x == ("__debug__" : Str)) = false ∧ M.C.mg x = some c) ∧ HdsC M hds cs
  | _, _ => False
/-- what the clauses wish of an exception of the body -/
def HT (M : Mode) (E : TD) : List ExceptHandler → List Value → EX → List (Option D) → Led → Prop
  | .ExceptHandler _ _ ss _ :: hds, c :: cs, ex, G, L => ∃ b, PySem.W.exmOne M.C.K ex.cls c = some b ∧ (b = true → Run M.sui G L ss E) ∧ (b = false → HT M E hds cs ex G L)
  | _, _, ex, G, L => M.T ex G L
def tSu (X : Cx) (ss : List Stmt) : Addr → Value → Option Addr → TS := fun a cls d D σ H => ∀ oe pn, Zc cls d oe → (∃ vs, oe.data = .fields vs) → GSs (X.suite a ((a, oe) :: pn)) ss D σ H
def trsH (X : Cx) : List ExceptHandler → List Value → List (Value × (Addr → Value → Option Addr → TS))
  | .ExceptHandler _ _ ss _ :: hds, c :: cs => (c, tSu X ss) :: trsH X hds cs
  | _, _ => []
theorem HdsC.ok {X : Cx} (S : Sit M X) : ∀ {hds : List ExceptHandler} {cs : List Value}, HdsC M hds cs → HdsOk X hds (trsH X hds cs)
  | [], [], _ => .nil
  | [], _ :: _, h => h.elim
  | .ExceptHandler (some (.Name x p)) none (b :: ss) p2 :: hds, c :: cs, h => by
    obtain ⟨⟨h1, h2, h3⟩, h4⟩ := h
    refine .cons ⟨gl_of S h1, h2, .inl (mg_of S h3)⟩ (fun a oe cls d pn hz hv => ⟨fun pins s σ H Q I q => bss.run pins s σ H Q I (q oe pn hz hv)⟩) (HdsC.ok S h4)
theorem HT.many {X : Cx} {W : WX} {DD : Ends} (S : Sit M X) (hk : M.Tk W) (o : EndsOk M E DD) : ∀ {hds : List ExceptHandler} {cs : List Value}, HdsC M hds cs → ∀ {ex : EX} {G : List (Option D)} {L : Led} {F : Hp} {σ : St} {H : Hp} {v : Value} {d : Option Addr},
    HT M E hds cs ex G L → M.at G L F σ H → ExIs M.C.K F H ex v d → wMany X.K W DD (trsH X hds cs) v d σ H
  | [], [], _, ex, G, L, F, σ, H, v, d, h, A, x => hk ex G L F σ H v d h A x
  | [], _ :: _, hc, _, _, _, _, _, _, _, _, _, _, _ => hc.elim
  | .ExceptHandler (some (.Name y p)) none (b0 :: ss) p2 :: hds, c :: cs, hc, ex, G, L, F, σ, H, v, d, h, A, x => by
    obtain ⟨b, hb, h1, h2⟩ := h
    refine ⟨b, by rw [← S.ok.eK, x.cls]; exact hb, fun e a _ oe pn _ _ => ?_, fun e => HT.many S hk o hc.2 (h2 e) A x⟩
    exact h1 e _ (S.sui a _) F σ H A _ ⟨o.nx, o.rt, o.bk, o.ct⟩
theorem run_try {body : List Stmt} {h0 : ExceptHandler} {hds : List ExceptHandler} (cs : List Value) (hlp : M.C.lp = true) (hc : HdsC M (h0 :: hds) cs)
    (h : Run { M with T := HT M { E with nx := fun G' L' => Run M G' L' rest E } (h0 :: hds) cs } G L body { E with nx := fun G' L' => Run M G' L' rest E }) : Run M G L (.Try body (h0 :: hds) [] [] pos :: rest) E := by
  intro X S F σ H A DD o
  obtain ⟨W, tk, hk⟩ := S.tk
  obtain ⟨st1, st2⟩ := S.ok.st hlp
  have o2 := o.seq S (rest := rest)
  refine gss_cons ⟨_, ps_try_many (tb := fun W' => fun D' σ' H' => ∀ pn xe, Takes (X.tr pn xe) W' → PassesOwn (model X.prog X.w) X.A X.env xe → GSs (X.tr pn xe) body D' σ' H') st1 st2 tk (fun W' pn xe t1 t2 => ⟨fun pins s σ H Q I q => bss.run pins s σ H Q I (q pn xe t1 t2)⟩) (hc.ok S), fun pn xe t1 t2 => ?_⟩
  exact h _ (S.tr t1 t2 fun ex G' L' F' σ' H' v d ht B x => HT.many S hk o2 hc ht B x) F σ H A _ ⟨o2.nx, o2.rt, o2.bk, o2.ct⟩
/-- try: body, except x as n: y = n.f -/
theorem run_try_line {body : List Stmt} {x n y f : Str} {np p1 p2 p3 p4 pos' : Pos} {Cc : Addr} {i j : Nat} (hlp : M.C.lp = true) (hg : GlC M.C x ∧ (x == ("__debug__" : Str)) = false ∧ M.C.mg x = some (.ref Cc)) (T : XfC M.C.K Cc) (hno : PySem.W.findIn M.C.K (.ref Cc) f = some none)
    (hx : PySem.W.exmOne M.C.K (.ref Cc) (.ref Cc) = some true) (hi : M.C.N[i]? = some n) (hj : M.C.N[j]? = some y) (hij : i ≠ j) (ln : M.C.sc.names.lookup n = some .local) (ly : M.C.sc.names.lookup y = some .local)
    (h : Run { M with T := fun ex G' L' => ∃ d, ex = .low Cc f d ∧ i < G'.length ∧ Run M ((G'.set j (some d)).set i none) L' rest E } G L body { E with nx := fun G' L' => Run M G' L' rest E })
    (hdn : (n == ("__debug__" : Str)) = false := by decide +kernel) (hcn : (n == ("__classdict__" : Str)) = false := by decide +kernel) (hsw : ∀ X : Cx, swapsWith (.Attribute (.Name n p2) f p3) (some (.Name y p1)) p4.line X.env = pure false := by intro _; rfl)
    (hb : ∀ X : Cx, attributeBase (.Name n p2) f X.env (eval (.Name n p2) X.env) = eval (.Name n p2) X.env := by intro _; rfl) :
    Run M G L (.Try body [.ExceptHandler (some (.Name x np)) (some n) [.Assign [.Name y p1] (.Attribute (.Name n p2) f p3) p4] pos'] [] [] pos :: rest) E := by
  intro X S F σ H A DD o
  obtain ⟨W, tk, hk⟩ := S.tk
  obtain ⟨st1, st2⟩ := S.ok.st hlp
  have o2 := o.seq S (rest := rest)
  have nd : X.N.Nodup := by rw [← S.ok.eN]; exact S.ok.nd
  have hi' := hi
  have hj' := hj
  rw [S.ok.eN] at hi hj
  have ln' : X.env.scope.names.lookup n = some .local := by rw [← S.ok.es]; exact ln
  have ly' : X.env.scope.names.lookup y = some .local := by rw [← S.ok.es]; exact ly
  rw [S.ok.eK] at T hno hx
  refine gss_cons ⟨_, ps_try_as (i := i) (n := n) (x := x) (c := .ref Cc) (tb := fun W' => fun D' σ' H' => ∀ pn xe, Takes (X.tr pn xe) W' → PassesOwn (model X.prog X.w) X.A X.env xe → GSs (X.tr pn xe) body D' σ' H')
    (ts := fun a cls d => tSeq (tAsg (tXf a cls d Cc f (tVar i)) (gName j)) tNext) st1 st2 nd hi ln' ⟨gl_of S hg.1, hg.2.1, .inl (mg_of S hg.2.2)⟩ tk (fun W' pn xe t1 t2 => ⟨fun pins s σ H Q I q => bss.run pins s σ H Q I (q pn xe t1 t2)⟩)
    (fun a oe cls d pn hz hv => pss_cons (ps_set (X := X.suite a ((a, oe) :: pn)) nd hj (.inl ly') (pe_xf T hno hz hv (pe_var hi (.inl ln') hdn hcn) (hb _)) (hsw _) (.inr ly')) pss_nil), fun pn xe t1 t2 => ?_⟩
  refine h _ (S.tr t1 t2 fun ex G' L' F' σ' H' v d ht B x => ?_) F σ H A _ ⟨o2.nx, o2.rt, o2.bk, o2.ct⟩
  obtain ⟨dd, rfl, hl, hr⟩ := ht
  cases x with
  | low ha rd =>
    rename_i da yv
    refine ⟨true, hx, fun _ a hna => ?_, fun e => nomatch e⟩
    have hl2 : i < σ'.length := by rw [← B.env.length]; exact hl
    refine ⟨.ref a, ?_, rfl, rfl, da, [(f, yv)], yv, rfl, ha, by rw [List.lookup_cons, beq_self_eq_true], ?_⟩
    · rw [List.getElem?_set_self hl2]
    · show GSs X rest DD ((((σ'.set i (some (.ref a))).set j (some yv))).set i none) H'
      have e1 : ((σ'.set i (some (.ref a))).set j (some yv)).set i none = (σ'.set j (some yv)).set i none := by
        rw [List.set_comm _ _ (Ne.symm hij), List.set_comm _ _ (Ne.symm hij), List.set_set]
      rw [e1]
      exact hr X S F' _ H' ((B.set (i := j) rd).envOf ((B.set (i := j) rd).env.clear i)) DD o

/-! ### raise C(e) -/
def spLow (Cc : Addr) (f : Str) : Sp := fun vs H Q E => ∃ a y, vs = [.ref a, y] ∧ H a = some (exo a Cc none) ∧ ∀ dx, H dx = none → dx ≠ a → Q .non (upd (upd H dx (exd dx [(f, y)])) a (exo a Cc (some dx)))
structure ExcL (P : Program) (w : World) (K : PySem.W.Frag) (mg : Str → Option Value) (base : Heap) (x : Str) (Cc : Addr) (f : Str) (j : Nat) : Prop where
  oex : OexC K Cc
  init : ∃ (fI : Addr) (fd : FuncData) (ps : List Str), PySem.W.findIn K (.ref Cc) "__init__" = some (some (.ref fI)) ∧ PySem.W.typeIn K (.ref fI) = some (.type "function") ∧ FnOk P w K mg base (L2.CX P w) j fI fd ps (spLow Cc f) ∧ Binds K fd ps []
  m : mg x = some (.ref Cc)
theorem passes_none {X : Cx} : Passes (L2.CX X.prog X.w) X (fun _ _ _ => False) := fun _ _ _ _ _ _ _ h => by
  obtain ⟨_, _, _, _, _, _, _, _, _, _, _, _, z⟩ := h
  exact z.elim
theorem low_ok {P : Program} {w : World} {K : PySem.W.Frag} {mg : Str → Option Value} {base : Heap} {qual : Str} {st : Stmt} {fI Cc : Addr} {fd : FuncData} {f : Str} {p1 p2 p3 p4 : Pos} (FF : Fun K "__init__" qual st fI fd) (S : FnScope ["self", f] ["self", f] (defScope st)) (oex : OexC K Cc) (hno : PySem.W.findIn K (.ref Cc) f = some none)
    (hb : defBody st = [.Assign [.Attribute (.Name "self" p1) f p2] (.Name f p3) p4]) (l1 : Vis (defScope st) "self") (l2 : Vis (defScope st) f) (hdf : (f == ("__debug__" : Str)) = false := by decide +kernel) (hcf : (f == ("__classdict__" : Str)) = false := by decide +kernel)
    (hsw : ∀ X : Cx, swapsWith (.Name f p3) (some (.Attribute (.Name "self" p1) f p2)) p4.line X.env = pure false := by intro _; rfl) : FnOk P w K mg base (L2.CX P w) 1 fI fd ["self", f] (spLow Cc f) := by
  refine FF.okX S (fun vs H Q E ⟨a, y, h, _⟩ => by rw [h]; rfl) (fun cdv A outer s H vs Q E hr h => ?_)
  obtain ⟨a, y, rfl, ha, hq⟩ := h
  rw [hb]
  refine ⟨_, pss_cons (ps_ost (X := cxOf (L2.CX P w) P w K mg base _ qual (defScope st) fI cdv A outer s H E) (pe_var (i := 0) rfl l1 (by decide) (by decide)) (pe_var (i := 1) rfl l2 hdf hcf) (hsw _)) pss_nil, ?_⟩
  refine ⟨y, rfl, .ref a, rfl, a, Cc, rfl, oex, hno, .inl ⟨ha, fun dx hd hne => hq dx hd hne⟩⟩
theorem run_raiseL {x f : Str} {p p2 : Pos} {e : Expr} {Cc : Addr} {j : Nat} (B : ExcL M.C.P M.C.w M.C.K M.C.mg M.C.base x Cc f j) (hc : M.C.cm = true) (hj : j + 1 ≤ M.C.k) (hg : GlC M.C x) (h : Ev M G L e fun d L1 => M.T (.low Cc f d) G L1)
    (hdb : (x == ("__debug__" : Str)) = false := by decide +kernel) (he : ∀ X : Cx, starEach [e] X.env = (false, eval e X.env) :: starEach [] X.env := by intro _; rfl) (hpl : ∀ X : Cx, (backTo p2 (starEach [] X.env)).any (·.1) = false := by intro _; rfl) :
    Run M G L (.Raise (some (.Call (.Name x p) [e] [] p2)) none pos :: rest) E := by
  intro X S F σ H A DD o
  obtain ⟨W, tk, hk⟩ := S.tk
  obtain ⟨oex, ⟨fI, fd, ps, iC, tI, ok, bd⟩, m⟩ := B
  rw [S.ok.eP, S.ok.ew, S.ok.eK, S.ok.em, S.ok.eb] at ok
  rw [S.ok.eK] at oex iC tI bd
  refine gss_cons ⟨_, ps_raise (S.ok.calm hc) tk (pmk_oex (pos := p2) oex iC tI ok (room_le S hc hj) bd (dvs := []) .nil passes_none (gl_of S hg) (mg_of S m) (pa_cons be pa_nil (he X)) hdb (he X) (hpl X)), ?_⟩
  refine h X S F σ H A _ fun d L1 v F1 H1 k1 A1 r1 s1 => ?_
  refine ⟨(show 1 ≤ 1000 by decide), fun a ha => ⟨a, v, rfl, upd_same, fun dx hdx hne => ⟨rfl, dx, [(f, v)], upd_same, by rw [upd_ne hne, upd_same], by rw [upd_ne hne] at hdx; exact hdx, ?_⟩⟩⟩
  have h1 : H1 dx = none := by rw [upd_ne hne] at hdx; exact hdx
  have e1 : upd (del (upd (upd (upd H1 a (exo a Cc none)) dx (exd dx [(f, v)])) a (exo a Cc (some dx))) a) dx (.xd [(f, v)]) = upd H1 dx (.xd [(f, v)]) := by
    funext b
    by_cases eb : b = dx
    · subst eb; rw [upd_same, upd_same]
    · rw [upd_ne eb, upd_ne eb]
      by_cases ea : b = a
      · subst ea; rw [del_same, ha]
      · rw [del_ne ea, upd_ne ea, upd_ne eb, upd_ne ea]
  rw [e1]
  exact hk _ G L1 F1 σ _ _ _ k1 (A1.junk h1) (.low upd_same r1)

/-! ### tuple * int -/
theorem op_mulT {ds : List D} {k : Int} (h0 : ds ≠ []) (h1 : 2 ≤ k) (h2 : k ≤ 1000) (h3 : ds.length ≤ 1000) (h : K (.tup (List.replicate k.toNat ds).flatten) L) : Op2 M G L (binaryOp .Mult) (.tup ds) (.int k) K := by
  intro X S F σ H v u A r1 r2 Q q
  obtain ⟨p, vs, rfl, e1, e2⟩ := tup_get A r1
  cases r2
  have rr : ∀ n : Nat, RepA M.C.K F (List.replicate n ds).flatten (List.replicate n vs).flatten := by
    intro n
    induction n with
    | zero => exact .nil
    | succ n ih => rw [List.replicate_succ, List.replicate_succ, List.flatten_cons, List.flatten_cons]; exact e2.append ih
  refine ⟨_, op_repT, p, k, vs, rfl, rfl, by rw [← S.ok.eK]; exact e1, fun e => h0 ?_, h1, h2, by rw [← e2.length]; exact h3, fun q' hq => ?_⟩
  · subst e; cases e2; rfl
  · obtain ⟨A2, s2⟩ := A.ice (o := .tup (List.replicate k.toNat vs).flatten) hq
    exact q _ L _ _ _ h A2 (.tup (.inl (.inl upd_same)) ((rr _).mono s2)) s2
end
end TL

namespace TL
open PySem L2 PySem.Spec PyProof.Rows
section
variable {M : Mode} {G : List (Option D)} {L : Led} {K : D → Led → Prop} {pos : Pos} {rest : List Stmt} {E : TD}
/-! ### xs[lo::st] of a list -/
def pickL {α : Type} (xs : List α) (lo st : Int) : List α := (sliceRange (sliceBounds (some lo) none (some st) xs.length).1 (sliceBounds (some lo) none (some st) xs.length).2.1 (sliceBounds (some lo) none (some st) xs.length).2.2).filterMap (xs[·]?)
theorem RepA.pick {Kk : PySem.W.Frag} {F : Hp} {ds : List D} {vs : List V} (h : RepA Kk F ds vs) (is : List Nat) : RepA Kk F (is.filterMap (ds[·]?)) (is.filterMap (vs[·]?)) := by
  induction is with
  | nil => exact .nil
  | cons i is ih =>
    cases e : ds[i]? with
    | none =>
      have e2 : vs[i]? = none := by
        rw [List.getElem?_eq_none_iff] at e ⊢
        rw [← h.length]; exact e
      rw [List.filterMap_cons_none e, List.filterMap_cons_none e2]
      exact ih
    | some d =>
      obtain ⟨v, hv, r⟩ := h.get e
      rw [List.filterMap_cons_some e, List.filterMap_cons_some hv]
      exact .cons r ih
theorem vals_pick {vs : List V} {us : List Value} (h : Vals vs us) (is : List Nat) : Vals (is.filterMap (vs[·]?)) (is.filterMap (us[·]?)) := by
  induction is with
  | nil => exact .nil
  | cons i is ih =>
    cases e : vs[i]? with
    | none =>
      have e2 : us[i]? = none := by
        rw [List.getElem?_eq_none_iff] at e ⊢
        have := Paired.length h
        omega
      rw [List.filterMap_cons_none e, List.filterMap_cons_none e2]
      exact ih
    | some d =>
      obtain ⟨v, hv, r⟩ := h.get e
      rw [List.filterMap_cons_some e, List.filterMap_cons_some hv]
      exact .cons r ih
def tPickL (K : PySem.W.Frag) (lo st : Int) (te : TE) : TE := fun σ H Q => te σ H fun x H1 => ∃ a xs, x = .ref a ∧ SqL K H1 a xs ∧ (pickL xs lo st).length ≤ sizeLine ∧ ∀ p, H1 p = none → Q (.ref p) (upd H1 p (.lst (pickL xs lo st)))
theorem pe_pickL {X : Cx} {e : Expr} {te : TE} {j k : Nat} {lo st : Int} {p1 p2 p3 pos : Pos} (he : PE X e te) (h0 : st ≠ 0) : PE X (.Subscript e (.Slice (some (.Constant (.int lo) j p1)) none (some (.Constant (.int st) k p2)) p3) pos) (tPickL X.K lo st te) := by
  refine ⟨fun pins s σ H Q I h => ?_⟩
  refine Subscript_ (thn (he.run pins s σ H _ I h) fun v s1 ⟨x, H1, I1, r1, q1⟩ => ?_)
  obtain ⟨a, xs, ex, hx, hlen, q⟩ := q1
  subst ex
  cases r1
  have hlo : PO X (some (.Constant (.int lo) j p1)) (tPart (tC (.int lo))) := po_some pe_int
  have hst : PO X (some (.Constant (.int st) k p2)) (tPart (tC (.int st))) := po_some pe_int
  refine wpAny_Slice (thn (hlo.run pins s1 σ H1 (fun o H2 => o = some lo ∧ H2 = H1) I1 ⟨lo, rfl, rfl, rfl⟩) fun vl s2 ⟨l, H2, I2, pl, el, e2⟩ => ?_)
  subst el e2
  refine thn (po_none.run pins s2 σ H2 (fun o H3 => o = none ∧ H3 = H2) I2 ⟨rfl, rfl⟩) fun vu s3 ⟨u, H3, I3, pu, eu, e3⟩ => ?_
  subst eu e3
  refine thn (hst.run pins s3 σ H3 (fun o H4 => o = some st ∧ H4 = H3) I3 ⟨st, rfl, rfl, rfl⟩) fun vs s4 ⟨o, H4, I4, ps, eo, e4⟩ => ?_
  subst eo e4
  have I5 : Inv X pins σ H4 { s4 with heap := s4.heap.push { cls := .type "slice", data := .fields #[vl, vu, vs] } } := I4.kept (t' := s4.toks) fun b ob q => Heap.get?_push_of_some _ q
  obtain ⟨its, r, ht, hz⟩ := I5.list hx
  have hl := r.length
  show wpAny (model X.prog X.w) X.A (subscriptTail e (.Slice (some (.Constant (.int lo) j p1)) none (some (.Constant (.int st) k p2)) p3) (.ref a) (.ref s4.heap.objs.size)) (EP X pins σ Q) X.xe { s4 with heap := s4.heap.push { cls := .type "slice", data := .fields #[vl, vu, vs] } }
  refine tail_any (ops := [.ref a, .ref s4.heap.objs.size]) ht.isList.typeIs (PySem.slot_list_getitem.lookup) ?_ (by with_unfolding_all rfl)
  refine wpAny_getItem_list_slice ht.isList (Heap.IsSliceOf.new _ vl vu vs) pl pu ps (fun z => h0 (Option.some.inj z)) ?_ (by rw [List.size_toArray]; omega)
  have e1 : slicePick its.toArray (some lo) none (some st) = (pickL its lo st).toArray := by
    unfold slicePick pickL
    simp
  rw [e1]
  refine ⟨.ref _, _, I5.laid (t' := s4.toks) (o := .lst (pickL xs lo st)) (fun b ob q => Heap.get?_push_of_some _ q) (Nat.le_refl _) ?_, rfl, q _ (I5.hok.fresh (Nat.le_refl _))⟩
  refine ⟨hlen, _, 0, ?_, Heap.get?_push_size _ rfl⟩
  unfold pickL
  rw [← hl]
  exact vals_pick r _
theorem ev_pick {e : Expr} {j k : Nat} {lo st : Int} {p1 p2 p3 : Pos} (h : Ev M G L e fun x L1 => ∃ ds, IsL L1 x ds ∧ (pickL ds lo st).length ≤ sizeLine ∧ ∀ p, K (.ref p) ((p, .lst (pickL ds lo st)) :: L1)) (h0 : st ≠ 0 := by decide) :
    Ev M G L (.Subscript e (.Slice (some (.Constant (.int lo) j p1)) none (some (.Constant (.int st) k p2)) p3) pos) K := by
  intro X S F σ H A Q q
  refine ⟨_, pe_pickL be h0, ?_⟩
  refine h X S F σ H A _ fun x L1 v F1 H1 k1 A1 r1 s1 => ?_
  obtain ⟨ds, hx, hlen, hk⟩ := k1
  obtain ⟨p, vs, rfl, h1, h2⟩ := hx.get A1 r1
  have rp : RepA M.C.K F1 (pickL ds lo st) (pickL vs lo st) := by
    unfold pickL
    rw [← h2.length]
    exact h2.pick _
  refine ⟨p, vs, rfl, SqL.of h1, by rw [← rp.length]; exact hlen, fun p' hp' => ?_⟩
  exact q _ _ _ F1 _ (hk p') (A1.new hp' (.lst upd_same rp)) (.v _) s1

/-! ### dict(zip(xs, ys)) -/
def tDZ (K : PySem.W.Frag) (ta : TA) : TE := fun σ H Q => ta σ H fun vs H1 => ∃ (a b : Addr) (ks : List Key) (ys : List V), vs = [.ref a, .ref b] ∧ SqL K H1 a (ks.map kV) ∧ SqL K H1 b ys ∧ ks.length = ys.length ∧ ∀ p, H1 p = none → Q (.ref p) (upd H1 p (.dK (mergeK [] (ks.zip ys))))
theorem kv_zip : ∀ {ks : List Key} {ys : List V} {us : List Value}, Vals ys us → KV (ks.zip ys) (ks.zip us)
  | [], _, _, _ => .nil
  | _ :: _, _, _, .nil => .nil
  | k :: ks, _, _, .cons r t => .cons ⟨rfl, r⟩ (kv_zip t)
theorem pe_dictzip {X : Cx} {e1 e2 : Expr} {ta : TA} {p p2 p3 pos : Pos} (hc : X.calm = true) (hg : Gl X "dict") (hm : X.mg "dict" = none) (hg2 : Gl X "zip") (hm2 : X.mg "zip" = none) (ha : PA X [e1, e2] ta)
    (hs0 : starEach [.Call (.Name "zip" p2) [e1, e2] [] p3] X.env = (false, eval (.Call (.Name "zip" p2) [e1, e2] [] p3) X.env) :: starEach [] X.env) (hs : starEach [e1, e2] X.env = (false, eval e1 X.env) :: starEach [e2] X.env) (hpl : (backTo p3 (starEach [e2] X.env)).any (·.1) = false) :
    PE X (.Call (.Name "dict" p) [.Call (.Name "zip" p2) [e1, e2] [] p3] [] pos) (tDZ X.K ta) := by
  refine ⟨fun pins s σ H Q I h => ?_⟩
  refine Call_ (ld_blt I hg hm PyProof.Rows.boot_dict (PyProof.Rows.callWith_type1 ?_ hs0 rfl))
  rw [hs0]
  refine Calls.spliced_cons ?_
  refine wpAny_mono (Q := fun v s1 => wpAny (model X.prog X.w) X.A (call (.type "dict") [v]) (EP X pins σ Q) X.xe s1) ?_ (fun v s1 hv => ?_) (fun _ _ x => x)
  · refine wpAny_mono (Call_ (ld_blt I hg2 hm2 PyProof.Rows.boot_zip (PyProof.Rows.callWith_type1 (Q := fun v s1 => wpAny (model X.prog X.w) X.A (call (.type "dict") [v]) (EP X pins σ Q) X.xe s1) (thn (ha.run p3 pins s σ H _ I h) fun us s1 ⟨vs, H1, I1, r1, q1⟩ => ?_) hs hpl))) (fun _ _ x => x) (fun _ _ x => x)
    obtain ⟨a, b, ks, ys, ex, hqx, hqy, hl, q⟩ := q1
    subst ex
    cases r1 with
    | cons r rr =>
      cases rr with
      | cons r' rr =>
        cases rr
        cases r
        cases r'
        obtain ⟨its, rv, pl1, hz1⟩ := I1.list hqx
        obtain ⟨its2, rv2, pl2, hz2⟩ := I1.list hqy
        refine call_zip_2 pl1.isList pl2.isList fun h' hz hTI hTO h1 h2 hsz hk => ?_
        have I2 : Inv X pins σ H1 { s1 with heap := h' } := I1.kept (t' := s1.toks) hk
        have P := PairArg.zip (prog := X.prog) (w := X.w) _ _ _ _ _ a b (PySem.W.ktu_apart s1.heap.objs.size a b pl1.lt pl2.lt) its.toArray its2.toArray
        have l1 := rv.length
        have l2 := rv2.length
        rw [List.length_map] at l1
        have hmn : min its.toArray.size its2.toArray.size = ks.length := by
          rw [List.size_toArray, List.size_toArray, ← l1, ← l2, hl, Nat.min_self]
        have hnb : ∀ z ∈ [s1.heap.objs.size + 4, s1.heap.objs.size + 3, s1.heap.objs.size, s1.heap.objs.size + 1], s1.heap.objs.size ≤ z := fun z hz' => by
          simp only [List.mem_cons, List.not_mem_nil, or_false] at hz'
          omega
        refine call_dict_pairs (s := { s1 with heap := h' }) (knd := mixKind X.prog X.w) (kvs := ks.zip its2) P (I.ok.hd hc) ⟨hz, hTI, ⟨_, _, hTO⟩, h1, h2, pl1.isList.at fun o e => hk _ o e, pl2.isList.at fun o e => hk _ o e⟩ ⟨?_, fun i key v ⟨g1, g2⟩ => ?_⟩ ?_ fun h'' tk hd' hk' => ?_
        · rw [hmn, List.length_zip, ← l2, hl, Nat.min_self]
        · have g1' : its[i]? = some key := by simpa using g1
          have g2' : its2[i]? = some v := by simpa using g2
          have hi : i < ks.length := by
            have := (List.getElem?_eq_some_iff.mp g1').1
            omega
          have ek : ks[i]? = some ks[i] := List.getElem?_eq_getElem hi
          obtain ⟨u, hu, rk⟩ := rv.get (i := i) (x := kV ks[i]) (by rw [List.getElem?_map, ek]; rfl)
          rw [g1'] at hu
          cases hu
          exact ⟨ks[i], by rw [List.getElem?_zip_eq_some]; exact ⟨ek, g2'⟩, kV_is rk⟩
        · rw [hmn]; rw [List.length_map] at hz1; exact hz1
        · have hbig : (h'.objs.size == sysModules) = false := beq_eq_false_iff_ne.mpr (Nat.ne_of_gt I2.big)
          have rel : KV (mergeK [] (ks.zip ys)) (merged [] (ks.zip its2)) := KV.merge (kv_zip rv2) .nil
          have hlen : (mergeK [] (ks.zip ys)).length ≤ sizeLine := by
            refine Nat.le_trans (length_mergeK _ []) ?_
            rw [List.length_nil, Nat.zero_add, List.length_zip, hl, Nat.min_self]
            exact hz2
          refine ⟨.ref h'.objs.size, _, I1.laid (a := h'.objs.size) (o := .dK (mergeK [] (ks.zip ys))) (t' := tk) (fun c o e => hk' c o (fun hm => ?_) (hk c o e)) (by rw [hsz]; exact Nat.le_add_right _ _) ⟨hlen, hbig, _, rel, hd'⟩, rfl, q _ (I1.hok.fresh (by rw [hsz]; exact Nat.le_add_right _ _))⟩
          exact absurd (Heap.lt_size e) (Nat.not_lt.mpr (hnb c hm))
  · exact Calls.spliced_nil hv
theorem RepK.zip {Kk : PySem.W.Frag} {F : Hp} : ∀ {ks : List Key} {es : List D} {ys : List V}, RepA Kk F es ys → RepK Kk F (ks.zip es) (ks.zip ys)
  | [], _, _, _ => .nil
  | _ :: _, _, _, .nil => .nil
  | k :: ks, _, _, .cons r t => .cons r (RepK.zip t)
theorem ev_dictzip {e1 e2 : Expr} {p p2 p3 : Pos} (hc : M.C.cm = true) (hg : GlC M.C "dict") (hm : M.C.mg "dict" = none) (hg2 : GlC M.C "zip") (hm2 : M.C.mg "zip" = none)
    (h : Ev M G L e1 fun x L1 => Ev M G L1 e2 fun y L2 => ∃ (ks : List Key) (ds : List D), IsL L2 x (ks.map fun k => .v (kV k)) ∧ IsL L2 y ds ∧ ks.length = ds.length ∧ ∀ l, K (.ref l) ((l, .dK (dispE (ks.zip ds))) :: L2))
    (hs0 : ∀ X : Cx, starEach [.Call (.Name "zip" p2) [e1, e2] [] p3] X.env = (false, eval (.Call (.Name "zip" p2) [e1, e2] [] p3) X.env) :: starEach [] X.env := by intro _; rfl) (hs : ∀ X : Cx, starEach [e1, e2] X.env = (false, eval e1 X.env) :: starEach [e2] X.env := by intro _; rfl)
    (hs2 : ∀ X : Cx, starEach [e2] X.env = (false, eval e2 X.env) :: starEach [] X.env := by intro _; rfl) (hpl : ∀ X : Cx, (backTo p3 (starEach [e2] X.env)).any (·.1) = false := by intro _; rfl) : Ev M G L (.Call (.Name "dict" p) [.Call (.Name "zip" p2) [e1, e2] [] p3] [] pos) K := by
  intro X S F σ H A Q q
  refine ⟨_, pe_dictzip (S.ok.calm hc) (gl_of S hg) (mg_of S hm) (gl_of S hg2) (mg_of S hm2) (pa_cons be (pa_cons be pa_nil (hs2 X)) (hs X)) (hs0 X) (hs X) (hpl X), ?_⟩
  refine h X S F σ H A _ fun x L1 v F1 H1 k1 A1 r1 s1 => ?_
  refine k1 X S F1 σ H1 A1 _ fun y L2 u F2 H2 k2 A2 r2 s2 => ?_
  obtain ⟨ks, ds, hx, hy, hl, hk⟩ := k2
  obtain ⟨a, vs, rfl, a1, a2⟩ := hx.get A2 (r1.mono s2)
  obtain ⟨b, us, rfl, b1, b2⟩ := hy.get A2 r2
  have ev : vs = ks.map kV := by
    have : (ks.map fun k => (.v (kV k) : D)) = (ks.map kV).map D.v := by simp
    rw [this] at a2
    exact a2.flats
  subst ev
  refine ⟨a, b, ks, us, rfl, SqL.of a1, SqL.of b1, by rw [hl]; exact b2.length, fun l hl' => ?_⟩
  exact q _ _ _ F2 _ (hk l) (A2.new hl' (.dK upd_same ((RepK.zip b2).fold .nil))) (.v _) (s1.trans s2)
/-! ### a, b = e, f, local names -/
theorem sw_par {env : Env} {x y : Str} {px py pt pt2 : Pos} {kt k2 : Nat} {a b : Expr} (hk : env.blockKind = .function) (hx : env.kindOf x = some .local) (hy : env.kindOf y = some .local) (hl : (py.line == px.line) = true) (hn : x ≠ y)
    (h1 : ([a, b].any fun | .Starred .. => true | _ => false) = false) (h2 : [a, b].all (foldedForSure 8) = false) (h3 : [a, b].all (constantsAlone 8) = false) :
    swappedStores [.Tuple [.Name x px, .Name y py] kt pt] (.Tuple [a, b] k2 pt2) env = pure (some [x, y]) := by
  have hl' : py.line = px.line := beq_iff_eq.mp hl
  have hn' : (y == x) = false := beq_eq_false_iff_ne.mpr (Ne.symm hn)
  have q1 : (Expr.Name x px).pos = px := rfl
  unfold swappedStores
  simp only [hk, List.filterMap_cons, List.filterMap_nil, hx, hy, List.head?_cons, Option.map_some, Option.getD_some, q1, hl', beq_self_eq_true, Bool.and_self, if_true, List.eraseDups_cons, List.filter_cons, List.filter_nil, hn', Bool.not_false, List.eraseDups_nil, h2, h3, List.length_cons, List.length_nil]
  rw [if_neg (by decide)]
  refine (if_neg (fun z => Bool.false_ne_true (h1.symm.trans z))).trans ?_
  rfl
/-- a, b = e, f -/
theorem run_par {x y : Str} {px py pt pt2 : Pos} {kt k2 : Nat} {a b : Expr} (hc : M.C.cm = true) (hx : M.C.sc.names.lookup x = some .local) (hy : M.C.sc.names.lookup y = some .local) (hk : M.C.sc.kind = .function) (hn : x ∈ M.C.N) (hm : y ∈ M.C.N) (hxy : x ≠ y) (hl : (py.line == px.line) = true)
    (h : Ev M G L a fun d L1 => Ev M G L1 b fun e L2 => ∃ G1 G2, Put M.C.N G x (some d) G1 ∧ Put M.C.N G1 y (some e) G2 ∧ Run M G2 L2 rest E)
    (h1 : ([a, b].any fun | .Starred .. => true | _ => false) = false := by rfl) (h2 : [a, b].all (foldedForSure 8) = false := by rfl) (h3 : [a, b].all (constantsAlone 8) = false := by rfl)
    (hs1 : ∀ X : Cx, starEach [a, b] X.env = (false, eval a X.env) :: starEach [b] X.env := by intro _; rfl) (hs2 : ∀ X : Cx, starEach [b] X.env = (false, eval b X.env) :: starEach [] X.env := by intro _; rfl)
    (hs : ∀ X : Cx, swapsWithSole [.Tuple [.Name x px, .Name y py] kt pt] (.Tuple [a, b] k2 pt2) pos.line X.env = pure false := by intro _; rfl) : Run M G L (.Assign [.Tuple [.Name x px, .Name y py] kt pt] (.Tuple [a, b] k2 pt2) pos :: rest) E := by
  intro X S F σ H A D o
  have nd : X.N.Nodup := by rw [← S.ok.eN]; exact S.ok.nd
  obtain ⟨i, hi⟩ := List.getElem?_of_mem hn
  obtain ⟨j, hj⟩ := List.getElem?_of_mem hm
  rw [S.ok.eN] at hi hj
  have lx : X.env.scope.names.lookup x = some .local := by rw [← S.ok.es]; exact hx
  have ly : X.env.scope.names.lookup y = some .local := by rw [← S.ok.es]; exact hy
  have kk : X.env.blockKind = .function := by
    unfold Env.blockKind
    rw [← S.ok.es, hk]
    rfl
  have hij : i ≠ j := fun e => hxy (by rw [e, hj] at hi; exact (Option.some.inj hi).symm)
  refine gss_cons ⟨_, ps_par (S.ok.calm hc) nd hi hj hij lx ly (pa_cons be (pa_cons be pa_nil (hs2 X)) (hs1 X)) (sw_par kk lx ly hl hxy h1 h2 h3) (hs X), ?_⟩
  refine h X S F σ H A _ fun d L1 v F1 H1 k1 A1 r1 s1 => ?_
  refine k1 X S F1 σ H1 A1 _ fun e L2 w F2 H2 k2 A2 r2 s2 => ?_
  obtain ⟨G1, G2, p1, p2, hr⟩ := k2
  obtain ⟨i', hi', rfl⟩ := p1.ix
  obtain ⟨j', hj', rfl⟩ := p2.ix
  rw [S.ok.eN] at hi' hj'
  have e1 : i' = i := nodup_ix nd hi' hi
  have e2 : j' = j := nodup_ix nd hj' hj
  subst e1 e2
  exact ⟨v, w, rfl, hr X S F2 _ H2 ((A2.set (r1.mono s2)).set r2) D o⟩
end
end TL

namespace TL
open PySem L2 PySem.Spec PyProof.Rows
/-- names of the module that stand for values -/
structure GVal (mg : Str → Option Value) (x : Str) (v : V) : Prop where
  ex : ∃ u, mg x = some u ∧ RelV v u
structure GTup (K : PySem.W.Frag) (mg : Str → Option Value) (x : Str) (vs : List V) : Prop where
  ex : ∃ p, mg x = some (.ref p) ∧ ∀ F, SqT K F p vs
section
variable {M : Mode} {G : List (Option D)} {L : Led} {K : D → Led → Prop} {pos : Pos}
theorem ev_gval {x : Str} {v : V} (B : GVal M.C.mg x v) (hg : GlC M.C x) (h : K (.v v) L) (hd : (x == ("__debug__" : Str)) = false := by decide +kernel) : Ev M G L (.Name x pos) K := by
  obtain ⟨u, hm, r⟩ := B.ex
  exact ev_glob hg hm r (fun F => .v v) h hd
theorem ev_gtup {x : Str} {vs : List V} (B : GTup M.C.K M.C.mg x vs) (hg : GlC M.C x) (h : K (.tup (vs.map D.v)) L) (hd : (x == ("__debug__" : Str)) = false := by decide +kernel) : Ev M G L (.Name x pos) K := by
  obtain ⟨p, hm, r⟩ := B.ex
  exact ev_glob (v := .ref p) (u := .ref p) hg hm rfl (fun F => .tup (r F) (RepA.of_flats vs)) h hd
theorem tst_bool {op : BoolOp} {es : List Expr} {KB : Bool → Led → Prop} (h : TstW M G L (.BoolOp op es pos) KB) : Tst M G L (.BoolOp op es pos) KB := tst_w h
end
theorem ix_dictR {X : Cx} (hu : X.A.units + 1 < cLine) : IxR X (fun x y H Q => ∃ a v, x = .ref a ∧ DGet H a y (some v) ∧ Q v H) := by
  intro value slice pins s σ H x y v u Q I rx ry h hs
  obtain ⟨a, w, rfl, g, q⟩ := h
  obtain rfl : v = Value.ref a := rx
  refine tail_any (ops := [Value.ref a, u]) (dict_typeIs I g) PySem.F.slot_dict_getitem.lookup (d_getItem hu I g ry fun w' s3 I3 rw' => ⟨w, H, I3, rw', q⟩) hs
theorem ix_K {M : Mode} {G : List (Option D)} {L : Led} {K : D → Led → Prop} {x : D} {kvs : List (Key × D)} {k : Key} {d : D} (hc : M.C.cm = true) (hx : IsK L x kvs) (hv : valD kvs k = some d) (h : K d L) : IxV M G L x (.v (kV k)) K := by
  intro X S F σ H v u A r1 r2 Q q
  cases r2
  obtain ⟨p, ws, rfl, h1, h2⟩ := hx.get A r1
  obtain ⟨w, e, rw'⟩ := (h2.val k).1 d hv
  exact ⟨_, ix_dictR (sit_hu S hc), p, w, rfl, .inl ⟨ws, k, h1, rfl, e.symm⟩, q d L w F H h A rw' (Same.refl _)⟩
theorem run_ret0 {M : Mode} {G : List (Option D)} {L : Led} {pos : Pos} {rest : List Stmt} {E : TD} {e : Expr} (h : Ev M G L e fun d _ => E.rt d []) : Run M G L (.Return (some e) pos :: rest) E :=
  run_ret (ev_drop (h.imp fun d L' k => ⟨[], List.nil_sublist _, k⟩))
theorem run_retN0 {M : Mode} {G : List (Option D)} {L : Led} {pos : Pos} {rest : List Stmt} {E : TD} (h : E.rt .non []) : Run M G L (.Return none pos :: rest) E := run_drop (List.nil_sublist _) (run_retN h)
theorem run_raiseD {M : Mode} {G : List (Option D)} {L : Led} {pos p p2 : Pos} {rest : List Stmt} {E : TD} {x : Str} {Cc : Addr} (B : ExcC M.C.K M.C.mg x Cc) (hc : M.C.cm = true) (hg : GlC M.C x) (h : M.T (.own Cc) G []) (hdb : (x == ("__debug__" : Str)) = false := by decide +kernel) :
    Run M G L (.Raise (some (.Call (.Name x p) [] [] p2)) none pos :: rest) E := run_drop (List.nil_sublist _) (run_raise0 B hc hg h hdb)
theorem run_raiseLD {M : Mode} {G : List (Option D)} {L : Led} {pos p p2 : Pos} {rest : List Stmt} {E : TD} {x f : Str} {e : Expr} {Cc : Addr} {j : Nat} (B : ExcL M.C.P M.C.w M.C.K M.C.mg M.C.base x Cc f j) (hc : M.C.cm = true) (hj : j + 1 ≤ M.C.k) (hg : GlC M.C x)
    (h : Ev M G L e fun d _ => M.T (.low Cc f d) G []) (hdb : (x == ("__debug__" : Str)) = false := by decide +kernel) (he : ∀ X : Cx, starEach [e] X.env = (false, eval e X.env) :: starEach [] X.env := by intro _; rfl) (hpl : ∀ X : Cx, (backTo p2 (starEach [] X.env)).any (·.1) = false := by intro _; rfl) :
    Run M G L (.Raise (some (.Call (.Name x p) [e] [] p2)) none pos :: rest) E := run_raiseL B hc hj hg (ev_drop (h.imp fun d L' k => ⟨[], List.nil_sublist _, k⟩)) hdb he hpl
theorem calls0 {M : Mode} {G : List (Option D)} {L1 : Led} {K : D → Led → Prop} {sp : Prm} {ds : List D} (h : sp ds [] (fun d L' => K d (L' ++ L1)) (fun ex L' => M.T ex G (L' ++ L1))) : Calls M G sp ds L1 K := ⟨[], L1, List.Perm.refl _, fun L' => L' ++ L1, fun _ => List.Perm.refl _, h⟩
/-- the key that a flat value is -/
def keyOf : V → Key
  | .int i => Sum.inl i
  | .str s => Sum.inr s
  | _ => Sum.inl 0
theorem keyOf_kV (k : Key) : keyOf (kV k) = k := by cases k <;> rfl
theorem valD_map (kvs : List (Key × V)) (k : Key) : valD (kvs.map fun kv => (kv.1, D.v kv.2)) k = (valV kvs k).map D.v := by
  unfold valD valV
  rw [List.find?_map, Option.map_map, Option.map_map]
  rfl
theorem andn_t {A B : Prop} (h : A) : ∃ k : Bool, D.bl (!false) = D.bl k ∧ (k = true → A) ∧ (k = false → B) := ⟨true, rfl, fun _ => h, fun e => nomatch e⟩
theorem andn_f {A B : Prop} (h : B) : ∃ k : Bool, D.bl (!true) = D.bl k ∧ (k = true → A) ∧ (k = false → B) := ⟨false, rfl, fun e => (nomatch e), fun _ => h⟩
theorem orn_t {A B : Prop} (h : B) : ∃ k : Bool, D.bl (!false) = D.bl k ∧ (k = false → A) ∧ (k = true → B) := ⟨true, rfl, fun e => (nomatch e), fun _ => h⟩
theorem orn_f {A B : Prop} (h : A) : ∃ k : Bool, D.bl (!true) = D.bl k ∧ (k = false → A) ∧ (k = true → B) := ⟨false, rfl, fun _ => h, fun e => nomatch e⟩
theorem tandn_t {A B : Prop} (h : A) : ((!false) = true → A) ∧ ((!false) = false → B) := ⟨fun _ => h, fun e => nomatch e⟩
theorem tandn_f {A B : Prop} (h : B) : ((!true) = true → A) ∧ ((!true) = false → B) := ⟨fun e => (nomatch e), fun _ => h⟩
theorem torn_t {A B : Prop} (h : B) : ((!false) = false → A) ∧ ((!false) = true → B) := ⟨fun e => (nomatch e), fun _ => h⟩
theorem torn_f {A B : Prop} (h : A) : ((!true) = false → A) ∧ ((!true) = true → B) := ⟨fun _ => h, fun e => nomatch e⟩
theorem and_t {A B : Prop} (h : A) : ∃ k : Bool, D.bl true = D.bl k ∧ (k = true → A) ∧ (k = false → B) := ⟨true, rfl, fun _ => h, fun e => nomatch e⟩
theorem and_f {A B : Prop} (h : B) : ∃ k : Bool, D.bl false = D.bl k ∧ (k = true → A) ∧ (k = false → B) := ⟨false, rfl, fun e => (nomatch e), fun _ => h⟩
theorem or_t {A B : Prop} (h : B) : ∃ k : Bool, D.bl true = D.bl k ∧ (k = false → A) ∧ (k = true → B) := ⟨true, rfl, fun e => (nomatch e), fun _ => h⟩
theorem or_f {A B : Prop} (h : A) : ∃ k : Bool, D.bl false = D.bl k ∧ (k = false → A) ∧ (k = true → B) := ⟨false, rfl, fun _ => h, fun e => nomatch e⟩
theorem not_t {A : Bool → Prop} (h : A false) : ∃ k : Bool, D.bl true = D.bl k ∧ A (!k) := ⟨true, rfl, h⟩
theorem not_f {A : Bool → Prop} (h : A true) : ∃ k : Bool, D.bl false = D.bl k ∧ A (!k) := ⟨false, rfl, h⟩
theorem tand_t {A B : Prop} (h : A) : (true = true → A) ∧ (true = false → B) := ⟨fun _ => h, fun e => nomatch e⟩
theorem tand_f {A B : Prop} (h : B) : (false = true → A) ∧ (false = false → B) := ⟨fun e => (nomatch e), fun _ => h⟩
theorem tor_t {A B : Prop} (h : B) : (true = false → A) ∧ (true = true → B) := ⟨fun e => (nomatch e), fun _ => h⟩
theorem tor_f {A B : Prop} (h : A) : (false = false → A) ∧ (false = true → B) := ⟨fun _ => h, fun e => nomatch e⟩
/-- ints, bools, texts, None -/
def scalV : V → Bool
  | .int _ => true
  | .bl _ => true
  | .str _ => true
  | .non => true
  | _ => false
theorem scal_cases {x : V} (h : scalV x = true) : (∃ i, x = .int i) ∨ (∃ b, x = .bl b) ∨ (∃ z, x = .str z) ∨ x = .non := by
  cases x with
  | int i => exact .inl ⟨i, rfl⟩
  | bl b => exact .inr (.inl ⟨b, rfl⟩)
  | str z => exact .inr (.inr (.inl ⟨z, rfl⟩))
  | non => exact .inr (.inr (.inr rfl))
  | _ => cases h
/-! ### comprehensions over a list that is known as xs.map g -/
section
variable {M : Mode} {G : List (Option D)} {K : D → Led → Prop} {α : Type}
theorem take_map {β : Type} {xs : List α} {g : α → β} {i : Nat} {d : β} (h : (xs.map g)[i]? = some d) : ∃ x, xs[i]? = some x ∧ d = g x ∧ x ∈ xs ∧ i < xs.length ∧ xs.take (i + 1) = xs.take i ++ [x] := by
  rw [List.getElem?_map] at h
  cases e : xs[i]? with
  | none => rw [e] at h; cases h
  | some x =>
    rw [e] at h
    refine ⟨x, rfl, (Option.some.inj h).symm, List.mem_of_getElem? e, (List.getElem?_eq_some_iff.mp e).1, ?_⟩
    rw [List.take_succ, e]; rfl
theorem lc_map (xs : List α) (g f : α → D) (p : α → Bool) {vs : List Nat} {scope : Scope} {elt tg : Expr} {ifs : List Expr} {src : Led} {items : List D} {L1 : Led} (he : items = xs.map g) (hsz : xs.length < sizeLine) (hsrc : ∀ s ∈ src, s ∈ L1)
    (turn : ∀ F1 Dl x acc, x ∈ xs → TgtN ((M.fix F1).blk scope) (wipeG G vs) ((Dl, .lst acc) :: L1) vs tg (g x) fun G2 => TstI ((M.fix F1).blk scope) G2 ((Dl, .lst acc) :: L1) ifs fun b L2 =>
      b = p x ∧ ((Dl, OW.lst acc) :: L1).Sublist L2 ∧ (p x = true → Ev ((M.fix F1).blk scope) G2 L2 elt fun y L3 => y = f x ∧ ((Dl, OW.lst acc) :: L1).Sublist L3))
    (hk : ∀ Dl, K (.ref Dl) ((Dl, .lst ((xs.filter p).map f)) :: L1)) : LcInv M G vs scope elt tg ifs src items L1 K := by
  subst he
  refine ⟨fun i acc L' => i ≤ xs.length ∧ L' = L1 ∧ acc = ((xs.take i).filter p).map f, ⟨Nat.zero_le _, rfl, rfl⟩, fun i acc L' ⟨h1, h2, h3⟩ => ⟨by rw [h2]; exact hsrc, ?_⟩, fun F1 Dl i d acc L' hd ⟨h1, h2, h3⟩ => ?_, fun acc L' ⟨h1, h2, h3⟩ Dl => ?_⟩
  · rw [h3, List.length_map]
    exact Nat.lt_of_le_of_lt (Nat.le_trans (List.length_filter_le _ _) (by rw [List.length_take]; omega)) hsz
  · subst h2
    obtain ⟨x, hx, rfl, hm, hlt, tk⟩ := take_map hd
    intro X S F σ H v A r Q q
    refine turn F1 Dl x acc hm X S F σ H v A r Q fun G' σ' k A' w => q G' σ' ?_ A' w
    have step : ∀ {b : Bool} {L2 : Led}, (b = p x ∧ ((Dl, OW.lst acc) :: L').Sublist L2 ∧ (p x = true → Ev ((M.fix F1).blk scope) G' L2 elt fun y L3 => y = f x ∧ ((Dl, OW.lst acc) :: L').Sublist L3)) →
        ((b = true → Ev ((M.fix F1).blk scope) G' L2 elt fun y L3 => ∃ L4 : Led, ((Dl, OW.lst acc) :: L4).Sublist L3 ∧ i + 1 ≤ xs.length ∧ L4 = L' ∧ acc ++ [y] = ((xs.take (i + 1)).filter p).map f) ∧
          (b = false → ∃ L4 : Led, ((Dl, OW.lst acc) :: L4).Sublist L2 ∧ i + 1 ≤ xs.length ∧ L4 = L' ∧ acc = ((xs.take (i + 1)).filter p).map f)) := by
      rintro b L2 ⟨rfl, s2, he⟩
      refine ⟨fun hb => (he hb).imp fun y L3 ⟨ey, s3⟩ => ⟨L', s3, hlt, rfl, ?_⟩, fun hb => ⟨L', s2, hlt, rfl, ?_⟩⟩
      · rw [tk, List.filter_append, List.map_append, h3, List.filter_cons, if_pos hb, ey]
        rfl
      · rw [tk, List.filter_append, List.map_append, h3, List.filter_cons, if_neg (by rw [hb]; decide)]
        simp
    match ifs, k with
    | [], k => exact step k
    | [c], k => exact fun X S F σ H A Q q => k X S F σ H A Q fun b L2 F2 H2 kb => q b L2 F2 H2 (step kb)
  · subst h2
    rw [List.length_map, List.take_length] at h3
    rw [h3]
    exact hk Dl
/-- no ifs -/
theorem lc_all (xs : List α) (g f : α → D) {vs : List Nat} {scope : Scope} {elt tg : Expr} {src : Led} {items : List D} {L1 : Led} (he : items = xs.map g) (hsz : xs.length < sizeLine) (hsrc : ∀ s ∈ src, s ∈ L1)
    (turn : ∀ F1 Dl x acc, x ∈ xs → TgtN ((M.fix F1).blk scope) (wipeG G vs) ((Dl, .lst acc) :: L1) vs tg (g x) fun G2 => Ev ((M.fix F1).blk scope) G2 ((Dl, .lst acc) :: L1) elt fun y L3 => y = f x ∧ ((Dl, OW.lst acc) :: L1).Sublist L3)
    (hk : ∀ Dl, K (.ref Dl) ((Dl, .lst (xs.map f)) :: L1)) : LcInv M G vs scope elt tg [] src items L1 K := by
  refine lc_map xs g f (fun _ => true) he hsz hsrc (fun F1 Dl x acc hx X S F σ H v A r Q q => turn F1 Dl x acc hx X S F σ H v A r Q fun G' σ' k A' w => q G' σ' ⟨rfl, List.Sublist.refl _, fun _ => k⟩ A' w) fun Dl => ?_
  have e : xs.filter (fun _ => true) = xs := List.filter_eq_self.mpr fun _ _ => rfl
  rw [e]
  exact hk Dl
theorem all_bl (p : α → Bool) (xs : List α) : (xs.map fun x => D.bl (p x)).all isBl = true := by simp [isBl]
theorem all_boolD (p : α → Bool) (xs : List α) : (xs.map fun x => D.bl (p x)).all boolD = xs.all p := by
  rw [List.all_map]
  rfl
theorem any_boolD (p : α → Bool) (xs : List α) : (xs.map fun x => D.bl (p x)).any boolD = xs.any p := by
  rw [List.any_map]
  rfl
theorem dispE_snoc (l : List (Key × D)) (a : Key × D) : dispE (l ++ [a]) = putE (dispE l) a.1 a.2 := by
  unfold dispE
  rw [List.foldl_append]
  rfl
theorem putE_length (l : List (Key × D)) (k : Key) (d : D) : (putE l k d).length ≤ l.length + 1 := by
  unfold putE
  split
  · rw [List.length_map]; exact Nat.le_succ _
  · simp
theorem dispE_length (l : List (Key × D)) : (dispE l).length ≤ l.length := by
  have go : ∀ (l acc : List (Key × D)), (l.foldl (fun acc kv => putE acc kv.1 kv.2) acc).length ≤ acc.length + l.length := by
    intro l
    induction l with
    | nil => intro acc; exact Nat.le_refl _
    | cons a l ih =>
      intro acc
      have h1 := ih (putE acc a.1 a.2)
      have h2 := putE_length acc a.1 a.2
      simp only [List.foldl_cons, List.length_cons]
      omega
  have := go l []
  simpa [dispE] using this
theorem putE_new {l : List (Key × D)} {k : Key} {d : D} (h : k ∉ l.map (·.1)) : putE l k d = l ++ [(k, d)] := by
  unfold putE
  rw [if_neg]
  intro hh
  obtain ⟨x, hx, e⟩ := List.any_eq_true.mp hh
  exact h (List.mem_map.mpr ⟨x, hx, of_decide_eq_true e⟩)
theorem dispE_nodup : ∀ {l : List (Key × D)}, (l.map (·.1)).Nodup → dispE l = l := by
  have go : ∀ (l acc : List (Key × D)), ((acc ++ l).map (·.1)).Nodup → l.foldl (fun acc kv => putE acc kv.1 kv.2) acc = acc ++ l := by
    intro l
    induction l with
    | nil => intro acc _; simp
    | cons a l ih =>
      intro acc h
      have hk : a.1 ∉ acc.map (·.1) := fun hm => by
        rw [List.map_append] at h
        exact (List.nodup_append.mp h).2.2 _ hm _ (by simp) rfl
      rw [List.foldl_cons, putE_new hk, ih]
      · simp
      · simpa using h
  intro l h
  exact go l [] h
theorem dc_map (xs : List α) (g : α → D) (kv : α → Key × D) (p : α → Bool) {vs : List Nat} {scope : Scope} {kx vx tg : Expr} {ifs : List Expr} {src : Led} {items : List D} {L1 : Led} (he : items = xs.map g) (hsz : xs.length < sizeLine) (hsrc : ∀ s ∈ src, s ∈ L1)
    (turn : ∀ F1 Dl x acc, x ∈ xs → TgtN ((M.fix F1).blk scope) (wipeG G vs) ((Dl, .dK acc) :: L1) vs tg (g x) fun G2 => TstI ((M.fix F1).blk scope) G2 ((Dl, .dK acc) :: L1) ifs fun b L2 =>
      b = p x ∧ ((Dl, OW.dK acc) :: L1).Sublist L2 ∧ (p x = true → Ev ((M.fix F1).blk scope) G2 L2 kx fun y L3 => Ev ((M.fix F1).blk scope) G2 L3 vx fun z L4 => y = .v (kV (kv x).1) ∧ z = (kv x).2 ∧ ((Dl, OW.dK acc) :: L1).Sublist L4))
    (hk : ∀ Dl, K (.ref Dl) ((Dl, .dK (dispE ((xs.filter p).map kv))) :: L1)) : DcInv M G vs scope kx vx tg ifs src items L1 K := by
  subst he
  refine ⟨fun i acc L' => i ≤ xs.length ∧ L' = L1 ∧ acc = dispE (((xs.take i).filter p).map kv), ⟨Nat.zero_le _, rfl, rfl⟩, fun i acc L' ⟨h1, h2, h3⟩ => ⟨by rw [h2]; exact hsrc, ?_⟩, fun F1 Dl i d acc L' hd ⟨h1, h2, h3⟩ => ?_, fun acc L' ⟨h1, h2, h3⟩ Dl => ?_⟩
  · rw [h3]
    refine Nat.lt_of_le_of_lt (dispE_length _) ?_
    rw [List.length_map]
    exact Nat.lt_of_le_of_lt (Nat.le_trans (List.length_filter_le _ _) (by rw [List.length_take]; omega)) hsz
  · subst h2
    obtain ⟨x, hx, rfl, hm, hlt, tk⟩ := take_map hd
    intro X S F σ H v A r Q q
    refine turn F1 Dl x acc hm X S F σ H v A r Q fun G' σ' k A' w => q G' σ' ?_ A' w
    have step : ∀ {b : Bool} {L2 : Led}, (b = p x ∧ ((Dl, OW.dK acc) :: L').Sublist L2 ∧ (p x = true → Ev ((M.fix F1).blk scope) G' L2 kx fun y L3 => Ev ((M.fix F1).blk scope) G' L3 vx fun z L4 => y = .v (kV (kv x).1) ∧ z = (kv x).2 ∧ ((Dl, OW.dK acc) :: L').Sublist L4)) →
        ((b = true → Ev ((M.fix F1).blk scope) G' L2 kx fun y L3 => Ev ((M.fix F1).blk scope) G' L3 vx fun z L4 => ∃ (k : Key) (L5 : Led), y = .v (kV k) ∧ ((Dl, OW.dK acc) :: L5).Sublist L4 ∧ i + 1 ≤ xs.length ∧ L5 = L' ∧ putE acc k z = dispE (((xs.take (i + 1)).filter p).map kv)) ∧
          (b = false → ∃ L5 : Led, ((Dl, OW.dK acc) :: L5).Sublist L2 ∧ i + 1 ≤ xs.length ∧ L5 = L' ∧ acc = dispE (((xs.take (i + 1)).filter p).map kv))) := by
      rintro b L2 ⟨rfl, s2, he⟩
      refine ⟨fun hb => (he hb).imp fun y L3 h3' => h3'.imp fun z L4 ⟨ey, ez, s3⟩ => ⟨(kv x).1, L', ey, s3, hlt, rfl, ?_⟩, fun hb => ⟨L', s2, hlt, rfl, ?_⟩⟩
      · rw [tk, List.filter_append, List.map_append, List.filter_cons, if_pos hb, ez, h3]
        exact (dispE_snoc _ _).symm
      · rw [tk, List.filter_append, List.map_append, h3, List.filter_cons, if_neg (by rw [hb]; decide)]
        simp
    match ifs, k with
    | [], k => exact step k
    | [c], k => exact fun X S F σ H A Q q => k X S F σ H A Q fun b L2 F2 H2 kb => q b L2 F2 H2 (step kb)
  · subst h2
    rw [List.length_map, List.take_length] at h3
    rw [h3]
    exact hk Dl
end
/-! ### slices -/
theorem cut_from (xs : List D) (k : Nat) : cutD xs (some (k : Int)) none = xs.drop k := by
  unfold cutD
  have h1 : HT.sIx xs.length 0 (some (k : Int)) = min k xs.length := by
    unfold HT.sIx
    simp
    omega
  have h2 : HT.sIx xs.length xs.length none = xs.length := by
    unfold HT.sIx
    simp
  rw [h1, h2]
  by_cases h : k ≤ xs.length
  · rw [Nat.min_eq_left h, List.take_of_length_le (by rw [List.length_drop]; omega)]
  · rw [Nat.min_eq_right (by omega), List.drop_of_length_le (by omega), List.drop_of_length_le (by omega), List.take_nil]
theorem cut_to (xs : List D) (k : Nat) : cutD xs none (some (k : Int)) = xs.take k := by
  unfold cutD
  have h1 : HT.sIx xs.length 0 none = 0 := by
    unfold HT.sIx
    simp
  have h2 : HT.sIx xs.length xs.length (some (k : Int)) = min k xs.length := by
    unfold HT.sIx
    simp
    omega
  rw [h1, h2, List.drop_zero, Nat.sub_zero, List.take_eq_take_iff]
  omega
theorem zipD_map {α β : Type} (xs : List α) (ys : List β) (f : α → D) (g : β → D) : zipD (xs.map f) (ys.map g) = (xs.zip ys).map fun p => .tup [f p.1, g p.2] := by
  unfold zipD
  rw [List.zip, List.zipWith_map, List.map_zipWith]
/-- a op b op' c, as a test -/
theorem tst_chain2 {M : Mode} {G : List (Option D)} {L : Led} {pos : Pos} {KB : Bool → Led → Prop} {a b c : Expr} {op op' : CmpOp} (h : Ev M G L a fun x L1 => Ev M G L1 b fun y L2 => Op2 M G L2 (compareOp op) x y fun d L3 => ∃ k : Bool, d = .bl k ∧
      (k = true → Ev M G L3 c fun z L4 => Op2 M G L4 (compareOp op') y z fun d L5 => ∃ k : Bool, d = .bl k ∧ KB k L5) ∧ (k = false → KB false L3)) (hm : lastMarks [op, op'] [b, c] = false := by with_unfolding_all rfl) : Tst M G L (.Compare a [op, op'] [b, c] pos) KB := by
  intro X S F σ H A Q q
  refine ⟨_, pt_chain bop bop be be be hm, ?_⟩
  refine h X S F σ H A _ fun x L1 v F1 H1 k1 A1 r1 s1 => ?_
  refine k1 X S F1 σ H1 A1 _ fun y L2 u F2 H2 k2 A2 r2 s2 => ?_
  refine k2 X S F2 σ H2 v u A2 (r1.mono s2) r2 _ fun d L3 w F3 H3 k3 A3 r3 s3 => ?_
  obtain ⟨k, rfl, ht, hf⟩ := k3
  cases r3
  refine ⟨k, rfl, ?_⟩
  cases k with
  | true =>
    rw [if_pos rfl]
    refine ht rfl X S F3 σ H3 A3 _ fun z L4 w4 F4 H4 k4 A4 r4 s4 => ?_
    refine k4 X S F4 σ H4 u w4 A4 (r2.mono (s3.trans s4)) r4 _ fun d L5 w5 F5 H5 k5 A5 r5 s5 => ?_
    obtain ⟨k', rfl, hk'⟩ := k5
    cases r5
    exact ⟨k', rfl, q _ L5 F5 H5 hk' A5 ((((s1.trans s2).trans s3).trans s4).trans s5)⟩
  | false =>
    rw [if_neg Bool.false_ne_true]
    exact ⟨false, rfl, q _ L3 F3 H3 (hf rfl) A3 ((s1.trans s2).trans s3)⟩
end TL

namespace TL
open PySem L2 PySem.Spec PyProof.Rows
theorem at_nat {α : Type} {xs : List α} {z : Int} {j : Nat} {v : α} (e : z = (j : Int)) (h : xs[j]? = some v) : atI xs z = some v := by
  rw [e]
  exact atI_nat h
section
variable {M : Mode} {G : List (Option D)} {L : Led}
theorem evp_n {K : Option Int → Led → Prop} (h : K none L) : EvP M G L none K := h
theorem evp_i {i : Int} {j : Nat} {pos : Pos} {K : Option Int → Led → Prop} (h : K (some i) L) : EvP M G L (some (.Constant (.int i) j pos)) K := ev_int ⟨_, rfl, h⟩
theorem evp_s {e : Expr} {K : Option Int → Led → Prop} (h : Ev M G L e fun d L1 => ∃ i, d = .int i ∧ K (some i) L1) : EvP M G L (some e) K := h
end
end TL
namespace TL
open PySem L2 PySem.Spec PyProof.Rows
section
variable {M : Mode} {G : List (Option D)} {L : Led} {pos : Pos}
/-- xs[i] = .. -/
theorem tgt_sub {o i : Expr} {d : D} {K : List (Option D) → Led → Prop} (h : Ev M G L o fun x L1 => Ev M G L1 i fun y L2 => ∃ (l : Addr) (ds : List D) (k : Int) (j : Nat) (L3 : Led), x = .ref l ∧ y = .int k ∧ ixN ds.length k = some j ∧ Chg L2 l (.lst ds) (.lst (ds.set j d)) L3 ∧ K G L3)
    (ha : ∀ (X : Cx) v, assign (.Subscript o i pos) X.env v = (do
      let ov ← holding [v] (eval o X.env)
      let iv ← holding [v, ov] (eval i X.env)
      standAt pos
      holding [v, ov, iv] (setItem ov iv v)
      release [v, ov, iv] []) := by intro _ _; rfl) : Tgt M G L (.Subscript o i pos) d K := by
  intro X S F σ H v A r Q q
  refine ⟨_, pg_sub be be set_list (ha X), ?_⟩
  refine h X S F σ H A _ fun x L1 v1 F1 H1 k1 A1 r1 s1 => ?_
  refine k1 X S F1 σ H1 A1 _ fun y L2 u F2 H2 k2 A2 r2 s2 => ?_
  obtain ⟨l, ds, k, j, L3, rfl, rfl, hj, ch, hk⟩ := k2
  cases r2
  cases r1
  obtain ⟨ow, _, _⟩ := A2.own _ ch.mem
  cases ow with
  | lst e1 e2 =>
    refine ⟨l, _, k, j, rfl, rfl, e1, by rw [← e2.length]; exact hj, ?_⟩
    exact q G L3 F2 σ _ hk (A2.chg ch (.lst upd_same (e2.set j (r.mono (s1.trans s2))))) (s1.trans s2)
end
end TL
namespace TL
open PySem L2
section
variable {M : Mode} {G : List (Option D)} {L : Led} {pos : Pos} {rest : List Stmt} {E : TD}
theorem Run.mono {ss : List Stmt} {Q Q' : List (Option D) → Led → Prop} (k : ∀ G L, Q G L → Q' G L) (h : Run M G L ss { E with nx := Q }) : Run M G L ss { E with nx := Q' } :=
  fun X S F σ H A D o => h X S F σ H A D ⟨fun G L F σ H q => o.nx G L F σ H (k G L q), o.rt, o.bk, o.ct⟩
/-- an if, with a word for where its ways meet -/
theorem run_ifQ (Q : List (Option D) → Led → Prop) {c : Expr} {a b : List Stmt} (h : Tst M G L c fun k L1 => (k = true → Run M G L1 a { E with nx := Q }) ∧ (k = false → Run M G L1 b { E with nx := Q })) (kq : ∀ G' L', Q G' L' → Run M G' L' rest E) :
    Run M G L (.If c a b pos :: rest) E := by
  refine run_if fun X S F σ H A QQ qq => ?_
  exact h X S F σ H A QQ fun k L1 F1 H1 hk A1 s1 => qq k L1 F1 H1 ⟨fun e => (hk.1 e).mono kq, fun e => (hk.2 e).mono kq⟩ A1 s1
end
end TL

namespace TL
open PySem L2 PySem.Spec PyProof.Rows
section
variable {M : Mode} {G : List (Option D)} {L : Led} {K : D → Led → Prop} {pos : Pos}
/-! ### made and frozen at once -/
theorem op_frz {f : Value → Value → Sem Value} {x y : D} (h : Op2 M G L f x y fun d L1 => ∃ p o L2, d = .ref p ∧ Out L1 p o L2 ∧ K o.frz L2) : Op2 M G L f x y K := fun X S F σ H v u A r1 r2 Q q =>
  h X S F σ H v u A r1 r2 Q fun d L1 w F1 H1 ⟨p, o, L2, ed, ho, k⟩ A1 r1 s1 => by
    subst ed
    cases r1
    obtain ⟨F2, A2, s2, r2⟩ := A1.freeze ho
    exact q _ L2 _ F2 H1 k A2 r2 (s1.trans s2)
theorem op_catF {x y : D} {ds es : List D} (hx : IsL L x ds) (hy : IsL L y es) (hl : ds.length + es.length ≤ sizeLine) (h : K (.lst (ds ++ es)) L) : Op2 M G L (binaryOp .Add) x y K :=
  op_frz (op_catL hx hy hl fun p => ⟨p, _, _, rfl, .here, h⟩)
theorem sl_frz {x : D} {lo hi : Option Int} (h : SlV M G L x lo hi fun d L1 => ∃ p o L2, d = .ref p ∧ Out L1 p o L2 ∧ K o.frz L2) : SlV M G L x lo hi K := fun X S F σ H v A r1 Q q =>
  h X S F σ H v A r1 Q fun d L1 w F1 H1 ⟨p, o, L2, ed, ho, k⟩ A1 r1 s1 => by
    subst ed
    cases r1
    obtain ⟨F2, A2, s2, r2⟩ := A1.freeze ho
    exact q _ L2 _ F2 H1 k A2 r2 (s1.trans s2)
theorem sl_LF {x : D} {ds : List D} {lo hi : Option Int} (hx : IsL L x ds) (h : K (.lst (cutD ds lo hi)) L) : SlV M G L x lo hi K := sl_frz (sl_L hx fun p => ⟨p, _, _, rfl, .here, h⟩)
theorem ev_lstF {es : List Expr} (h : EvA M G L es fun ds L1 => ds.length ≤ sizeLine ∧ K (.lst ds) L1) : Ev M G L (.List es pos) K :=
  ev_frz (ev_lst fun X S F σ H A Q q => h X S F σ H A Q fun ds L1 vs F1 H1 ⟨h1, h2⟩ => q ds L1 vs F1 H1 ⟨h1, fun p => ⟨p, _, _, rfl, .here, h2⟩⟩)
theorem ev_dnewF (h : K (.dK []) L) : Ev M G L (.Dict [] [] pos) K := ev_frz (ev_dnew fun p => ⟨p, _, _, rfl, .here, h⟩)
/-- {k: v}, one entry -/
theorem ev_disp1 {k v : Expr} (h : ∀ p, Ev M G ((p, .dK []) :: L) k fun x L1 => Ev M G L1 v fun y L2 => ∃ (kk : Key), x = .v (kV kk) ∧ ∃ L', L2 = (p, .dK []) :: L' ∧ K (.dK [(kk, y)]) L') : Ev M G L (.Dict [some k] [v] pos) K := by
  refine ev_frz (ev_disp (fun p => ?_) (h15 := show 1 ≤ 15 by decide))
  show Ev M G _ k fun x L1 => Ev M G L1 v fun y L2 => _
  refine (h p).imp fun x L1 h1 => h1.imp fun y L2 ⟨kk, ex, L', eL, hk⟩ => ?_
  subst ex eL
  exact ⟨[(kk, y)], _, rfl, .here, (show 1 ≤ 15 by decide), p, _, _, rfl, .here, hk⟩
/-- a, b: own objects handed to a callee, on top of the ledger -/
theorem callsT {Lc R : Led} {sp : Prm} {ds : List D} (h : sp ds Lc (fun d L' => K d (L' ++ R)) (fun ex L' => M.T ex G (L' ++ R))) : Calls M G sp ds (Lc ++ R) K := ⟨Lc, R, List.Perm.refl _, fun L' => L' ++ R, fun _ => List.Perm.refl _, h⟩
theorem app_len (a b : Str) : (a ++ b).length = a.length + b.length := by
  show (a ++ b).cps.size = a.cps.size + b.cps.size
  show (a.cps ++ b.cps).size = _
  rw [Array.size_append]
end
end TL
namespace TL
open PySem L2
def Len (n : Nat) (a : Str) : Prop := a.length ≤ n
theorem len_lit {a : Str} : Len a.length a := Nat.le_refl _
theorem len_app {a b : Str} {n m : Nat} (h : Len n a) (g : Len m b) : Len (n + m) (a ++ b) := by
  unfold Len at *
  rw [app_len]
  omega
theorem op_addL {M : Mode} {G : List (Option D)} {L : Led} {K : D → Led → Prop} {i j : Str} {n m : Nat} (h : Len n i) (g : Len m j) (hs : n + m ≤ sizeLine) (k : K (.str (i ++ j)) L) : Op2 M G L (binaryOp .Add) (.str i) (.str j) K :=
  op_addS (Nat.le_trans (Nat.add_le_add h g) hs) k
end TL
namespace TL
open PySem L2
theorem strD_map (ls : List Str) : (ls.map D.str).map strD = ls := by
  rw [List.map_map]
  exact List.map_id _
theorem isStr_map (ls : List Str) : (ls.map D.str).all isStr = true := by
  rw [List.all_map]
  exact List.all_eq_true.mpr fun _ _ => rfl
theorem sum_len : ∀ (ls : List Str), (∀ x ∈ ls, x.length ≤ 1000) → (ls.map (·.length)).sum ≤ ls.length * 1000
  | [], _ => Nat.le_refl _
  | a :: l, h => by
    have h1 := h a List.mem_cons_self
    have h2 := sum_len l fun x hx => h x (List.mem_cons_of_mem _ hx)
    simp only [List.map_cons, List.sum_cons, List.length_cons]
    omega
/-- sep.join of a list of texts -/
theorem ev_joinL {M : Mode} {G : List (Option D)} {L : Led} {pos : Pos} {K : D → Led → Prop} {apos : Pos} {o e : Expr} (h : Ev M G L o fun x L1 => ∃ a, x = .str a ∧ Ev M G L1 e fun y L2 => ∃ ls : List Str, IsSq L2 y (ls.map D.str) ∧ (∀ x ∈ ls, x.length ≤ 1000) ∧ ls.length ≤ 1000 ∧ a.length ≤ 1000 ∧ K (.str (Txt.join a ls)) L2)
    (k : (Ev M G L o fun x L1 => ∃ a, x = .str a ∧ Ev M G L1 e fun y L2 => ∃ ds, IsSq L2 y ds ∧ ds.all isStr = true ∧ ((ds.map strD).map (·.length)).sum + (ds.map strD).length * a.length ≤ 16777216 ∧ K (.str (Txt.join a (ds.map strD))) L2) → Ev M G L (.Call (.Attribute o "join" apos) [e] [] pos) K) :
    Ev M G L (.Call (.Attribute o "join" apos) [e] [] pos) K := by
  refine k (h.imp fun x L1 ⟨a, ex, h1⟩ => ⟨a, ex, h1.imp fun y L2 ⟨ls, h2, h3, h4, h5, h6⟩ => ⟨_, h2, isStr_map ls, ?_, ?_⟩⟩)
  · rw [strD_map]
    have := sum_len ls h3
    have h7 : ls.length * a.length ≤ 1000 * 1000 := Nat.mul_le_mul h4 h5
    omega
  · rw [strD_map]
    exact h6
end TL

namespace TL
open PySem L2 PySem.Spec
/-! ### == of data at any depth -/
def flatPy : V → Option PyData
  | .non => some .none
  | .bl b => some (.bool b)
  | .int i => some (.int i)
  | .str z => some (.str z)
  | _ => none
mutual
inductive PyOf (L : Led) : D → PyData → Prop
  | v {x : V} {e : PyData} : flatPy x = some e → PyOf L (.v x) e
  | tup {ds : List D} {es : List PyData} : PyAll L ds es → PyOf L (.tup ds) (.tuple es)
  | lst {x : D} {ds : List D} {es : List PyData} : IsL L x ds → PyAll L ds es → PyOf L x (.list es)
inductive PyAll (L : Led) : List D → List PyData → Prop
  | nil : PyAll L [] []
  | cons {d : D} {ds : List D} {e : PyData} {es : List PyData} : PyOf L d e → PyAll L ds es → PyAll L (d :: ds) (e :: es)
end
section
variable {K : PySem.W.Frag} {H0 F0 F H : Hp} {G : List (Option D)} {L : Led} {σ : St}
mutual
theorem PyOf.dp (A : At K H0 F0 G L F σ H) : ∀ (e : PyData) (x : D) (v : V), PyOf L x e → Rep K F x v → Dp K H v e
  | .none, _, _, h, r => by
    cases h with
    | v q => cases r; rename_i x; cases x <;> first | cases q; exact .non | cases q
  | .bool b, _, _, h, r => by
    cases h with
    | v q => cases r; rename_i x; cases x <;> first | cases q; exact .bl _ | cases q
  | .int b, _, _, h, r => by
    cases h with
    | v q => cases r; rename_i x; cases x <;> first | cases q; exact .int _ | cases q
  | .str b, _, _, h, r => by
    cases h with
    | v q => cases r; rename_i x; cases x <;> first | cases q; exact .str _ | cases q
  | .list es, _, _, h, r => by
    cases h with
    | v q => rename_i x; cases x <;> cases q
    | lst i a =>
      obtain ⟨p, vs, rfl, h1, h2⟩ := i.get A r
      exact .lst (SqL.of h1) (PyOf.dpAll A es _ vs a h2)
  | .tuple es, _, _, h, r => by
    cases h with
    | v q => rename_i x; cases x <;> cases q
    | tup a =>
      obtain ⟨p, vs, rfl, h1, h2⟩ := tup_get A r
      exact .tup h1 (PyOf.dpAll A es _ vs a h2)
  | .dict es, _, _, h, r => by
    cases h with
    | v q => rename_i x; cases x <;> cases q
theorem PyOf.dpAll (A : At K H0 F0 G L F σ H) : ∀ (es : List PyData) (ds : List D) (vs : List V), PyAll L ds es → RepA K F ds vs → DpAll K H vs es
  | [], _, _, h, r => by cases h; cases r; exact .nil
  | e :: es, _, _, h, r => by
    cases h with
    | cons h1 h2 =>
      cases r with
      | cons r1 r2 => exact .cons (PyOf.dp A e _ _ h1 r1) (PyOf.dpAll A es _ _ h2 r2)
end
end
section
variable {M : Mode} {G : List (Option D)} {L : Led} {K : D → Led → Prop} {pos : Pos}
theorem sit_64 {X : Cx} (S : Sit M X) (hc : M.C.cm = true) : X.A.units + 64 < cLine := (S.ok.room hc).units
theorem op_eqP (hc : M.C.cm = true) {x y : D} {d e : PyData} (hx : PyOf L x d) (hy : PyOf L y e) (sd : SeqAt.shaped d = true) (se : SeqAt.shaped e = true) (h : K (.bl (PyData.eqv d e)) L) : Op2 M G L (compareOp .Eq) x y K := by
  intro X S F σ H v u A rx ry Q q
  refine ⟨_, op_eqD (sit_64 S hc), d, e, ?_, ?_, sd, se, q _ L _ F H h A (.v _) (Same.refl _)⟩
  · rw [← S.ok.eK]; exact PyOf.dp A d x v hx rx
  · rw [← S.ok.eK]; exact PyOf.dp A e y u hy ry
theorem op_neP (hc : M.C.cm = true) {x y : D} {d e : PyData} (hx : PyOf L x d) (hy : PyOf L y e) (sd : SeqAt.shaped d = true) (se : SeqAt.shaped e = true) (h : K (.bl (!PyData.eqv d e)) L) : Op2 M G L (compareOp .NotEq) x y K := by
  intro X S F σ H v u A rx ry Q q
  refine ⟨_, op_neD (sit_64 S hc), d, e, ?_, ?_, sd, se, q _ L _ F H h A (.v _) (Same.refl _)⟩
  · rw [← S.ok.eK]; exact PyOf.dp A d x v hx rx
  · rw [← S.ok.eK]; exact PyOf.dp A e y u hy ry
/-! ### f-strings -/
/-- a part's text -/
def FmD (d : D) (z : Str) : Prop := (d = .str z ∧ z.length ≤ sizeLine) ∨ ∃ i : Int, d = .int i ∧ i.natAbs.log2 < 1920 ∧ z = toString i
def tB2 {X : Cx} (e : Expr) : TE := fun σ H Q => GE X e σ H Q
theorem ev_fmt {e : Expr} (h : Ev M G L e fun d L1 => ∃ z, FmD d z ∧ K (.str z) L1) : Ev M G L (.FormattedValue e (-1) none pos) K := by
  intro X S F σ H A Q q
  refine ⟨_, pe_fmt be, ?_⟩
  refine h X S F σ H A _ fun d L1 v F1 H1 k1 A1 r1 s1 => ?_
  obtain ⟨z, hz, hk⟩ := k1
  rcases hz with ⟨rfl, hl⟩ | ⟨i, rfl, hl, rfl⟩
  · cases r1
    exact .inl ⟨z, rfl, hl, q _ L1 _ F1 H1 hk A1 (.v _) s1⟩
  · cases r1
    exact .inr ⟨i, rfl, hl, q _ L1 _ F1 H1 hk A1 (.v _) s1⟩
theorem ev_joined3 {a b c : Expr} (h : Ev M G L a fun x L1 => ∃ u : Str, x = .str u ∧ (Str.empty ++ u).length ≤ sizeLine ∧ Ev M G L1 b fun y L2 => ∃ v : Str, y = .str v ∧ (Str.empty ++ u ++ v).length ≤ sizeLine ∧
    Ev M G L2 c fun z L3 => ∃ t : Str, z = .str t ∧ (Str.empty ++ u ++ v ++ t).length ≤ sizeLine ∧ K (.str (Str.empty ++ u ++ v ++ t)) L3) : Ev M G L (.JoinedStr [a, b, c] pos) K := by
  intro X S F σ H A Q q
  refine ⟨_, pe_joined (.cons be (.cons be (.cons be .nil))), ?_⟩
  refine h X S F σ H A _ fun x L1 v1 F1 H1 k1 A1 r1 s1 => ?_
  obtain ⟨u, rfl, l1, k1⟩ := k1
  cases r1
  refine ⟨u, rfl, l1, ?_⟩
  refine k1 X S F1 σ H1 A1 _ fun y L2 v2 F2 H2 k2 A2 r2 s2 => ?_
  obtain ⟨v, rfl, l2, k2⟩ := k2
  cases r2
  refine ⟨v, rfl, l2, ?_⟩
  refine k2 X S F2 σ H2 A2 _ fun z L3 v3 F3 H3 k3 A3 r3 s3 => ?_
  obtain ⟨t, rfl, l3, k3⟩ := k3
  cases r3
  exact ⟨t, rfl, l3, q _ L3 _ F3 H3 k3 A3 (.v _) ((s1.trans s2).trans s3)⟩
end
end TL

namespace TL
open PySem L2 PySem.Spec
/-! ### enumerate of a tuple -/
def ItU (K : PySem.W.Frag) (a : Addr) : It where
  go := fun i H => ∃ (zs : List V) (z : V), SqT K H a zs ∧ zs[i]? = some z
  yld := fun i H v H' => ∃ T z, v = .ref T ∧ H T = none ∧ H' = upd H T (.tup [.int (i : Nat), z]) ∧ ∀ zs, SqT K H a zs → zs[i]? = some z
  stop := fun i H => ∃ zs : List V, SqT K H a zs ∧ zs.length ≤ i
def tnU (a e it : Addr) (i : Nat) (h : Heap) : Prop := (∃ old, IsEnum h e it ((i : Nat) : Int) old) ∧ h.IsTupleIter it a i ∧ e ≠ it
theorem apart_of {h : Heap} {a e it : Addr} {i : Nat} {vs : Array Value} (t : tnU a e it i h) (p : h.IsTuple a vs) : a ≠ it ∧ e ∉ [it, a] := by
  obtain ⟨⟨old, he⟩, ⟨o, ho, hc, hd⟩, hne⟩ := t
  obtain ⟨q, hq, hqc, n, hqd⟩ := p
  have n1 : a ≠ it := by
    rintro rfl
    rw [hq] at ho
    cases ho
    rw [hqd] at hd
    cases hd
  refine ⟨n1, fun hm => ?_⟩
  rcases List.mem_cons.mp hm with r | hm
  · exact hne r
  · have r := List.mem_singleton.mp hm
    subst r
    rw [he] at hq
    cases hq
    cases hqd
theorem turnU {P : Program} {w : World} {K : PySem.W.Frag} {elts : List Expr} {kk : Nat} {tp : Pos} (a e it : Addr) : Turn P w K (.Tuple elts kk tp) (ItU K a) [e, it] e (tnU a e it) where
  mem := List.mem_cons_self
  obj := by
    intro i h t b hb
    obtain ⟨⟨old, he⟩, ⟨o, ho, hc, hd⟩, _⟩ := t
    rcases List.mem_cons.mp hb with z | hb
    · subst z; exact ⟨_, he, fun v q => nomatch q⟩
    · rw [List.mem_singleton.mp hb]; exact ⟨o, ho, fun v q => by rw [hd] at q; cases q⟩
  keep := by
    intro i h h' t k
    obtain ⟨⟨old, he⟩, hi, hne⟩ := t
    exact ⟨⟨old, k e (by simp) _ he⟩, hi.at fun o q => k it (by simp) o q, hne⟩
  item := by
    intro X hP hw hK hc i pins s σ H E I hf t hg
    subst hP hw hK
    obtain ⟨zs, z, hq, hx⟩ := hg
    obtain ⟨its, rv, p, hz⟩ := I.tuple hq
    obtain ⟨u, hu, ru⟩ := rv.get hx
    obtain ⟨ha, hm⟩ := apart_of t p
    obtain ⟨⟨old, he⟩, hit, hne⟩ := t
    have hel := Heap.lt_size he
    have hil : it < s.heap.objs.size := by
      obtain ⟨_, q, _⟩ := hit
      exact Heap.lt_size q
    have dr := Draws.tuple (prog := X.prog) (w := X.w) (A := X.A.in1) (I.ok.hd hc) it a ha its.toArray
    have hlt : i < its.toArray.size := by
      obtain ⟨g, _⟩ := List.getElem?_eq_some_iff.mp hu
      simpa using g
    refine wpAny_pyNext_enum_itemD dr he ⟨hit, p⟩ hlt hne hm fun y h1 tk hy ho hst hT hsz hk => ?_
    have ey : y = u := by
      have hy' : its[i]? = some y := by simpa using hy
      rw [hu] at hy'
      exact (Option.some.inj hy').symm
    subst ey
    refine ⟨_, rfl, wpAny_letOwnedTupleGo_enum (s := { s with heap := h1, toks := tk + 1 }) ho fun h2 he2 sb => ?_⟩
    have hT2 := (sb.2 _ (Nat.ne_of_gt hel)).trans hT
    have fresh : ObjOk X.prog X.w (upd H s.heap.objs.size (.tup [.int (i : Nat), z])) h2 s.heap.objs.size (.tup [.int (i : Nat), z]) :=
      ⟨(by decide : 2 ≤ sizeLine), [.int i tk, y], .cons ⟨_, rfl⟩ (.cons ru .nil), ⟨_, hT2, rfl, _, rfl⟩⟩
    have I1 : Inv X pins σ (upd H s.heap.objs.size (.tup [.int (i : Nat), z])) { s with heap := h2, toks := tk + 1 } :=
      I.turnedNew (ch := [e, it]) (fun b ob hb q => (sb.2 b (fun c => hb (by simp [c]))).trans (hk b ob (fun c => hb (by simp [c])) (fun c => hb (by simp [c])) q)) hf (Nat.le_refl _) fresh
    refine ⟨.ref s.heap.objs.size, _, I1, rfl, ⟨_, z, rfl, I.hok.fresh (Nat.le_refl _), rfl, fun ys hy => ?_⟩, ⟨⟨y, ?_⟩, hst.1.at fun o q => (sb.2 it (Ne.symm hne)).trans q, hne⟩, fun b hb => ?_⟩
    · rw [I.tuple_inj hy hq]
      exact hx
    · have e1 : ((i + 1 : Nat) : Int) = (i : Int) + 1 := by omega
      rw [e1]
      exact he2
    · have hb' : b < s.heap.objs.size := by
        rcases List.mem_cons.mp hb with c | hb
        · rw [c]; exact hel
        · rw [List.mem_singleton.mp hb]; exact hil
      rw [upd_ne (Nat.ne_of_lt hb')]
      exact (hf b hb).1
  done := by
    intro X hP hw hK hc i pins s σ H E I hf t hg
    subst hP hw hK
    obtain ⟨zs, hq, hx⟩ := hg
    obtain ⟨its, rv, p, hz⟩ := I.tuple hq
    obtain ⟨ha, hm⟩ := apart_of t p
    obtain ⟨⟨old, he⟩, hit, hne⟩ := t
    have hl := rv.length
    obtain ⟨f0, f1, f2, f3, f4, f5⟩ := hf it (by simp)
    have dr : Draws X.prog X.w X.A.in1 it [it, a] i (fun _ _ => False) (fun j h => j = i ∧ h.IsTupleIter it a i ∧ h.IsTuple a its.toArray) := by
      refine ⟨fun j h t => ?_, fun j h h' t k => ?_, fun j s2 Q2 E2 hj t _ => absurd t.1 (Nat.ne_of_lt hj), fun s2 Q2 E2 t hE => ?_⟩
      · obtain ⟨o, ho, _⟩ := t.2.1
        exact ⟨o, ho⟩
      · exact ⟨t.1, t.2.1.at fun o q => k it (by simp) o q, t.2.2.at fun o q => k a (by simp) o q⟩
      · exact wpAny_nextOf_tuple_end (I.ok.hd hc) t.2.1 t.2.2 (by simp; omega) hE
    exact wpAny_pyNext_enum_endD dr he ⟨rfl, hit, p⟩ fun h1 eb => ⟨rfl, I.turned (t' := s.toks) (fun b o hb q => eb b o hb q) f0 f1 f3 f4 f5⟩
  self := fun A i s Q E t h => by
    obtain ⟨⟨_, he⟩, _⟩ := t
    exact wpAny_pyIter_enum he h
abbrev enO (i : Addr) : Obj := { cls := .type "enumerate", data := .fields #[.none, .bool false, .ref i, rawInt 0, .none, .none] }
set_option maxHeartbeats 1000000 in
theorem en_meets {u : Value} {ob : Obj} {HH : Heap → Prop} (B : Begins u ob HH) :
    Meets (Builtin.«enumerate.__new__» ⟨[.type "enumerate", u], []⟩) (fun _ R s => HH s.heap ∧ R (.ok (.ret (.ref (s.heap.push ob).objs.size))) { s with heap := (s.heap.push ob).push (enO s.heap.objs.size) }) :=
  .of_wp fun prog w A R s h => by
    obtain ⟨hp, g, d, tk, os⟩ := s
    obtain ⟨h1, h⟩ := h
    have hsub := sub_enumerate
    have q1 : ∀ {A2 : Around} {E2 Q2 : Value → Shared → Prop}, Q2 (.ref hp.objs.size) ⟨hp.push ob, g, d, tk, os⟩ → wpAny (model prog w) A2 (pyIter u) Q2 E2 ⟨hp, g, d, tk, os⟩ :=
      fun q => B.iter prog w _ _ ⟨hp, g, d, tk, os⟩ _ h1 q
    wp_walk using q1
    refine wpAny_stack_any fun st => wpAny_pure ?_
    split
    · rename_i c _ _ _ _ _
      cases (c == Value.type "enumerate")
      · wp_walk using q1
        exact ⟨_, rfl, h⟩
      · wp_walk using q1
        exact ⟨_, rfl, h⟩
    · wp_walk using q1
      exact ⟨_, rfl, h⟩
theorem en_call {prog : Program} {w : World} {A : Around} {E : Value → Shared → Prop} {s : Shared} {u : Value} {ob : Obj} {HH : Heap → Prop} {Q : Value → Shared → Prop} (B : Begins u ob HH) (h1 : HH s.heap)
    (h : ∀ h2, IsEnum h2 (s.heap.objs.size + 1) s.heap.objs.size 0 .none → h2.get? s.heap.objs.size = some ob → h2.objs.size = s.heap.objs.size + 2 → (∀ b o, s.heap.get? b = some o → h2.get? b = some o) → Q (.ref (s.heap.objs.size + 1)) { s with heap := h2 }) :
    wpAny (model prog w) A (call (.type "enumerate") [u]) Q E s := by
  refine callType_new F.called_enumerate (by decide) (F.typeCall_enumerate_1 _) (F.newCall_enumerate_1 _) (fun obj => F.args_object_init_2 obj _) F.entry_enumerate_new (en_meets B) ⟨h1, ?_⟩
  have z1 : (s.heap.push ob).objs.size = s.heap.objs.size + 1 := Heap.size_push ..
  have he : IsEnum ((s.heap.push ob).push (enO s.heap.objs.size)) (s.heap.objs.size + 1) s.heap.objs.size 0 .none := by
    have z2 := Heap.get?_push_size (s.heap.push ob) (o := enO s.heap.objs.size) rfl
    rw [z1] at z2
    exact z2
  show _ ∧ _
  rw [z1]
  exact ⟨⟨_, he, rfl⟩, h _ he (Heap.get?_push_of_some _ (Heap.get?_push_size _ B.free)) (by rw [Heap.size_push, z1]) fun b o x => Heap.get?_push_of_some _ (Heap.get?_push_of_some _ x)⟩
def iEnU (K : PySem.W.Frag) (ta : TA) : TI := fun σ H R => ta σ H fun vs H1 => ∃ a xs, vs = [.ref a] ∧ SqT K H1 a xs ∧ R (ItU K a) H1
theorem pi_enumU {X : Cx} {e : Expr} {ta : TA} {p pos tp : Pos} {elts : List Expr} {kk : Nat} (hg : Gl X "enumerate") (hm : X.mg "enumerate" = none) (ha : PA X [e] ta) (hs : starEach [e] X.env = [(false, eval e X.env)] := by rfl) :
    PI X (.Tuple elts kk tp) (.Call (.Name "enumerate" p) [e] [] pos) (iEnU X.K ta) := by
  refine ⟨fun pins s σ H R I h => ?_⟩
  refine PyProof.Rows.Call_ (ld_blt I hg hm PyProof.Rows.boot_enumerate (PyProof.Rows.callWith_type1 (thn (ha.run pos pins s σ H _ I h) fun us s1 ⟨vs, H1, I1, r1, q1⟩ => ?_) hs rfl))
  obtain ⟨a, xs, rfl, hq, q⟩ := q1
  cases r1 with
  | cons r rr =>
  cases rr
  cases r
  obtain ⟨its, rv, pt, hz⟩ := I1.tuple hq
  refine en_call (begins_tuple a its.toArray) pt fun h2 he hit hsz hk => wpAny_pyIter_enum he ?_
  have I2 : Inv X pins σ H1 { s1 with heap := h2 } := I1.kept (t' := s1.toks) hk
  refine ⟨s1.heap.objs.size + 1, [s1.heap.objs.size + 1, s1.heap.objs.size], _, _, H1, rfl, I2, turnU a (s1.heap.objs.size + 1) s1.heap.objs.size, ⟨⟨.none, he⟩, ⟨_, hit, rfl, rfl⟩, Nat.succ_ne_self _⟩, fun b hb => ?_, q⟩
  have hle : s1.heap.objs.size ≤ b := by
    rcases List.mem_cons.mp hb with z | hb
    · rw [z]; exact Nat.le_add_right _ _
    · rw [List.mem_singleton.mp hb]; exact Nat.le_refl _
  exact I1.fpOk hle (I1.hok.fresh hle)
section
variable {M : Mode} {G : List (Option D)} {L : Led} {pos : Pos}
theorem ei_enumT {elts : List Expr} {kk : Nat} {tpos p : Pos} {e : Expr} {K : Led → List D → Led → Prop} (hg : GlC M.C "enumerate") (hm : M.C.mg "enumerate" = none)
    (h : Ev M G L e fun d L1 => ∃ ds, d = .tup ds ∧ K [] (enumD ds) L1) (hs : ∀ X : Cx, starEach [e] X.env = [(false, eval e X.env)] := by intro _; rfl) : EvI M G L (.Tuple elts kk tpos) (.Call (.Name "enumerate" p) [e] [] pos) K := by
  intro X S F σ H A R q
  refine ⟨_, pi_enumU (gl_of S hg) (mg_of S hm) (pa_cons be pa_nil (hs X)) (hs X), ?_⟩
  refine h X S F σ H A _ fun d L1 v F1 H1 k1 A1 r1 s1 => ?_
  obtain ⟨ds, rfl, hk⟩ := k1
  obtain ⟨p, vs, rfl, h1, h2⟩ := tup_get A1 r1
  refine ⟨p, vs, rfl, by rw [← S.ok.eK]; exact h1, q _ _ _ L1 F1 H1 hk (fun G' L' F' σ' H' A' hs i => ⟨fun d hd' => ?_, fun hi => ?_⟩) A1 s1⟩
  · obtain ⟨x, hx, rfl⟩ := enum_get hd'
    obtain ⟨p', vs', e', h1', h2'⟩ := tup_get A' (r1.mono A'.ef)
    cases e'
    obtain ⟨w, hw, rw'⟩ := h2'.get hx
    have h1'' : SqT X.K H' p vs' := by rw [← S.ok.eK]; exact h1'
    refine ⟨⟨vs', w, h1'', hw⟩, fun x H2 ⟨T, y, e1, hT, e2, y2⟩ => ?_⟩
    subst e1 e2
    have e3 := y2 vs' h1''
    rw [hw] at e3
    cases e3
    obtain ⟨A2, s2⟩ := A'.ice (o := .tup [.int (i : Nat), w]) hT
    exact ⟨_, A2, .tup (.inl (.inl upd_same)) (.cons (.v _) (.cons (rw'.mono s2) .nil))⟩
  · obtain ⟨p', vs', e', h1', h2'⟩ := tup_get A' (r1.mono A'.ef)
    cases e'
    refine ⟨vs', by rw [← S.ok.eK]; exact h1', ?_⟩
    rw [← h2'.length]
    unfold enumD at hi
    simpa using hi
end
end TL

namespace TL
open PySem L2 PySem.Spec
section
variable {M : Mode} {G : List (Option D)} {K : D → Led → Prop} {sp : Prm} {ds : List D} {a b c d : Addr × OW} {R : Led}
/-- one own object handed to a callee, its place kept -/
theorem calls_1 (h : sp ds [a] (fun v L' => K v (L' ++ R)) (fun ex L' => M.T ex G (L' ++ R))) : Calls M G sp ds (a :: R) K :=
  ⟨[a], R, List.Perm.refl _, fun L' => L' ++ R, fun _ => List.Perm.refl _, h⟩
theorem calls_2 (h : sp ds [b] (fun v L' => K v (a :: (L' ++ R))) (fun ex L' => M.T ex G (a :: (L' ++ R)))) : Calls M G sp ds (a :: b :: R) K :=
  ⟨[b], a :: R, .swap _ _ _, fun L' => a :: (L' ++ R), fun _ => List.perm_middle, h⟩
theorem calls_3 (h : sp ds [c] (fun v L' => K v (a :: b :: (L' ++ R))) (fun ex L' => M.T ex G (a :: b :: (L' ++ R)))) : Calls M G sp ds (a :: b :: c :: R) K :=
  ⟨[c], a :: b :: R, (List.perm_middle (l₁ := [a, b])).symm, fun L' => a :: b :: (L' ++ R), fun L' => (List.perm_middle.trans (.cons _ List.perm_middle)), h⟩
theorem calls_4 (h : sp ds [d] (fun v L' => K v (a :: b :: c :: (L' ++ R))) (fun ex L' => M.T ex G (a :: b :: c :: (L' ++ R)))) : Calls M G sp ds (a :: b :: c :: d :: R) K :=
  ⟨[d], a :: b :: c :: R, (List.perm_middle (l₁ := [a, b, c])).symm, fun L' => a :: b :: c :: (L' ++ R), fun L' => (List.perm_middle.trans (.cons _ (List.perm_middle.trans (.cons _ List.perm_middle)))), h⟩
end
section
variable {M : Mode} {G : List (Option D)} {α : Type}
/-- a loop over items known as a map -/
theorem for_map (xs : List α) (g : α → D) {tg : Expr} {body : List Stmt} {E : TD} {src : Led} {items : List D} {L1 : Led} (he : items = xs.map g) (I : Nat → List (Option D) → Led → Prop) (h0 : I 0 G L1) (hs : ∀ i G' L', I i G' L' → ∀ s ∈ src, s ∈ L')
    (turn : ∀ F1 i x G' L', xs[i]? = some x → i < xs.length → I i G' L' → Tgt (M.fix F1) G' L' tg (g x) fun G2 L2 => Run (M.fix F1) G2 L2 body (E.turn (I (i + 1)) E.nx))
    (done : ∀ G' L', I xs.length G' L' → E.nx G' L') : ForInv M G tg body E src items L1 := by
  subst he
  refine ⟨I, h0, hs, fun F1 i d G' L' hd iv => ?_, fun G' L' iv => done G' L' (by rwa [List.length_map] at iv)⟩
  obtain ⟨x, hx, rfl, _, hlt, _⟩ := take_map hd
  exact turn F1 i x G' L' hx hlt iv
/-- .. the ledger's and the slots' word by the part that was walked -/
theorem for_pre (xs : List α) (g : α → D) {tg : Expr} {body : List Stmt} {E : TD} {src : Led} {items : List D} {L1 : Led} (he : items = xs.map g) (I : List α → List (Option D) → Led → Prop) (h0 : I [] G L1) (hs : ∀ p G' L', I p G' L' → ∀ s ∈ src, s ∈ L')
    (turn : ∀ F1 pre x suf G' L', xs = pre ++ x :: suf → I pre G' L' → Tgt (M.fix F1) G' L' tg (g x) fun G2 L2 => Run (M.fix F1) G2 L2 body (E.turn (I (pre ++ [x])) E.nx))
    (done : ∀ G' L', I xs G' L' → E.nx G' L') : ForInv M G tg body E src items L1 := by
  refine for_map xs g he (fun i G' L' => I (xs.take i) G' L') h0 (fun i G' L' iv => hs _ G' L' iv) (fun F1 i x G' L' hx hlt iv => ?_) fun G' L' iv => done G' L' (by rwa [List.take_length] at iv)
  have e1 : xs = xs.take i ++ x :: xs.drop (i + 1) := by
    have e2 : xs.drop i = x :: xs.drop (i + 1) := by
      rw [List.drop_eq_getElem_cons hlt, (List.getElem?_eq_some_iff.mp hx).2]
    rw [← e2, List.take_append_drop]
  have e3 : xs.take (i + 1) = xs.take i ++ [x] := by
    rw [List.take_succ, hx]
    rfl
  have t := turn F1 (xs.take i) x (xs.drop (i + 1)) G' L' e1 iv
  rw [← e3] at t
  exact t
end
section
variable {M : Mode} {G : List (Option D)} {K : D → Led → Prop} {α : Type}
theorem lc_inv (xs : List α) (g : α → D) {vs : List Nat} {scope : Scope} {elt tg : Expr} {ifs : List Expr} {src : Led} {items : List D} {L1 : Led} (he : items = xs.map g) (I : Nat → List D → Led → Prop) (h0 : I 0 [] L1)
    (hs : ∀ i acc L', I i acc L' → (∀ s ∈ src, s ∈ L') ∧ acc.length < sizeLine)
    (turn : ∀ F1 Dl i x acc L', xs[i]? = some x → i < xs.length → I i acc L' → TgtN ((M.fix F1).blk scope) (wipeG G vs) ((Dl, .lst acc) :: L') vs tg (g x) fun G2 => TstI ((M.fix F1).blk scope) G2 ((Dl, .lst acc) :: L') ifs fun b L2 =>
      (b = true → Ev ((M.fix F1).blk scope) G2 L2 elt fun y L3 => ∃ L4 : Led, ((Dl, OW.lst acc) :: L4).Sublist L3 ∧ I (i + 1) (acc ++ [y]) L4) ∧ (b = false → ∃ L4 : Led, ((Dl, OW.lst acc) :: L4).Sublist L2 ∧ I (i + 1) acc L4))
    (done : ∀ acc L', I xs.length acc L' → ∀ Dl, K (.ref Dl) ((Dl, .lst acc) :: L')) : LcInv M G vs scope elt tg ifs src items L1 K := by
  subst he
  refine ⟨I, h0, hs, fun F1 Dl i d acc L' hd iv => ?_, fun acc L' iv => done acc L' (by rwa [List.length_map] at iv)⟩
  obtain ⟨x, hx, rfl, _, hlt, _⟩ := take_map hd
  exact turn F1 Dl i x acc L' hx hlt iv
end
theorem rng0 (n : Nat) : rng 0 ((n : Nat) : Int).toNat = (List.range n).map fun i => .int ((i : Nat) : Int) := by
  unfold rng
  rw [Int.toNat_natCast]
  refine List.map_congr_left fun k _ => ?_
  rw [Int.zero_add]
section
variable {M : Mode} {G : List (Option D)} {L : Led} {K : D → Led → Prop} {pos : Pos}
theorem ev_fldN {e : Expr} {f : Str} {Cc : Addr} (n : NoAttr M.C.K Cc f) (c : Cls M.C.K Cc) (h : Ev M G L e fun x L1 => ∃ fs d, IsO L1 x Cc fs ∧ fs.lookup f = some d ∧ K d L1)
    (hb : ∀ X : Cx, attributeBase e f X.env (eval e X.env) = eval e X.env := by intro _; rfl) : Ev M G L (.Attribute e f pos) K := ev_fld c n h hb
theorem fld_of {x : D} {Cc : Addr} {f : Str} {fs : List (Str × D)} {d : D} {Q : D → Prop} (ho : IsO L x Cc fs) (hl : fs.lookup f = some d) (hk : Q d) : ∃ fs d, IsO L x Cc fs ∧ fs.lookup f = some d ∧ Q d := ⟨fs, d, ho, hl, hk⟩
theorem mth_of {x : D} {Cc : Addr} {m : Str} {fs : List (Str × D)} {Q : Prop} (ho : IsO L x Cc fs) (hl : fs.lookup m = none) (hq : Q) : ∃ fs, IsO L x Cc fs ∧ fs.lookup m = none ∧ Q := ⟨fs, ho, hl, hq⟩
end
end TL

namespace TL
open PySem L2 PySem.Spec
def pyV : V → PyData
  | .bl b => .bool b
  | .int i => .int i
  | .str z => .str z
  | _ => .none
def okV : V → Bool
  | .non => true
  | .bl _ => true
  | .int _ => true
  | .str z => PyData.canLay0 (.str z)
  | _ => false
theorem flat_ok {x : V} (h : okV x = true) : flatPy x = some (pyV x) := by
  cases x <;> first | rfl | cases h
theorem okV_can {x : V} (h : okV x = true) : (pyV x).canLay0 = true ∧ (pyV x).depth = 0 := by
  cases x <;> first | exact ⟨h, by simp [pyV, PyData.depth]⟩ | exact ⟨by simp [pyV, PyData.canLay0], by simp [pyV, PyData.depth]⟩ | cases h
theorem pyAll_flat {L : Led} : ∀ {xs : List V}, (∀ x ∈ xs, okV x = true) → PyAll L (xs.map D.v) (xs.map pyV)
  | [], _ => .nil
  | x :: xs, h => .cons (.v (flat_ok (h x List.mem_cons_self))) (pyAll_flat fun y hy => h y (List.mem_cons_of_mem _ hy))
theorem can_flat : ∀ {xs : List V}, (∀ x ∈ xs, okV x = true) → PyData.canLayAll0 (xs.map pyV) = true ∧ PyData.depthAll (xs.map pyV) = 0
  | [], _ => ⟨by simp [PyData.canLayAll0], by simp [PyData.depthAll]⟩
  | x :: xs, h => by
    obtain ⟨a, b⟩ := okV_can (h x List.mem_cons_self)
    obtain ⟨c, d⟩ := can_flat fun y hy => h y (List.mem_cons_of_mem _ hy)
    exact ⟨by simp [PyData.canLayAll0, a, c], by simp [PyData.depthAll, b, d]⟩
theorem shp_list {xs : List V} (h : ∀ x ∈ xs, okV x = true) : SeqAt.shaped (.list (xs.map pyV)) = true := by
  obtain ⟨a, b⟩ := can_flat h
  unfold SeqAt.shaped
  simp [PyData.canLay0, PyData.depth, a, b]
theorem shp_tup {xs : List V} (h : ∀ x ∈ xs, okV x = true) : SeqAt.shaped (.tuple (xs.map pyV)) = true := by
  obtain ⟨a, b⟩ := can_flat h
  unfold SeqAt.shaped
  simp [PyData.canLay0, PyData.depth, a, b]
section
variable {M : Mode} {G : List (Option D)} {L : Led} {K : D → Led → Prop} {pos : Pos}
/-- the same flat list twice -/
theorem op_neSame (hc : M.C.cm = true) {x y : D} {xs : List V} (hx : IsL L x (xs.map D.v)) (hy : IsL L y (xs.map D.v)) (h : ∀ z ∈ xs, okV z = true) (hk : K (.bl false) L) : Op2 M G L (compareOp .NotEq) x y K := by
  refine op_neP hc (.lst hx (pyAll_flat h)) (.lst hy (pyAll_flat h)) (shp_list h) (shp_list h) ?_
  have e : PyData.eqv (.list (xs.map pyV)) (.list (xs.map pyV)) = true := SeqAt.eqv_refl _ (SeqAt.canLay_of_shaped (shp_list h))
  rw [e]
  exact hk
theorem cv_listD (hc : M.C.cm = true) {x : D} {kvs : List (Key × D)} (hx : IsK L x kvs) (h : ∀ p, K (.ref p) ((p, .lst (keysD kvs)) :: L)) : CallV M G L (.type "list") [x] K := by
  intro X S F σ H vs A r Q q
  obtain ⟨v, rfl, rv⟩ := reps1 r
  obtain ⟨p, ws, rfl, h1, h2⟩ := hx.get A rv
  refine ⟨_, call_listD (S.ok.calm hc), p, ws, rfl, h1, fun l hl => ?_⟩
  have e : ∀ {kvs : List (Key × D)} {ws : List (Key × V)}, RepK M.C.K F kvs ws → RepA M.C.K F (keysD kvs) (ws.map fun kv => kV kv.1) := by
    intro kvs
    induction kvs with
    | nil => intro ws h; cases h; exact .nil
    | cons a kvs ih =>
      intro ws h
      cases h with
      | cons h1 h2 => exact .cons (.v _) (ih h2)
  exact q _ _ _ F _ (h l) (A.new hl (.lst upd_same (e h2))) (.v _) (Same.refl _)
end
/-! ### names, checked once for a def -/
def dbOk (N : List Str) : Bool := N.all fun x => !(x == ("__debug__" : Str)) && !(x == ("__classdict__" : Str))
def visL (sc : Scope) (V : List Str) : Bool := V.all fun x => visB sc x
theorem dbOk_mem {N : List Str} {x : Str} (h : dbOk N = true) (hx : x ∈ N) : (x == ("__debug__" : Str)) = false ∧ (x == ("__classdict__" : Str)) = false := by
  have := List.all_eq_true.mp h x hx
  simp only [Bool.and_eq_true, Bool.not_eq_true'] at this
  exact this
theorem visL_mem {sc : Scope} {V : List Str} {x : Str} (h : visL sc V = true) (hx : x ∈ V) : visB sc x = true := List.all_eq_true.mp h x hx
theorem run_with {M : Mode} {G : List (Option D)} {L : Led} {ss : List Stmt} {E : TD} {V : List Str} (h1 : dbOk M.C.N = true) (h2 : visL M.C.sc V = true) (h : dbOk M.C.N = true → visL M.C.sc V = true → Run M G L ss E) : Run M G L ss E := h h1 h2
structure BnOk (x : Str) : Prop where
  c : biNames.contains x = true
  d : (x == ("__debug__" : Str)) = false
  n : x ≠ "__name__"
theorem bn_len : BnOk "len" := ⟨by kernel_rfl, by kernel_rfl, by decide +kernel⟩
theorem bn_isinstance : BnOk "isinstance" := ⟨by kernel_rfl, by kernel_rfl, by decide +kernel⟩
theorem bn_int : BnOk "int" := ⟨by kernel_rfl, by kernel_rfl, by decide +kernel⟩
theorem bn_str : BnOk "str" := ⟨by kernel_rfl, by kernel_rfl, by decide +kernel⟩
theorem bn_all : BnOk "all" := ⟨by kernel_rfl, by kernel_rfl, by decide +kernel⟩
theorem bn_any : BnOk "any" := ⟨by kernel_rfl, by kernel_rfl, by decide +kernel⟩
theorem bn_min : BnOk "min" := ⟨by kernel_rfl, by kernel_rfl, by decide +kernel⟩
theorem bn_max : BnOk "max" := ⟨by kernel_rfl, by kernel_rfl, by decide +kernel⟩
theorem bn_tuple : BnOk "tuple" := ⟨by kernel_rfl, by kernel_rfl, by decide +kernel⟩
theorem bn_list : BnOk "list" := ⟨by kernel_rfl, by kernel_rfl, by decide +kernel⟩
theorem bn_dict : BnOk "dict" := ⟨by kernel_rfl, by kernel_rfl, by decide +kernel⟩
theorem bn_sum : BnOk "sum" := ⟨by kernel_rfl, by kernel_rfl, by decide +kernel⟩
theorem bn_sorted : BnOk "sorted" := ⟨by kernel_rfl, by kernel_rfl, by decide +kernel⟩
theorem bn_bool : BnOk "bool" := ⟨by kernel_rfl, by kernel_rfl, by decide +kernel⟩
section
variable {M : Mode} {G : List (Option D)} {L : Led} {K : D → Led → Prop} {pos : Pos}
theorem ev_nameV {x : Str} {d : D} (hl : Look M.C.N G x (some d)) (hd : dbOk M.C.N = true) (hv : visB M.C.sc x = true) (h : K d L) : Ev M G L (.Name x pos) K := by
  obtain ⟨i, h1, _⟩ := hl.ix
  obtain ⟨b, c⟩ := dbOk_mem hd (List.mem_of_getElem? h1)
  exact ev_name hl (vis_of hv) h b c
theorem ev_bltN {x : Str} {id : String} {p : Pos} {e : Expr} {es : List Expr} (b : BnOk x) (hg : GlC M.C x) (B : Bi M.C.mg) (hv : bootBuiltins x = some (.builtin id)) (h : EvA M G L (e :: es) fun ds L1 => CallV M G L1 (.builtin id) ds K)
    (he : ∀ X : Cx, starEach (e :: es) X.env = (false, eval e X.env) :: starEach es X.env := by intro _; rfl) (hpl : ∀ X : Cx, (backTo pos (starEach es X.env)).any (·.1) = false := by intro _; rfl) :
    Ev M G L (.Call (.Name x p) (e :: es) [] pos) K := ev_blt hg (Bi.h B b.c) hv h b.n b.d he hpl
theorem ev_bltyN {x : Str} {id : String} {p : Pos} {e : Expr} {es : List Expr} (b : BnOk x) (hg : GlC M.C x) (B : Bi M.C.mg) (hv : bootBuiltins x = some (.type id)) (h : EvA M G L (e :: es) fun ds L1 => CallV M G L1 (.type id) ds K)
    (he : ∀ X : Cx, starEach (e :: es) X.env = (false, eval e X.env) :: starEach es X.env := by intro _; rfl) (hpl : ∀ X : Cx, (backTo pos (starEach es X.env)).any (·.1) = false := by intro _; rfl) :
    Ev M G L (.Call (.Name x p) (e :: es) [] pos) K := ev_blty hg (Bi.h B b.c) hv h b.n b.d he hpl
theorem ev_tynN {x : Str} {id : String} (b : BnOk x) (hg : GlC M.C x) (B : Bi M.C.mg) (hv : bootBuiltins x = some (.type id)) (h : K (.v (.ty id)) L) : Ev M G L (.Name x pos) K := ev_tyn hg (Bi.h B b.c) hv h b.n b.d
end
end TL

namespace TL
open PySem L2 PySem.Spec
/-! ### handles: a block's parts by name, so that goals stay small -/
def pos0 : Pos := ⟨0, 0, 0, 0⟩
def pC : Stmt → Expr
  | .If t _ _ _ => t
  | .While t _ _ _ => t
  | _ => .Constant .none 0 pos0
def pA : Stmt → List Stmt
  | .If _ a _ _ => a
  | .For _ _ b _ _ => b
  | .While _ b _ _ => b
  | .Try b _ _ _ _ => b
  | _ => []
def pB : Stmt → List Stmt
  | .If _ _ b _ => b
  | _ => []
def pT : Stmt → Expr
  | .For t _ _ _ _ => t
  | _ => .Constant .none 0 pos0
def pI : Stmt → Expr
  | .For _ i _ _ _ => i
  | _ => .Constant .none 0 pos0
def pH : Stmt → List ExceptHandler
  | .Try _ h _ _ _ => h
  | _ => []
def pP : Stmt → Pos
  | .If _ _ _ p => p
  | .For _ _ _ _ p => p
  | .While _ _ _ p => p
  | .Try _ _ _ _ p => p
  | _ => pos0
def pL (l : List Stmt) (i : Nat) : Stmt := l.getD i (.Pass pos0)
theorem run_withB {M : Mode} {G : List (Option D)} {L : Led} {st : Stmt} {q : List Stmt} {E : TD} {V : List Str} (h1 : dbOk M.C.N = true) (h2 : visL M.C.sc V = true) (hb : defBody st = q) (h : dbOk M.C.N = true → visL M.C.sc V = true → Run M G L q E) : Run M G L (defBody st) E := by
  rw [hb]
  exact h h1 h2
section
variable {M : Mode} {G : List (Option D)} {L : Led} {K : D → Led → Prop} {pos : Pos}
/-! ### the rules with all that they ask written out, for `apply` -/
abbrev Star1 (e : Expr) (es : List Expr) : Prop := ∀ X : Cx, starEach (e :: es) X.env = (false, eval e X.env) :: starEach es X.env
abbrev Star2 (pos : Pos) (es : List Expr) : Prop := ∀ X : Cx, (backTo pos (starEach es X.env)).any (·.1) = false
theorem ev_bltA {x : Str} {id : String} {p : Pos} {e : Expr} {es : List Expr} (b : BnOk x) (hg : GlC M.C x) (B : Bi M.C.mg) (hv : bootBuiltins x = some (.builtin id)) (he : Star1 e es) (hpl : Star2 pos es) (h : EvA M G L (e :: es) fun ds L1 => CallV M G L1 (.builtin id) ds K) :
    Ev M G L (.Call (.Name x p) (e :: es) [] pos) K := ev_bltN b hg B hv h he hpl
theorem ev_bltyA {x : Str} {id : String} {p : Pos} {e : Expr} {es : List Expr} (b : BnOk x) (hg : GlC M.C x) (B : Bi M.C.mg) (hv : bootBuiltins x = some (.type id)) (he : Star1 e es) (hpl : Star2 pos es) (h : EvA M G L (e :: es) fun ds L1 => CallV M G L1 (.type id) ds K) :
    Ev M G L (.Call (.Name x p) (e :: es) [] pos) K := ev_bltyN b hg B hv h he hpl
theorem ev_callA {x : Str} {p : Pos} {e : Expr} {es : List Expr} {ps : List Str} {sp : Prm} {j : Nat} (B : Glob M.C.P M.C.w M.C.K M.C.mg M.C.base x ps sp j) (hc : M.C.cm = true) (hj : Nat.ble j M.C.k = true) (hg : GlC M.C x) (hdb : (x == ("__debug__" : Str)) = false) (he : Star1 e es) (hpl : Star2 pos es)
    (h : EvA M G L (e :: es) fun ds L1 => Calls M G sp ds L1 K) : Ev M G L (.Call (.Name x p) (e :: es) [] pos) K := ev_call B hc (Nat.le_of_ble_eq_true hj) hg h hdb he hpl
theorem ev_makeA {x : Str} {p : Pos} {e : Expr} {es : List Expr} {ps : List Str} {sp : Prm} {j : Nat} {Cc : Addr} (B : Cla M.C.P M.C.w M.C.K M.C.mg M.C.base x Cc ps sp j) (hc : M.C.cm = true) (hj : Nat.ble (j + 1) M.C.k = true) (hg : GlC M.C x) (hdb : (x == ("__debug__" : Str)) = false) (he : Star1 e es) (hpl : Star2 pos es)
    (h : EvA M G L (e :: es) fun ds L1 => ∀ l, Calls M G sp (.ref l :: ds) ((l, .ins Cc []) :: L1) fun d L' => d = .non ∧ K (.ref l) L') : Ev M G L (.Call (.Name x p) (e :: es) [] pos) K := ev_make B hc (Nat.le_of_ble_eq_true hj) hg h hdb he hpl
theorem ev_methA {Cc : Addr} {m : Str} {apos : Pos} {o e : Expr} {es : List Expr} {ps : List Str} {sp : Prm} {j : Nat} (B : Mth M.C.P M.C.w M.C.K M.C.mg M.C.base Cc m ps sp j) (c : Cls M.C.K Cc) (hc : M.C.cm = true) (hj : Nat.ble j M.C.k = true) (h1 : Star1 e es) (h2 : Star2 pos es)
    (ht : ∀ X : Cx, eval (.Call (.Attribute o m apos) (e :: es) [] pos) X.env = (eval o X.env >>= fun ov => standAt apos.atName >>= fun _ => holding [ov] (getMethod ov m (plOf o X)) >>= fun (f, first) => callWith pos f first (backTo pos (starEach (e :: es) X.env)) (backToKw pos (keywordEach [] X.env))))
    (h : Ev M G L o fun x L1 => ∃ fs, IsO L1 x Cc fs ∧ fs.lookup m = none ∧ EvA M G L1 (e :: es) fun ds L2 => Calls M G sp (x :: ds) L2 K) : Ev M G L (.Call (.Attribute o m apos) (e :: es) [] pos) K := ev_meth B c hc (Nat.le_of_ble_eq_true hj) h h1 h2 ht
theorem ev_meth0A {Cc : Addr} {m : Str} {apos : Pos} {o : Expr} {ps : List Str} {sp : Prm} {j : Nat} (B : Mth M.C.P M.C.w M.C.K M.C.mg M.C.base Cc m ps sp j) (c : Cls M.C.K Cc) (hc : M.C.cm = true) (hj : Nat.ble j M.C.k = true)
    (ht : ∀ X : Cx, eval (.Call (.Attribute o m apos) [] [] pos) X.env = (eval o X.env >>= fun ov => standAt apos.atName >>= fun _ => holding [ov] (getMethod ov m (plOf o X)) >>= fun (f, first) => callWith pos f first (backTo pos (starEach [] X.env)) (backToKw pos (keywordEach [] X.env))))
    (h : Ev M G L o fun x L1 => ∃ fs, IsO L1 x Cc fs ∧ fs.lookup m = none ∧ Calls M G sp [x] L1 K) : Ev M G L (.Call (.Attribute o m apos) [] [] pos) K := ev_meth0 B c hc (Nat.le_of_ble_eq_true hj) h ht
theorem ev_fldA {e : Expr} {f : Str} {Cc : Addr} (n : NoAttr M.C.K Cc f) (c : Cls M.C.K Cc) (hb : ∀ X : Cx, attributeBase e f X.env (eval e X.env) = eval e X.env) (h : Ev M G L e fun x L1 => ∃ fs d, IsO L1 x Cc fs ∧ fs.lookup f = some d ∧ K d L1) :
    Ev M G L (.Attribute e f pos) K := ev_fldN n c h hb
theorem ev_gvalA {x : Str} {v : V} (B : GVal M.C.mg x v) (hg : GlC M.C x) (hd : (x == ("__debug__" : Str)) = false) (h : K (.v v) L) : Ev M G L (.Name x pos) K := ev_gval B hg h hd
theorem ev_gtupA {x : Str} {vs : List V} (B : GTup M.C.K M.C.mg x vs) (hg : GlC M.C x) (hd : (x == ("__debug__" : Str)) = false) (h : K (.tup (vs.map D.v)) L) : Ev M G L (.Name x pos) K := ev_gtup B hg h hd
end
end TL

open PySem L2 TL
local macro_rules | `(tactic| wtm_at "nm") => `(tactic| first | exact List.Mem.head _ | (refine List.Mem.tail _ ?_; wtm_at "nm"))
local macro_rules | `(tactic| wtm_at "lk") => `(tactic| first | with_reducible exact Look.here | (refine Look.there ?_; wtm_at "lk"))
local macro_rules | `(tactic| wtm_at "pt") => `(tactic| first | with_reducible exact Put.here | with_reducible exact Put.there (Put.here) | with_reducible exact Put.there (Put.there (Put.here)) | with_reducible exact Put.there (Put.there (Put.there (Put.here))) | with_reducible exact Put.there (Put.there (Put.there (Put.there (Put.here)))) | with_reducible exact Put.there (Put.there (Put.there (Put.there (Put.there (Put.here))))) | with_reducible exact Put.there (Put.there (Put.there (Put.there (Put.there (Put.there (Put.here)))))) | with_reducible exact Put.there (Put.there (Put.there (Put.there (Put.there (Put.there (Put.there (Put.here))))))) | with_reducible exact Put.there (Put.there (Put.there (Put.there (Put.there (Put.there (Put.there (Put.there (Put.here)))))))) | with_reducible exact Put.there (Put.there (Put.there (Put.there (Put.there (Put.there (Put.there (Put.there (Put.there (Put.here))))))))) | with_reducible exact Put.there (Put.there (Put.there (Put.there (Put.there (Put.there (Put.there (Put.there (Put.there (Put.there (Put.here)))))))))) | with_reducible exact Put.there (Put.there (Put.there (Put.there (Put.there (Put.there (Put.there (Put.there (Put.there (Put.there (Put.there (Put.here))))))))))) | with_reducible exact Put.there (Put.there (Put.there (Put.there (Put.there (Put.there (Put.there (Put.there (Put.there (Put.there (Put.there (Put.there (Put.here)))))))))))) | with_reducible exact Put.there (Put.there (Put.there (Put.there (Put.there (Put.there (Put.there (Put.there (Put.there (Put.there (Put.there (Put.there (Put.there (Put.here))))))))))))) | with_reducible exact Put.there (Put.there (Put.there (Put.there (Put.there (Put.there (Put.there (Put.there (Put.there (Put.there (Put.there (Put.there (Put.there (Put.there (Put.here)))))))))))))) | with_reducible exact Put.there (Put.there (Put.there (Put.there (Put.there (Put.there (Put.there (Put.there (Put.there (Put.there (Put.there (Put.there (Put.there (Put.there (Put.there (Put.here))))))))))))))) | with_reducible exact Put.there (Put.there (Put.there (Put.there (Put.there (Put.there (Put.there (Put.there (Put.there (Put.there (Put.there (Put.there (Put.there (Put.there (Put.there (Put.there (Put.here)))))))))))))))) | with_reducible exact Put.there (Put.there (Put.there (Put.there (Put.there (Put.there (Put.there (Put.there (Put.there (Put.there (Put.there (Put.there (Put.there (Put.there (Put.there (Put.there (Put.there (Put.here))))))))))))))))) | with_reducible exact Put.there (Put.there (Put.there (Put.there (Put.there (Put.there (Put.there (Put.there (Put.there (Put.there (Put.there (Put.there (Put.there (Put.there (Put.there (Put.there (Put.there (Put.there (Put.here)))))))))))))))))) | with_reducible exact Put.there (Put.there (Put.there (Put.there (Put.there (Put.there (Put.there (Put.there (Put.there (Put.there (Put.there (Put.there (Put.there (Put.there (Put.there (Put.there (Put.there (Put.there (Put.there (Put.here))))))))))))))))))) | with_reducible exact Put.there (Put.there (Put.there (Put.there (Put.there (Put.there (Put.there (Put.there (Put.there (Put.there (Put.there (Put.there (Put.there (Put.there (Put.there (Put.there (Put.there (Put.there (Put.there (Put.there (Put.here)))))))))))))))))))) | with_reducible exact Put.there (Put.there (Put.there (Put.there (Put.there (Put.there (Put.there (Put.there (Put.there (Put.there (Put.there (Put.there (Put.there (Put.there (Put.there (Put.there (Put.there (Put.there (Put.there (Put.there (Put.there (Put.here))))))))))))))))))))) | with_reducible exact Put.there (Put.there (Put.there (Put.there (Put.there (Put.there (Put.there (Put.there (Put.there (Put.there (Put.there (Put.there (Put.there (Put.there (Put.there (Put.there (Put.there (Put.there (Put.there (Put.there (Put.there (Put.there (Put.here)))))))))))))))))))))) | with_reducible exact Put.there (Put.there (Put.there (Put.there (Put.there (Put.there (Put.there (Put.there (Put.there (Put.there (Put.there (Put.there (Put.there (Put.there (Put.there (Put.there (Put.there (Put.there (Put.there (Put.there (Put.there (Put.there (Put.there (Put.here))))))))))))))))))))))) | with_reducible exact Put.there (Put.there (Put.there (Put.there (Put.there (Put.there (Put.there (Put.there (Put.there (Put.there (Put.there (Put.there (Put.there (Put.there (Put.there (Put.there (Put.there (Put.there (Put.there (Put.there (Put.there (Put.there (Put.there (Put.there (Put.here)))))))))))))))))))))))) | with_reducible exact Put.there (Put.there (Put.there (Put.there (Put.there (Put.there (Put.there (Put.there (Put.there (Put.there (Put.there (Put.there (Put.there (Put.there (Put.there (Put.there (Put.there (Put.there (Put.there (Put.there (Put.there (Put.there (Put.there (Put.there (Put.there (Put.here))))))))))))))))))))))))))
local macro_rules | `(tactic| wtm_at "ch") => `(tactic| first | with_reducible exact Chg.here | with_reducible exact Chg.there (Chg.here) | with_reducible exact Chg.there (Chg.there (Chg.here)) | with_reducible exact Chg.there (Chg.there (Chg.there (Chg.here))) | with_reducible exact Chg.there (Chg.there (Chg.there (Chg.there (Chg.here)))) | with_reducible exact Chg.there (Chg.there (Chg.there (Chg.there (Chg.there (Chg.here))))) | with_reducible exact Chg.there (Chg.there (Chg.there (Chg.there (Chg.there (Chg.there (Chg.here)))))) | with_reducible exact Chg.there (Chg.there (Chg.there (Chg.there (Chg.there (Chg.there (Chg.there (Chg.here))))))))
local macro_rules | `(tactic| wtm_at "bn") => `(tactic| first | with_reducible exact bn_len | with_reducible exact bn_isinstance | with_reducible exact bn_int | with_reducible exact bn_str | with_reducible exact bn_tuple | with_reducible exact bn_list | with_reducible exact bn_all | with_reducible exact bn_any | with_reducible exact bn_min | with_reducible exact bn_max | with_reducible exact bn_dict | with_reducible exact bn_sum | with_reducible exact bn_sorted | with_reducible exact bn_bool)
local macro_rules | `(tactic| wtm_at "nv") => `(tactic| first | (with_reducible assumption) | exact (by kernel_rfl))
local macro_rules | `(tactic| wtm_at "vs") => `(tactic| first | with_reducible exact visL_mem (by with_reducible assumption) (by wtm_at "nm") | exact (by kernel_rfl))
local macro_rules | `(tactic| wtm_at "vis") => `(tactic| exact vis_of (by kernel_rfl))
local macro_rules | `(tactic| wtm_at "gl") => `(tactic| exact gl_by (by kernel_rfl))
local macro_rules | `(tactic| wtm_at "bt") => `(tactic| first | with_reducible exact boot_len | with_reducible exact PyProof.Rows.boot_isinstance | with_reducible exact PyProof.Rows.boot_int | with_reducible exact PyProof.Rows.boot_str | with_reducible exact PyProof.Rows.boot_all | with_reducible exact PyProof.Rows.boot_any | with_reducible exact PyProof.Rows.boot_bool | with_reducible exact PyProof.Rows.boot_tuple | with_reducible exact PyProof.Rows.boot_list | with_reducible exact PyProof.Rows.boot_dict | with_reducible exact PyProof.Rows.boot_max | with_reducible exact PyProof.Rows.boot_min | with_reducible exact PyProof.Rows.boot_sum | with_reducible exact PyProof.Rows.boot_sorted)
local macro_rules | `(tactic| wtm_at "bty") => `(tactic| first | with_reducible exact PyProof.Rows.boot_int | with_reducible exact PyProof.Rows.boot_str | with_reducible exact PyProof.Rows.boot_bool | with_reducible exact PyProof.Rows.boot_tuple | with_reducible exact PyProof.Rows.boot_list | with_reducible exact PyProof.Rows.boot_dict)
local macro_rules | `(tactic| wtm_at "loc") => `(tactic| exact loc_of (by kernel_rfl))
local macro_rules | `(tactic| wtm_at "mem") => `(tactic| exact mem_of (by kernel_rfl))
local macro_rules | `(tactic| wtm_at "isl") => `(tactic| first | exact IsL.frz | exact IsL.own (by wtm_at "nm"))
local macro_rules | `(tactic| wtm_at "isk") => `(tactic| first | exact IsK.frz | exact IsK.own (by wtm_at "nm"))
local macro_rules | `(tactic| wtm_at "iso") => `(tactic| first | exact IsO.frz | exact IsO.own (by wtm_at "nm"))
local macro_rules | `(tactic| wtm_at "isq") => `(tactic| first | exact IsSq.tup | exact IsSq.lst (by wtm_at "isl"))
local macro_rules | `(tactic| wtm_at "bi") => `(tactic| exact Bi.h (by assumption) (by kernel_rfl))
/-- leaves and forms of expressions -/
local macro_rules | `(tactic| wtm_at "st1") => `(tactic| (intro _; rfl))
local macro_rules | `(tactic| wtm_at "kr") => `(tactic| exact (by kernel_rfl))
local macro_rules | `(tactic| wtm_at "nam") => `(tactic| ((show TL.Ev _ _ _ (Expr.Name _ _) _); first
  | (apply ev_nameV; (focus wtm_at "lk"); (focus wtm_at "nv"); (focus wtm_at "vs"))
  | (apply ev_gvalA; (focus with_reducible assumption); (focus wtm_at "gl"); (focus wtm_at "kr"))
  | (apply ev_gtupA; (focus with_reducible assumption); (focus wtm_at "gl"); (focus wtm_at "kr"))
  | (apply ev_tynN; (focus wtm_at "bn"); (focus wtm_at "gl"); (focus with_reducible assumption); (focus wtm_at "bty"))))
local macro_rules | `(tactic| wtm_at "cll") => `(tactic| ((show TL.Ev _ _ _ (Expr.Call (Expr.Name _ _) _ _ _) _); first
  | (apply ev_bltA; (focus wtm_at "bn"); (focus wtm_at "gl"); (focus with_reducible assumption); (focus wtm_at "bt"); (focus wtm_at "st1"); (focus wtm_at "st1"))
  | (apply ev_bltyA; (focus wtm_at "bn"); (focus wtm_at "gl"); (focus with_reducible assumption); (focus wtm_at "bty"); (focus wtm_at "st1"); (focus wtm_at "st1"))
  | (apply ev_callA; (focus with_reducible assumption); (focus rfl); (focus rfl); (focus wtm_at "gl"); (focus wtm_at "kr"); (focus wtm_at "st1"); (focus wtm_at "st1"))
  | (apply ev_makeA; (focus with_reducible assumption); (focus rfl); (focus rfl); (focus wtm_at "gl"); (focus wtm_at "kr"); (focus wtm_at "st1"); (focus wtm_at "st1"))))
local macro_rules | `(tactic| wtm_at "mtl") => `(tactic| ((show TL.Ev _ _ _ (Expr.Call (Expr.Attribute _ _ _) _ _ _) _); first
  | (apply ev_meth0A; (focus with_reducible assumption); (focus with_reducible assumption); (focus rfl); (focus rfl); (focus wtm_at "st1"))
  | (apply ev_methA; (focus with_reducible assumption); (focus with_reducible assumption); (focus rfl); (focus rfl); (focus wtm_at "st1"); (focus wtm_at "st1"); (focus wtm_at "st1"))))
local macro_rules | `(tactic| wtm_at "ev") => `(tactic| ((with_reducible first | show TL.Ev _ _ _ _ _ | show TL.EvA _ _ _ _ _); first
  | wtm_at "nam" | wtm_at "cll" | wtm_at "mtl"
  | refine ev_int ?_
  | refine ev_str ?_
  | refine ev_bin ?_
  | refine ev_cmp ?_
  | refine ev_bl ?_
  | refine ev_non ?_
  | refine ea_cons ?_
  | refine ea_nil ?_
  | refine ev_ix ?_
  | refine ev_tup ?_
  | refine ev_lst ?_
  | refine ev_if ?_
  | refine ev_sl ?_
  | refine ev_chain ?_
  | refine ev_not ?_
  | refine ev_and ?_
  | refine ev_or ?_
  | refine ev_one ?_
  | (apply ev_fldA; (focus with_reducible assumption); (focus with_reducible assumption); (focus wtm_at "st1"))))
local macro_rules | `(tactic| wtm_at "o2") => `(tactic| ((with_reducible show TL.Op2 _ _ _ _ _ _ _); first
  | with_reducible refine op_addI ?_ | with_reducible refine op_subI ?_ | with_reducible refine op_eqI ?_ | with_reducible refine op_neI ?_ | with_reducible refine op_ltI ?_ | with_reducible refine op_leI ?_ | with_reducible refine op_gtI ?_ | with_reducible refine op_geI ?_
  | with_reducible refine op_eqS ?_ | with_reducible refine op_neS ?_ | with_reducible refine TL.op_isN ?_ | with_reducible refine TL.op_notN ?_))
local macro_rules | `(tactic| wtm_at "op") => `(tactic| first
  | with_reducible refine and_t ?_ | with_reducible refine and_f ?_ | with_reducible refine or_t ?_ | with_reducible refine or_f ?_
  | with_reducible refine tand_t ?_ | with_reducible refine tand_f ?_ | with_reducible refine tor_t ?_ | with_reducible refine tor_f ?_
  | with_reducible refine andn_t ?_ | with_reducible refine andn_f ?_ | with_reducible refine orn_t ?_ | with_reducible refine orn_f ?_
  | with_reducible refine tandn_t ?_ | with_reducible refine tandn_f ?_ | with_reducible refine torn_t ?_ | with_reducible refine torn_f ?_
  | ((with_reducible show Exists _); first
    | ((with_reducible apply TL.fld_of); (focus wtm_at "iso"); (focus rfl)) | ((with_reducible apply TL.mth_of); (focus wtm_at "iso"); (focus rfl))
    | refine ⟨_, tr_bl, ?_⟩ | refine ⟨_, tr_non, ?_⟩ | refine ⟨_, tr_int, ?_⟩ | refine ⟨_, tr_Q (by wtm_at "isq"), ?_⟩
    | refine ⟨_, by wtm_at "pt", ?_⟩
    | refine ⟨_, rfl, ?_⟩)
  | ((with_reducible show And _ _); refine And.intro ?_ ?_)
  | ((with_reducible show List.Sublist _ _); exact List.Sublist.refl _) | ((with_reducible show @Eq _ _ _); with_reducible rfl)
  | ((with_reducible intro hb); exact Bool.noConfusion hb)
  | refine fun (_ : true = true) => ?_ | refine fun (_ : false = false) => ?_
  | (with_reducible intro (hb : _ = true)) | (with_reducible intro (hb : _ = false)) | ((with_reducible intro hb); simp only [decide_eq_true_eq, decide_eq_false_iff_not, Bool.not_eq_true', Bool.not_eq_false', Bool.not_eq_true, Bool.not_eq_false, Bool.and_eq_true, Bool.or_eq_true] at hb))
local macro_rules | `(tactic| wtm_at "ty") => `(tactic| first | with_reducible exact TyD.int | with_reducible exact TyD.str | exact TyD.bl | exact TyD.non | exact TyD.tup | exact TyD.lst (by wtm_at "isl") | exact TyD.dK (by wtm_at "isk") | exact TyD.ob (by wtm_at "iso") (by assumption))
local macro_rules | `(tactic| wtm_at "kt") => `(tactic| first | with_reducible exact kt_int_int | with_reducible exact kt_int_bool | with_reducible exact kt_bool_int | with_reducible exact kt_bool_bool | with_reducible exact kt_str_str | with_reducible exact kt_int_str | with_reducible exact kt_str_int | with_reducible exact kt_tuple_tuple | with_reducible exact kt_nonetype_tuple | with_reducible exact kt_list_tuple | with_reducible exact kt_dict_dict | with_reducible exact kt_list_list | with_reducible exact kt_tuple_list | with_reducible exact kt_dict_list | with_reducible exact kt_list_dict | with_reducible exact kt_nonetype_list | with_reducible exact kt_nonetype_dict | with_reducible exact kt_tuple_dict | with_reducible exact kt_str_tuple | with_reducible exact kt_str_list | with_reducible exact kt_str_dict | with_reducible exact kt_int_tuple | with_reducible exact kt_int_list | with_reducible exact kt_int_dict | with_reducible exact kt_dict_tuple | with_reducible exact kt_str_bool | with_reducible exact kt_nonetype_int | with_reducible exact kt_nonetype_str | with_reducible exact kt_nonetype_bool | with_reducible exact kt_tuple_int | with_reducible exact kt_tuple_str | with_reducible exact kt_tuple_bool | with_reducible exact kt_list_int | with_reducible exact kt_list_str | with_reducible exact kt_list_bool | with_reducible exact kt_dict_int | with_reducible exact kt_dict_str | with_reducible exact kt_dict_bool | with_reducible exact kt_bool_str | with_reducible exact kt_bool_tuple | with_reducible exact kt_bool_list | with_reducible exact kt_bool_dict)
local macro_rules | `(tactic| wtm_at "cv") => `(tactic| ((with_reducible show TL.CallV _ _ _ _ _ _); first
  | ((with_reducible apply cv_isTy); (focus wtm_at "ty"); (focus wtm_at "kt"))
  | ((with_reducible apply cv_isCl); (focus wtm_at "ty"); (focus assumption))
  | ((with_reducible apply cv_lenQ); (focus wtm_at "isq"))
  | ((with_reducible apply cv_lenK); (focus wtm_at "isk"))
  | ((with_reducible apply cv_all); (focus rfl); (focus wtm_at "isl"); (focus exact all_bl _ _); rw [all_boolD])
  | ((with_reducible apply cv_any); (focus rfl); (focus wtm_at "isl"); (focus exact all_bl _ _); rw [any_boolD])
  | ((with_reducible apply cv_max2); (focus rfl))
  | ((with_reducible apply cv_min2); (focus rfl))
  | (with_reducible apply cv_intI)
  | (with_reducible apply cv_tupT)
  | ((with_reducible apply cv_dcopy); (focus wtm_at "isk"))
  | ((with_reducible apply cv_tupL); (focus wtm_at "isl"))))
local macro_rules | `(tactic| wtm_at "bg") => `(tactic| (simp only [slotsOf, List.map_cons, List.map_nil, List.length_cons, List.length_nil, List.cons_append, List.nil_append, List.replicate, Nat.reduceAdd, Nat.reduceSub]; wtm_at "rw"))
local macro_rules | `(tactic| wtm_at "tst") => `(tactic| ((with_reducible first | show TL.Tst _ _ _ _ _ | show TL.TstW _ _ _ _ _); first
  | refine tst_not ?_ | refine tst_cmp ?_ | refine tst_chain2 ?_ | refine tst_bool ?_ | refine tw_and ?_ | refine tw_or ?_ | refine tw_and1 ?_ | refine tw_or1 ?_ | refine tst_val ?_))
local macro_rules | `(tactic| wtm_at "st") => `(tactic| ((with_reducible show TL.Run _ _ _ _ _); first
  | refine run_ret0 ?_ | refine run_retN0 ?_ | refine run_nil ?_ | refine run_if ?_ | refine run_pass ?_ | refine run_break ?_ | refine run_cont ?_
  | refine run_raiseD (by assumption) rfl (by wtm_at "gl") ?_
  | refine run_raiseLD (by assumption) rfl (Nat.le_of_ble_eq_true rfl) (by wtm_at "gl") ?_
  | refine run_set (by wtm_at "loc") (by wtm_at "mem") ?_
  | refine run_expr ?_
  | refine run_aug (by wtm_at "loc") (by wtm_at "lk") ?_))
local macro_rules | `(tactic| wtm_at "s2") => `(tactic| ((with_reducible show TL.Run _ _ _ _ _); first
  | refine run_nil ?_ | refine run_if ?_ | refine run_pass ?_ | refine run_break ?_ | refine run_cont ?_
  | refine run_raiseD (by assumption) rfl (by wtm_at "gl") ?_
  | refine run_raiseLD (by assumption) rfl (Nat.le_of_ble_eq_true rfl) (by wtm_at "gl") ?_
  | refine run_set (by wtm_at "loc") (by wtm_at "mem") ?_
  | refine run_expr ?_
  | refine run_aug (by wtm_at "loc") (by wtm_at "lk") ?_))
local macro_rules | `(tactic| wtm_at "go") => `(tactic| (repeat' (first | with_reducible assumption | wtm_at "ev" | wtm_at "o2" | wtm_at "cv" | wtm_at "st" | wtm_at "tst" | wtm_at "op" | fail); all_goals (try assumption)))
local macro_rules | `(tactic| wtm_at "gk") => `(tactic| (repeat' (first | with_reducible assumption | refine run_ret ?_ | refine run_retN ?_ | wtm_at "ev" | wtm_at "o2" | wtm_at "cv" | wtm_at "st" | wtm_at "tst" | wtm_at "op" | fail); all_goals (try assumption)))
local macro_rules | `(tactic| wtm_at "wz") => `(tactic| simp only [wipeG, List.set_cons_zero, List.set_cons_succ, List.map_cons, List.map_nil])
local macro_rules | `(tactic| wtm_at "gn") => `(tactic| (repeat' (first | with_reducible assumption | wtm_at "ev" | wtm_at "o2" | wtm_at "cv" | wtm_at "s2" | wtm_at "tst" | wtm_at "op" | fail); all_goals (try assumption)))
local macro_rules | `(tactic| wtm_at "ln") => `(tactic| first | (with_reducible assumption) | ((with_reducible show TL.Len _ (Str.ofString _)); exact len_lit) | ((with_reducible show TL.Len _ (_ ++ _)); apply len_app <;> wtm_at "ln"))
local macro_rules | `(tactic| wtm_at "lw") => `(tactic| (repeat' (first | with_reducible assumption | ((with_reducible show _ ≤ sizeLine); exact Nat.le_of_ble_eq_true rfl) | refine ev_lstF ?_ | refine ev_dnewF ?_ | refine evp_n ?_ | refine evp_i ?_ | refine evp_s ?_ | ((with_reducible show TL.Op2 _ _ _ (PySem.binaryOp .Add) (TL.D.str _) (TL.D.str _) _); refine op_addL (by wtm_at "ln") (by wtm_at "ln") (by decide +kernel) ?_) | wtm_at "ev" | wtm_at "o2" | wtm_at "cv" | wtm_at "s2" | wtm_at "tst" | wtm_at "op" | fail); all_goals (try assumption)))
local macro_rules | `(tactic| wtm_at "rw") => `(tactic| first | (with_reducible refine run_withB Rk06.db__wall Rk06.vl__wall Rk06.hb__wall fun _ _ => ?_) | (with_reducible refine run_withB Rk06.db_BadLine_init Rk06.vl_BadLine_init Rk06.hb_BadLine_init fun _ _ => ?_) | (with_reducible refine run_withB Rk06.db_is_whole Rk06.vl_is_whole Rk06.hb_is_whole fun _ _ => ?_) | (with_reducible refine run_withB Rk06.db_is_text Rk06.vl_is_text Rk06.hb_is_text fun _ _ => ?_) | (with_reducible refine run_withB Rk06.db_is_letter Rk06.vl_is_letter Rk06.hb_is_letter fun _ _ => ?_) | (with_reducible refine run_withB Rk06.db_is_row Rk06.vl_is_row Rk06.hb_is_row fun _ _ => ?_) | (with_reducible refine run_withB Rk06.db_is_machine Rk06.vl_is_machine Rk06.hb_is_machine fun _ _ => ?_) | (with_reducible refine run_withB Rk06.db_Reader_init Rk06.vl_Reader_init Rk06.hb_Reader_init fun _ _ => ?_) | (with_reducible refine run_withB Rk06.db_Reader_behind Rk06.vl_Reader_behind Rk06.hb_Reader_behind fun _ _ => ?_) | (with_reducible refine run_withB Rk06.db_Machine_init Rk06.vl_Machine_init Rk06.hb_Machine_init fun _ _ => ?_) | (with_reducible refine run_withB Rk06.db_Machine_rows Rk06.vl_Machine_rows Rk06.hb_Machine_rows fun _ _ => ?_) | (with_reducible refine run_withB Rk06.db_Machine_ends Rk06.vl_Machine_ends Rk06.hb_Machine_ends fun _ _ => ?_) | (with_reducible refine run_withB Rk06.db_Machine_has Rk06.vl_Machine_has Rk06.hb_Machine_has fun _ _ => ?_) | (with_reducible refine run_withB Rk06.db_Machine_needed Rk06.vl_Machine_needed Rk06.hb_Machine_needed fun _ _ => ?_) | (with_reducible refine run_withB Rk06.db_Machine_least Rk06.vl_Machine_least Rk06.hb_Machine_least fun _ _ => ?_) | (with_reducible refine run_withB Rk06.db_Machine_and Rk06.vl_Machine_and Rk06.hb_Machine_and fun _ _ => ?_) | (with_reducible refine run_withB Rk06.db_Machine_or Rk06.vl_Machine_or Rk06.hb_Machine_or fun _ _ => ?_) | (with_reducible refine run_withB Rk06.db_Machine_sub Rk06.vl_Machine_sub Rk06.hb_Machine_sub fun _ _ => ?_) | (with_reducible refine run_withB Rk06.db_Machine_is_in Rk06.vl_Machine_is_in Rk06.hb_Machine_is_in fun _ _ => ?_) | (with_reducible refine run_withB Rk06.db_Machine_eq Rk06.vl_Machine_eq Rk06.hb_Machine_eq fun _ _ => ?_) | (with_reducible refine run_withB Rk06.db_Machine_plain Rk06.vl_Machine_plain Rk06.hb_Machine_plain fun _ _ => ?_) | (with_reducible refine run_withB Rk06.db_row_behind Rk06.vl_row_behind Rk06.hb_row_behind fun _ _ => ?_) | (with_reducible refine run_withB Rk06.db_ways_of Rk06.vl_ways_of Rk06.hb_ways_of fun _ _ => ?_) | (with_reducible refine run_withB Rk06.db_least_text Rk06.vl_least_text Rk06.hb_least_text fun _ _ => ?_) | (with_reducible refine run_withB Rk06.db_is_end Rk06.vl_is_end Rk06.hb_is_end fun _ _ => ?_) | (with_reducible refine run_withB Rk06.db_is_wished Rk06.vl_is_wished Rk06.hb_is_wished fun _ _ => ?_) | (with_reducible refine run_withB Rk06.db_woven Rk06.vl_woven Rk06.hb_woven fun _ _ => ?_) | (with_reducible refine run_withB Rk06.db_write_machine Rk06.vl_write_machine Rk06.hb_write_machine fun _ _ => ?_) | (with_reducible refine run_withB Rk06.db_number_of Rk06.vl_number_of Rk06.hb_number_of fun _ _ => ?_) | (with_reducible refine run_withB Rk06.db_rises Rk06.vl_rises Rk06.hb_rises fun _ _ => ?_) | (with_reducible refine run_withB Rk06.db_ends_in Rk06.vl_ends_in Rk06.hb_ends_in fun _ _ => ?_) | (with_reducible refine run_withB Rk06.db_row_in Rk06.vl_row_in Rk06.hb_row_in fun _ _ => ?_) | (with_reducible refine run_withB Rk06.db_read_machine Rk06.vl_read_machine Rk06.hb_read_machine fun _ _ => ?_) | (with_reducible refine run_withB Rk06.db__law_begin Rk06.vl__law_begin Rk06.hb__law_begin fun _ _ => ?_) | (with_reducible refine run_withB Rk06.db__law_draw Rk06.vl__law_draw Rk06.hb__law_draw fun _ _ => ?_) | (with_reducible refine run_withB Rk06.db__law_machine Rk06.vl__law_machine Rk06.hb__law_machine fun _ _ => ?_) | (with_reducible refine run_withB Rk06.db__law_after Rk06.vl__law_after Rk06.hb__law_after fun _ _ => ?_) | (with_reducible refine run_withB Rk06.db__law_row Rk06.vl__law_row Rk06.hb__law_row fun _ _ => ?_) | (with_reducible refine run_withB Rk06.db__law_has Rk06.vl__law_has Rk06.hb__law_has fun _ _ => ?_) | (with_reducible refine run_withB Rk06.db__law_texts Rk06.vl__law_texts Rk06.hb__law_texts fun _ _ => ?_) | (with_reducible refine run_withB Rk06.db__law_needed Rk06.vl__law_needed Rk06.hb__law_needed fun _ _ => ?_) | (with_reducible refine run_withB Rk06.db__law_make Rk06.vl__law_make Rk06.hb__law_make fun _ _ => ?_) | (with_reducible refine run_withB Rk06.db__law_two Rk06.vl__law_two Rk06.hb__law_two fun _ _ => ?_) | (with_reducible refine run_withB Rk06.db__law_like Rk06.vl__law_like Rk06.hb__law_like fun _ _ => ?_) | (with_reducible refine run_withB Rk06.db_law Rk06.vl_law Rk06.hb_law fun _ _ => ?_) | skip)
namespace Rk06
def top (i : Nat) : Stmt := PySem.Challenge.pw_repairscost_k06_texts_there_and_back.main.body.getD i (.Pass ⟨0, 0, 0, 0⟩)
abbrev s__wall : Stmt := top 0
theorem db__wall : dbOk ["k"] = true := by kernel_rfl
theorem vl__wall : visL (defScope s__wall) ["k"] = true := by kernel_rfl
def _wall_s_0a_0 : Stmt := pL (pA (pL (defBody s__wall) 0)) 0
def _wall_q_0a_1 : List Stmt := []
def _wall_q_0a_0 : List Stmt := _wall_s_0a_0 :: _wall_q_0a_1
def _wall_c_0 : Expr := pC (pL (defBody s__wall) 0)
def _wall_s_0 : Stmt := .While _wall_c_0 _wall_q_0a_0 [] (pP (pL (defBody s__wall) 0))
def _wall_q_1 : List Stmt := []
def _wall_q_0 : List Stmt := _wall_s_0 :: _wall_q_1
theorem hb__wall : defBody s__wall = _wall_q_0 := by kernel_rfl
theorem sc__wall : FnScope ["k"] ["k"] (defScope s__wall) := ⟨rfl, rfl, rfl, by decide +kernel, rfl, by decide +kernel, by decide +kernel⟩
abbrev s_BadLine_init : Stmt := inClass (top 6) 0
theorem db_BadLine_init : dbOk ["self", "line"] = true := by kernel_rfl
theorem vl_BadLine_init : visL (defScope s_BadLine_init) ["self", "line"] = true := by kernel_rfl
def BadLine_init_s_0 : Stmt := pL (defBody s_BadLine_init) 0
def BadLine_init_q_1 : List Stmt := []
def BadLine_init_q_0 : List Stmt := BadLine_init_s_0 :: BadLine_init_q_1
theorem hb_BadLine_init : defBody s_BadLine_init = BadLine_init_q_0 := by kernel_rfl
theorem sc_BadLine_init : FnScope ["self", "line"] ["self", "line"] (defScope s_BadLine_init) := ⟨rfl, rfl, rfl, by decide +kernel, rfl, by decide +kernel, by decide +kernel⟩
abbrev s_is_whole : Stmt := top 10
theorem db_is_whole : dbOk ["thing", "least", "most"] = true := by kernel_rfl
theorem vl_is_whole : visL (defScope s_is_whole) ["thing", "least", "most"] = true := by kernel_rfl
def is_whole_s_0 : Stmt := pL (defBody s_is_whole) 0
def is_whole_q_1 : List Stmt := []
def is_whole_q_0 : List Stmt := is_whole_s_0 :: is_whole_q_1
theorem hb_is_whole : defBody s_is_whole = is_whole_q_0 := by kernel_rfl
theorem sc_is_whole : FnScope ["thing", "least", "most"] ["thing", "least", "most"] (defScope s_is_whole) := ⟨rfl, rfl, rfl, by decide +kernel, rfl, by decide +kernel, by decide +kernel⟩
abbrev s_is_text : Stmt := top 11
theorem db_is_text : dbOk ["thing", "letter"] = true := by kernel_rfl
theorem vl_is_text : visL (defScope s_is_text) ["thing"] = true := by kernel_rfl
def is_text_s_0 : Stmt := pL (defBody s_is_text) 0
def is_text_q_1 : List Stmt := []
def is_text_q_0 : List Stmt := is_text_s_0 :: is_text_q_1
theorem hb_is_text : defBody s_is_text = is_text_q_0 := by kernel_rfl
theorem sc_is_text : FnScope ["thing", "letter"] ["thing"] (defScope s_is_text) := ⟨rfl, rfl, rfl, by decide +kernel, rfl, by decide +kernel, by decide +kernel⟩
abbrev s_is_letter : Stmt := top 12
theorem db_is_letter : dbOk ["thing"] = true := by kernel_rfl
theorem vl_is_letter : visL (defScope s_is_letter) ["thing"] = true := by kernel_rfl
def is_letter_s_0 : Stmt := pL (defBody s_is_letter) 0
def is_letter_q_1 : List Stmt := []
def is_letter_q_0 : List Stmt := is_letter_s_0 :: is_letter_q_1
theorem hb_is_letter : defBody s_is_letter = is_letter_q_0 := by kernel_rfl
theorem sc_is_letter : FnScope ["thing"] ["thing"] (defScope s_is_letter) := ⟨rfl, rfl, rfl, by decide +kernel, rfl, by decide +kernel, by decide +kernel⟩
abbrev s_is_row : Stmt := top 13
theorem db_is_row : dbOk ["thing", "many", "letter"] = true := by kernel_rfl
theorem vl_is_row : visL (defScope s_is_row) ["thing", "many"] = true := by kernel_rfl
def is_row_s_0a_0 : Stmt := pL (pA (pL (defBody s_is_row) 0)) 0
def is_row_q_0a_1 : List Stmt := []
def is_row_q_0a_0 : List Stmt := is_row_s_0a_0 :: is_row_q_0a_1
def is_row_q_0b_0 : List Stmt := []
def is_row_c_0 : Expr := pC (pL (defBody s_is_row) 0)
def is_row_s_0 : Stmt := .If is_row_c_0 is_row_q_0a_0 is_row_q_0b_0 (pP (pL (defBody s_is_row) 0))
def is_row_s_1 : Stmt := pL (defBody s_is_row) 1
def is_row_q_2 : List Stmt := []
def is_row_q_1 : List Stmt := is_row_s_1 :: is_row_q_2
def is_row_q_0 : List Stmt := is_row_s_0 :: is_row_q_1
theorem hb_is_row : defBody s_is_row = is_row_q_0 := by kernel_rfl
theorem sc_is_row : FnScope ["thing", "many", "letter"] ["thing", "many"] (defScope s_is_row) := ⟨rfl, rfl, rfl, by decide +kernel, rfl, by decide +kernel, by decide +kernel⟩
abbrev s_is_machine : Stmt := top 14
theorem db_is_machine : dbOk ["rows", "ends", "row", "end", "one", "other"] = true := by kernel_rfl
theorem vl_is_machine : visL (defScope s_is_machine) ["rows", "ends"] = true := by kernel_rfl
def is_machine_s_0a_0 : Stmt := pL (pA (pL (defBody s_is_machine) 0)) 0
def is_machine_q_0a_1 : List Stmt := []
def is_machine_q_0a_0 : List Stmt := is_machine_s_0a_0 :: is_machine_q_0a_1
def is_machine_q_0b_0 : List Stmt := []
def is_machine_c_0 : Expr := pC (pL (defBody s_is_machine) 0)
def is_machine_s_0 : Stmt := .If is_machine_c_0 is_machine_q_0a_0 is_machine_q_0b_0 (pP (pL (defBody s_is_machine) 0))
def is_machine_s_1a_0 : Stmt := pL (pA (pL (defBody s_is_machine) 1)) 0
def is_machine_q_1a_1 : List Stmt := []
def is_machine_q_1a_0 : List Stmt := is_machine_s_1a_0 :: is_machine_q_1a_1
def is_machine_q_1b_0 : List Stmt := []
def is_machine_c_1 : Expr := pC (pL (defBody s_is_machine) 1)
def is_machine_s_1 : Stmt := .If is_machine_c_1 is_machine_q_1a_0 is_machine_q_1b_0 (pP (pL (defBody s_is_machine) 1))
def is_machine_s_2 : Stmt := pL (defBody s_is_machine) 2
def is_machine_q_3 : List Stmt := []
def is_machine_q_2 : List Stmt := is_machine_s_2 :: is_machine_q_3
def is_machine_q_1 : List Stmt := is_machine_s_1 :: is_machine_q_2
def is_machine_q_0 : List Stmt := is_machine_s_0 :: is_machine_q_1
theorem hb_is_machine : defBody s_is_machine = is_machine_q_0 := by kernel_rfl
theorem sc_is_machine : FnScope ["rows", "ends", "row", "end", "one", "other"] ["rows", "ends"] (defScope s_is_machine) := ⟨rfl, rfl, rfl, by decide +kernel, rfl, by decide +kernel, by decide +kernel⟩
abbrev s_Reader_init : Stmt := inClass (top 15) 0
theorem db_Reader_init : dbOk ["self", "rows", "ends", "letter", "row"] = true := by kernel_rfl
theorem vl_Reader_init : visL (defScope s_Reader_init) ["self", "rows", "ends"] = true := by kernel_rfl
def Reader_init_s_0 : Stmt := pL (defBody s_Reader_init) 0
def Reader_init_s_1 : Stmt := pL (defBody s_Reader_init) 1
def Reader_init_q_2 : List Stmt := []
def Reader_init_q_1 : List Stmt := Reader_init_s_1 :: Reader_init_q_2
def Reader_init_q_0 : List Stmt := Reader_init_s_0 :: Reader_init_q_1
theorem hb_Reader_init : defBody s_Reader_init = Reader_init_q_0 := by kernel_rfl
theorem sc_Reader_init : FnScope ["self", "rows", "ends", "letter", "row"] ["self", "rows", "ends"] (defScope s_Reader_init) := ⟨rfl, rfl, rfl, by decide +kernel, rfl, by decide +kernel, by decide +kernel⟩
abbrev s_Reader_behind : Stmt := inClass (top 15) 1
theorem db_Reader_behind : dbOk ["self", "row", "letter"] = true := by kernel_rfl
theorem vl_Reader_behind : visL (defScope s_Reader_behind) ["self", "row", "letter"] = true := by kernel_rfl
def Reader_behind_s_0 : Stmt := pL (defBody s_Reader_behind) 0
def Reader_behind_q_1 : List Stmt := []
def Reader_behind_q_0 : List Stmt := Reader_behind_s_0 :: Reader_behind_q_1
theorem hb_Reader_behind : defBody s_Reader_behind = Reader_behind_q_0 := by kernel_rfl
theorem sc_Reader_behind : FnScope ["self", "row", "letter"] ["self", "row", "letter"] (defScope s_Reader_behind) := ⟨rfl, rfl, rfl, by decide +kernel, rfl, by decide +kernel, by decide +kernel⟩
abbrev s_Machine_init : Stmt := inClass (top 16) 0
theorem db_Machine_init : dbOk ["self", "rows", "ends"] = true := by kernel_rfl
theorem vl_Machine_init : visL (defScope s_Machine_init) ["self", "rows", "ends"] = true := by kernel_rfl
def Machine_init_s_0a_0 : Stmt := pL (pA (pL (defBody s_Machine_init) 0)) 0
def Machine_init_s_0a_1 : Stmt := pL (pA (pL (defBody s_Machine_init) 0)) 1
def Machine_init_q_0a_2 : List Stmt := []
def Machine_init_q_0a_1 : List Stmt := Machine_init_s_0a_1 :: Machine_init_q_0a_2
def Machine_init_q_0a_0 : List Stmt := Machine_init_s_0a_0 :: Machine_init_q_0a_1
def Machine_init_q_0b_0 : List Stmt := []
def Machine_init_c_0 : Expr := pC (pL (defBody s_Machine_init) 0)
def Machine_init_s_0 : Stmt := .If Machine_init_c_0 Machine_init_q_0a_0 Machine_init_q_0b_0 (pP (pL (defBody s_Machine_init) 0))
def Machine_init_s_1a_0 : Stmt := pL (pA (pL (defBody s_Machine_init) 1)) 0
def Machine_init_q_1a_1 : List Stmt := []
def Machine_init_q_1a_0 : List Stmt := Machine_init_s_1a_0 :: Machine_init_q_1a_1
def Machine_init_q_1b_0 : List Stmt := []
def Machine_init_c_1 : Expr := pC (pL (defBody s_Machine_init) 1)
def Machine_init_s_1 : Stmt := .If Machine_init_c_1 Machine_init_q_1a_0 Machine_init_q_1b_0 (pP (pL (defBody s_Machine_init) 1))
def Machine_init_s_2 : Stmt := pL (defBody s_Machine_init) 2
def Machine_init_q_3 : List Stmt := []
def Machine_init_q_2 : List Stmt := Machine_init_s_2 :: Machine_init_q_3
def Machine_init_q_1 : List Stmt := Machine_init_s_1 :: Machine_init_q_2
def Machine_init_q_0 : List Stmt := Machine_init_s_0 :: Machine_init_q_1
theorem hb_Machine_init : defBody s_Machine_init = Machine_init_q_0 := by kernel_rfl
theorem sc_Machine_init : FnScope ["self", "rows", "ends"] ["self", "rows", "ends"] (defScope s_Machine_init) := ⟨rfl, rfl, rfl, by decide +kernel, rfl, by decide +kernel, by decide +kernel⟩
abbrev s_Machine_rows : Stmt := inClass (top 16) 1
theorem db_Machine_rows : dbOk ["self", "row"] = true := by kernel_rfl
theorem vl_Machine_rows : visL (defScope s_Machine_rows) ["self"] = true := by kernel_rfl
def Machine_rows_s_0 : Stmt := pL (defBody s_Machine_rows) 0
def Machine_rows_q_1 : List Stmt := []
def Machine_rows_q_0 : List Stmt := Machine_rows_s_0 :: Machine_rows_q_1
theorem hb_Machine_rows : defBody s_Machine_rows = Machine_rows_q_0 := by kernel_rfl
theorem sc_Machine_rows : FnScope ["self", "row"] ["self"] (defScope s_Machine_rows) := ⟨rfl, rfl, rfl, by decide +kernel, rfl, by decide +kernel, by decide +kernel⟩
abbrev s_Machine_ends : Stmt := inClass (top 16) 2
theorem db_Machine_ends : dbOk ["self"] = true := by kernel_rfl
theorem vl_Machine_ends : visL (defScope s_Machine_ends) ["self"] = true := by kernel_rfl
def Machine_ends_s_0 : Stmt := pL (defBody s_Machine_ends) 0
def Machine_ends_q_1 : List Stmt := []
def Machine_ends_q_0 : List Stmt := Machine_ends_s_0 :: Machine_ends_q_1
theorem hb_Machine_ends : defBody s_Machine_ends = Machine_ends_q_0 := by kernel_rfl
theorem sc_Machine_ends : FnScope ["self"] ["self"] (defScope s_Machine_ends) := ⟨rfl, rfl, rfl, by decide +kernel, rfl, by decide +kernel, by decide +kernel⟩
abbrev s_Machine_has : Stmt := inClass (top 16) 3
theorem db_Machine_has : dbOk ["self", "text"] = true := by kernel_rfl
theorem vl_Machine_has : visL (defScope s_Machine_has) ["self", "text"] = true := by kernel_rfl
def Machine_has_s_0a_0 : Stmt := pL (pA (pL (defBody s_Machine_has) 0)) 0
def Machine_has_q_0a_1 : List Stmt := []
def Machine_has_q_0a_0 : List Stmt := Machine_has_s_0a_0 :: Machine_has_q_0a_1
def Machine_has_q_0b_0 : List Stmt := []
def Machine_has_c_0 : Expr := pC (pL (defBody s_Machine_has) 0)
def Machine_has_s_0 : Stmt := .If Machine_has_c_0 Machine_has_q_0a_0 Machine_has_q_0b_0 (pP (pL (defBody s_Machine_has) 0))
def Machine_has_s_1 : Stmt := pL (defBody s_Machine_has) 1
def Machine_has_q_2 : List Stmt := []
def Machine_has_q_1 : List Stmt := Machine_has_s_1 :: Machine_has_q_2
def Machine_has_q_0 : List Stmt := Machine_has_s_0 :: Machine_has_q_1
theorem hb_Machine_has : defBody s_Machine_has = Machine_has_q_0 := by kernel_rfl
theorem sc_Machine_has : FnScope ["self", "text"] ["self", "text"] (defScope s_Machine_has) := ⟨rfl, rfl, rfl, by decide +kernel, rfl, by decide +kernel, by decide +kernel⟩
abbrev s_Machine_needed : Stmt := inClass (top 16) 4
theorem db_Machine_needed : dbOk ["self"] = true := by kernel_rfl
theorem vl_Machine_needed : visL (defScope s_Machine_needed) ["self"] = true := by kernel_rfl
def Machine_needed_s_0 : Stmt := pL (defBody s_Machine_needed) 0
def Machine_needed_q_1 : List Stmt := []
def Machine_needed_q_0 : List Stmt := Machine_needed_s_0 :: Machine_needed_q_1
theorem hb_Machine_needed : defBody s_Machine_needed = Machine_needed_q_0 := by kernel_rfl
theorem sc_Machine_needed : FnScope ["self"] ["self"] (defScope s_Machine_needed) := ⟨rfl, rfl, rfl, by decide +kernel, rfl, by decide +kernel, by decide +kernel⟩
abbrev s_Machine_least : Stmt := inClass (top 16) 5
theorem db_Machine_least : dbOk ["self", "found"] = true := by kernel_rfl
theorem vl_Machine_least : visL (defScope s_Machine_least) ["self", "found"] = true := by kernel_rfl
def Machine_least_s_0 : Stmt := pL (defBody s_Machine_least) 0
def Machine_least_s_1a_0 : Stmt := pL (pA (pL (defBody s_Machine_least) 1)) 0
def Machine_least_q_1a_1 : List Stmt := []
def Machine_least_q_1a_0 : List Stmt := Machine_least_s_1a_0 :: Machine_least_q_1a_1
def Machine_least_q_1b_0 : List Stmt := []
def Machine_least_c_1 : Expr := pC (pL (defBody s_Machine_least) 1)
def Machine_least_s_1 : Stmt := .If Machine_least_c_1 Machine_least_q_1a_0 Machine_least_q_1b_0 (pP (pL (defBody s_Machine_least) 1))
def Machine_least_s_2 : Stmt := pL (defBody s_Machine_least) 2
def Machine_least_q_3 : List Stmt := []
def Machine_least_q_2 : List Stmt := Machine_least_s_2 :: Machine_least_q_3
def Machine_least_q_1 : List Stmt := Machine_least_s_1 :: Machine_least_q_2
def Machine_least_q_0 : List Stmt := Machine_least_s_0 :: Machine_least_q_1
theorem hb_Machine_least : defBody s_Machine_least = Machine_least_q_0 := by kernel_rfl
theorem sc_Machine_least : FnScope ["self", "found"] ["self"] (defScope s_Machine_least) := ⟨rfl, rfl, rfl, by decide +kernel, rfl, by decide +kernel, by decide +kernel⟩
abbrev s_Machine_and : Stmt := inClass (top 16) 6
theorem db_Machine_and : dbOk ["self", "other"] = true := by kernel_rfl
theorem vl_Machine_and : visL (defScope s_Machine_and) ["self", "other"] = true := by kernel_rfl
def Machine_and_s_0 : Stmt := pL (defBody s_Machine_and) 0
def Machine_and_q_1 : List Stmt := []
def Machine_and_q_0 : List Stmt := Machine_and_s_0 :: Machine_and_q_1
theorem hb_Machine_and : defBody s_Machine_and = Machine_and_q_0 := by kernel_rfl
theorem sc_Machine_and : FnScope ["self", "other"] ["self", "other"] (defScope s_Machine_and) := ⟨rfl, rfl, rfl, by decide +kernel, rfl, by decide +kernel, by decide +kernel⟩
abbrev s_Machine_or : Stmt := inClass (top 16) 7
theorem db_Machine_or : dbOk ["self", "other"] = true := by kernel_rfl
theorem vl_Machine_or : visL (defScope s_Machine_or) ["self", "other"] = true := by kernel_rfl
def Machine_or_s_0 : Stmt := pL (defBody s_Machine_or) 0
def Machine_or_q_1 : List Stmt := []
def Machine_or_q_0 : List Stmt := Machine_or_s_0 :: Machine_or_q_1
theorem hb_Machine_or : defBody s_Machine_or = Machine_or_q_0 := by kernel_rfl
theorem sc_Machine_or : FnScope ["self", "other"] ["self", "other"] (defScope s_Machine_or) := ⟨rfl, rfl, rfl, by decide +kernel, rfl, by decide +kernel, by decide +kernel⟩
abbrev s_Machine_sub : Stmt := inClass (top 16) 8
theorem db_Machine_sub : dbOk ["self", "other"] = true := by kernel_rfl
theorem vl_Machine_sub : visL (defScope s_Machine_sub) ["self", "other"] = true := by kernel_rfl
def Machine_sub_s_0 : Stmt := pL (defBody s_Machine_sub) 0
def Machine_sub_q_1 : List Stmt := []
def Machine_sub_q_0 : List Stmt := Machine_sub_s_0 :: Machine_sub_q_1
theorem hb_Machine_sub : defBody s_Machine_sub = Machine_sub_q_0 := by kernel_rfl
theorem sc_Machine_sub : FnScope ["self", "other"] ["self", "other"] (defScope s_Machine_sub) := ⟨rfl, rfl, rfl, by decide +kernel, rfl, by decide +kernel, by decide +kernel⟩
abbrev s_Machine_is_in : Stmt := inClass (top 16) 9
theorem db_Machine_is_in : dbOk ["self", "other"] = true := by kernel_rfl
theorem vl_Machine_is_in : visL (defScope s_Machine_is_in) ["self", "other"] = true := by kernel_rfl
def Machine_is_in_s_0 : Stmt := pL (defBody s_Machine_is_in) 0
def Machine_is_in_q_1 : List Stmt := []
def Machine_is_in_q_0 : List Stmt := Machine_is_in_s_0 :: Machine_is_in_q_1
theorem hb_Machine_is_in : defBody s_Machine_is_in = Machine_is_in_q_0 := by kernel_rfl
theorem sc_Machine_is_in : FnScope ["self", "other"] ["self", "other"] (defScope s_Machine_is_in) := ⟨rfl, rfl, rfl, by decide +kernel, rfl, by decide +kernel, by decide +kernel⟩
abbrev s_Machine_eq : Stmt := inClass (top 16) 10
theorem db_Machine_eq : dbOk ["self", "other", "one"] = true := by kernel_rfl
theorem vl_Machine_eq : visL (defScope s_Machine_eq) ["self", "other", "one"] = true := by kernel_rfl
def Machine_eq_s_0a_0 : Stmt := pL (pA (pL (defBody s_Machine_eq) 0)) 0
def Machine_eq_q_0a_1 : List Stmt := []
def Machine_eq_q_0a_0 : List Stmt := Machine_eq_s_0a_0 :: Machine_eq_q_0a_1
def Machine_eq_q_0b_0 : List Stmt := []
def Machine_eq_c_0 : Expr := pC (pL (defBody s_Machine_eq) 0)
def Machine_eq_s_0 : Stmt := .If Machine_eq_c_0 Machine_eq_q_0a_0 Machine_eq_q_0b_0 (pP (pL (defBody s_Machine_eq) 0))
def Machine_eq_s_1 : Stmt := pL (defBody s_Machine_eq) 1
def Machine_eq_s_2 : Stmt := pL (defBody s_Machine_eq) 2
def Machine_eq_q_3 : List Stmt := []
def Machine_eq_q_2 : List Stmt := Machine_eq_s_2 :: Machine_eq_q_3
def Machine_eq_q_1 : List Stmt := Machine_eq_s_1 :: Machine_eq_q_2
def Machine_eq_q_0 : List Stmt := Machine_eq_s_0 :: Machine_eq_q_1
theorem hb_Machine_eq : defBody s_Machine_eq = Machine_eq_q_0 := by kernel_rfl
theorem sc_Machine_eq : FnScope ["self", "other", "one"] ["self", "other"] (defScope s_Machine_eq) := ⟨rfl, rfl, rfl, by decide +kernel, rfl, by decide +kernel, by decide +kernel⟩
abbrev s_Machine_plain : Stmt := inClass (top 16) 11
theorem db_Machine_plain : dbOk ["self"] = true := by kernel_rfl
theorem vl_Machine_plain : visL (defScope s_Machine_plain) ["self"] = true := by kernel_rfl
def Machine_plain_s_0 : Stmt := pL (defBody s_Machine_plain) 0
def Machine_plain_q_1 : List Stmt := []
def Machine_plain_q_0 : List Stmt := Machine_plain_s_0 :: Machine_plain_q_1
theorem hb_Machine_plain : defBody s_Machine_plain = Machine_plain_q_0 := by kernel_rfl
theorem sc_Machine_plain : FnScope ["self"] ["self"] (defScope s_Machine_plain) := ⟨rfl, rfl, rfl, by decide +kernel, rfl, by decide +kernel, by decide +kernel⟩
abbrev s_row_behind : Stmt := top 17
theorem db_row_behind : dbOk ["reader", "row", "text", "letter"] = true := by kernel_rfl
theorem vl_row_behind : visL (defScope s_row_behind) ["reader", "row", "text", "letter"] = true := by kernel_rfl
def row_behind_s_0a_0 : Stmt := pL (pA (pL (defBody s_row_behind) 0)) 0
def row_behind_q_0a_1 : List Stmt := []
def row_behind_q_0a_0 : List Stmt := row_behind_s_0a_0 :: row_behind_q_0a_1
def row_behind_t_0 : Expr := pT (pL (defBody s_row_behind) 0)
def row_behind_i_0 : Expr := pI (pL (defBody s_row_behind) 0)
def row_behind_s_0 : Stmt := .For row_behind_t_0 row_behind_i_0 row_behind_q_0a_0 [] (pP (pL (defBody s_row_behind) 0))
def row_behind_s_1 : Stmt := pL (defBody s_row_behind) 1
def row_behind_q_2 : List Stmt := []
def row_behind_q_1 : List Stmt := row_behind_s_1 :: row_behind_q_2
def row_behind_q_0 : List Stmt := row_behind_s_0 :: row_behind_q_1
theorem hb_row_behind : defBody s_row_behind = row_behind_q_0 := by kernel_rfl
theorem sc_row_behind : FnScope ["reader", "row", "text", "letter"] ["reader", "row", "text"] (defScope s_row_behind) := ⟨rfl, rfl, rfl, by decide +kernel, rfl, by decide +kernel, by decide +kernel⟩
abbrev s_ways_of : Stmt := top 18
theorem db_ways_of : dbOk ["reader", "found", "waiting", "at", "row", "letter", "after"] = true := by kernel_rfl
theorem vl_ways_of : visL (defScope s_ways_of) ["reader", "found", "waiting", "at", "row", "letter", "after"] = true := by kernel_rfl
def ways_of_s_0 : Stmt := pL (defBody s_ways_of) 0
def ways_of_s_1 : Stmt := pL (defBody s_ways_of) 1
def ways_of_s_2 : Stmt := pL (defBody s_ways_of) 2
def ways_of_s_3a_0 : Stmt := pL (pA (pL (defBody s_ways_of) 3)) 0
def ways_of_s_3a_1 : Stmt := pL (pA (pL (defBody s_ways_of) 3)) 1
def ways_of_s_3a_2a_0 : Stmt := pL (pA (pL (pA (pL (defBody s_ways_of) 3)) 2)) 0
def ways_of_s_3a_2a_1a_0 : Stmt := pL (pA (pL (pA (pL (pA (pL (defBody s_ways_of) 3)) 2)) 1)) 0
def ways_of_s_3a_2a_1a_1 : Stmt := pL (pA (pL (pA (pL (pA (pL (defBody s_ways_of) 3)) 2)) 1)) 1
def ways_of_q_3a_2a_1a_2 : List Stmt := []
def ways_of_q_3a_2a_1a_1 : List Stmt := ways_of_s_3a_2a_1a_1 :: ways_of_q_3a_2a_1a_2
def ways_of_q_3a_2a_1a_0 : List Stmt := ways_of_s_3a_2a_1a_0 :: ways_of_q_3a_2a_1a_1
def ways_of_q_3a_2a_1b_0 : List Stmt := []
def ways_of_c_3a_2a_1 : Expr := pC (pL (pA (pL (pA (pL (defBody s_ways_of) 3)) 2)) 1)
def ways_of_s_3a_2a_1 : Stmt := .If ways_of_c_3a_2a_1 ways_of_q_3a_2a_1a_0 ways_of_q_3a_2a_1b_0 (pP (pL (pA (pL (pA (pL (defBody s_ways_of) 3)) 2)) 1))
def ways_of_q_3a_2a_2 : List Stmt := []
def ways_of_q_3a_2a_1 : List Stmt := ways_of_s_3a_2a_1 :: ways_of_q_3a_2a_2
def ways_of_q_3a_2a_0 : List Stmt := ways_of_s_3a_2a_0 :: ways_of_q_3a_2a_1
def ways_of_t_3a_2 : Expr := pT (pL (pA (pL (defBody s_ways_of) 3)) 2)
def ways_of_i_3a_2 : Expr := pI (pL (pA (pL (defBody s_ways_of) 3)) 2)
def ways_of_s_3a_2 : Stmt := .For ways_of_t_3a_2 ways_of_i_3a_2 ways_of_q_3a_2a_0 [] (pP (pL (pA (pL (defBody s_ways_of) 3)) 2))
def ways_of_q_3a_3 : List Stmt := []
def ways_of_q_3a_2 : List Stmt := ways_of_s_3a_2 :: ways_of_q_3a_3
def ways_of_q_3a_1 : List Stmt := ways_of_s_3a_1 :: ways_of_q_3a_2
def ways_of_q_3a_0 : List Stmt := ways_of_s_3a_0 :: ways_of_q_3a_1
def ways_of_c_3 : Expr := pC (pL (defBody s_ways_of) 3)
def ways_of_s_3 : Stmt := .While ways_of_c_3 ways_of_q_3a_0 [] (pP (pL (defBody s_ways_of) 3))
def ways_of_s_4 : Stmt := pL (defBody s_ways_of) 4
def ways_of_q_5 : List Stmt := []
def ways_of_q_4 : List Stmt := ways_of_s_4 :: ways_of_q_5
def ways_of_q_3 : List Stmt := ways_of_s_3 :: ways_of_q_4
def ways_of_q_2 : List Stmt := ways_of_s_2 :: ways_of_q_3
def ways_of_q_1 : List Stmt := ways_of_s_1 :: ways_of_q_2
def ways_of_q_0 : List Stmt := ways_of_s_0 :: ways_of_q_1
theorem hb_ways_of : defBody s_ways_of = ways_of_q_0 := by kernel_rfl
theorem sc_ways_of : FnScope ["reader", "found", "waiting", "at", "row", "letter", "after"] ["reader"] (defScope s_ways_of) := ⟨rfl, rfl, rfl, by decide +kernel, rfl, by decide +kernel, by decide +kernel⟩
abbrev s_least_text : Stmt := top 19
theorem db_least_text : dbOk ["reader", "ways", "row"] = true := by kernel_rfl
theorem vl_least_text : visL (defScope s_least_text) ["reader", "ways", "row"] = true := by kernel_rfl
def least_text_s_0 : Stmt := pL (defBody s_least_text) 0
def least_text_s_1a_0a_0 : Stmt := pL (pA (pL (pA (pL (defBody s_least_text) 1)) 0)) 0
def least_text_q_1a_0a_1 : List Stmt := []
def least_text_q_1a_0a_0 : List Stmt := least_text_s_1a_0a_0 :: least_text_q_1a_0a_1
def least_text_q_1a_0b_0 : List Stmt := []
def least_text_c_1a_0 : Expr := pC (pL (pA (pL (defBody s_least_text) 1)) 0)
def least_text_s_1a_0 : Stmt := .If least_text_c_1a_0 least_text_q_1a_0a_0 least_text_q_1a_0b_0 (pP (pL (pA (pL (defBody s_least_text) 1)) 0))
def least_text_q_1a_1 : List Stmt := []
def least_text_q_1a_0 : List Stmt := least_text_s_1a_0 :: least_text_q_1a_1
def least_text_t_1 : Expr := pT (pL (defBody s_least_text) 1)
def least_text_i_1 : Expr := pI (pL (defBody s_least_text) 1)
def least_text_s_1 : Stmt := .For least_text_t_1 least_text_i_1 least_text_q_1a_0 [] (pP (pL (defBody s_least_text) 1))
def least_text_s_2 : Stmt := pL (defBody s_least_text) 2
def least_text_q_3 : List Stmt := []
def least_text_q_2 : List Stmt := least_text_s_2 :: least_text_q_3
def least_text_q_1 : List Stmt := least_text_s_1 :: least_text_q_2
def least_text_q_0 : List Stmt := least_text_s_0 :: least_text_q_1
theorem hb_least_text : defBody s_least_text = least_text_q_0 := by kernel_rfl
theorem sc_least_text : FnScope ["reader", "ways", "row"] ["reader"] (defScope s_least_text) := ⟨rfl, rfl, rfl, by decide +kernel, rfl, by decide +kernel, by decide +kernel⟩
abbrev s_is_end : Stmt := top 20
theorem db_is_end : dbOk ["reader", "row"] = true := by kernel_rfl
theorem vl_is_end : visL (defScope s_is_end) ["reader", "row"] = true := by kernel_rfl
def is_end_s_0 : Stmt := pL (defBody s_is_end) 0
def is_end_q_1 : List Stmt := []
def is_end_q_0 : List Stmt := is_end_s_0 :: is_end_q_1
theorem hb_is_end : defBody s_is_end = is_end_q_0 := by kernel_rfl
theorem sc_is_end : FnScope ["reader", "row"] ["reader", "row"] (defScope s_is_end) := ⟨rfl, rfl, rfl, by decide +kernel, rfl, by decide +kernel, by decide +kernel⟩
abbrev s_is_wished : Stmt := top 21
theorem db_is_wished : dbOk ["word", "one", "other"] = true := by kernel_rfl
theorem vl_is_wished : visL (defScope s_is_wished) ["word", "one", "other"] = true := by kernel_rfl
def is_wished_s_0a_0 : Stmt := pL (pA (pL (defBody s_is_wished) 0)) 0
def is_wished_q_0a_1 : List Stmt := []
def is_wished_q_0a_0 : List Stmt := is_wished_s_0a_0 :: is_wished_q_0a_1
def is_wished_q_0b_0 : List Stmt := []
def is_wished_c_0 : Expr := pC (pL (defBody s_is_wished) 0)
def is_wished_s_0 : Stmt := .If is_wished_c_0 is_wished_q_0a_0 is_wished_q_0b_0 (pP (pL (defBody s_is_wished) 0))
def is_wished_s_1 : Stmt := pL (defBody s_is_wished) 1
def is_wished_q_2 : List Stmt := []
def is_wished_q_1 : List Stmt := is_wished_s_1 :: is_wished_q_2
def is_wished_q_0 : List Stmt := is_wished_s_0 :: is_wished_q_1
theorem hb_is_wished : defBody s_is_wished = is_wished_q_0 := by kernel_rfl
theorem sc_is_wished : FnScope ["word", "one", "other"] ["word", "one", "other"] (defScope s_is_wished) := ⟨rfl, rfl, rfl, by decide +kernel, rfl, by decide +kernel, by decide +kernel⟩
abbrev s_woven : Stmt := top 22
theorem db_woven : dbOk ["one", "other", "word", "pairs", "numbers", "rows", "at", "here", "there", "row", "letter", "pair", "ends", "number"] = true := by kernel_rfl
theorem vl_woven : visL (defScope s_woven) ["one", "other", "word", "pairs", "numbers", "rows", "at", "here", "there", "row", "letter", "pair", "ends", "number"] = true := by kernel_rfl
def woven_s_0 : Stmt := pL (defBody s_woven) 0
def woven_s_1 : Stmt := pL (defBody s_woven) 1
def woven_s_2 : Stmt := pL (defBody s_woven) 2
def woven_s_3 : Stmt := pL (defBody s_woven) 3
def woven_s_4a_0 : Stmt := pL (pA (pL (defBody s_woven) 4)) 0
def woven_s_4a_1 : Stmt := pL (pA (pL (defBody s_woven) 4)) 1
def woven_s_4a_2 : Stmt := pL (pA (pL (defBody s_woven) 4)) 2
def woven_s_4a_3a_0 : Stmt := pL (pA (pL (pA (pL (defBody s_woven) 4)) 3)) 0
def woven_s_4a_3a_1a_0a_0 : Stmt := pL (pA (pL (pA (pL (pA (pL (pA (pL (defBody s_woven) 4)) 3)) 1)) 0)) 0
def woven_s_4a_3a_1a_0a_1 : Stmt := pL (pA (pL (pA (pL (pA (pL (pA (pL (defBody s_woven) 4)) 3)) 1)) 0)) 1
def woven_q_4a_3a_1a_0a_2 : List Stmt := []
def woven_q_4a_3a_1a_0a_1 : List Stmt := woven_s_4a_3a_1a_0a_1 :: woven_q_4a_3a_1a_0a_2
def woven_q_4a_3a_1a_0a_0 : List Stmt := woven_s_4a_3a_1a_0a_0 :: woven_q_4a_3a_1a_0a_1
def woven_q_4a_3a_1a_0b_0 : List Stmt := []
def woven_c_4a_3a_1a_0 : Expr := pC (pL (pA (pL (pA (pL (pA (pL (defBody s_woven) 4)) 3)) 1)) 0)
def woven_s_4a_3a_1a_0 : Stmt := .If woven_c_4a_3a_1a_0 woven_q_4a_3a_1a_0a_0 woven_q_4a_3a_1a_0b_0 (pP (pL (pA (pL (pA (pL (pA (pL (defBody s_woven) 4)) 3)) 1)) 0))
def woven_s_4a_3a_1a_1 : Stmt := pL (pA (pL (pA (pL (pA (pL (defBody s_woven) 4)) 3)) 1)) 1
def woven_q_4a_3a_1a_2 : List Stmt := []
def woven_q_4a_3a_1a_1 : List Stmt := woven_s_4a_3a_1a_1 :: woven_q_4a_3a_1a_2
def woven_q_4a_3a_1a_0 : List Stmt := woven_s_4a_3a_1a_0 :: woven_q_4a_3a_1a_1
def woven_q_4a_3a_1b_0 : List Stmt := []
def woven_c_4a_3a_1 : Expr := pC (pL (pA (pL (pA (pL (defBody s_woven) 4)) 3)) 1)
def woven_s_4a_3a_1 : Stmt := .If woven_c_4a_3a_1 woven_q_4a_3a_1a_0 woven_q_4a_3a_1b_0 (pP (pL (pA (pL (pA (pL (defBody s_woven) 4)) 3)) 1))
def woven_q_4a_3a_2 : List Stmt := []
def woven_q_4a_3a_1 : List Stmt := woven_s_4a_3a_1 :: woven_q_4a_3a_2
def woven_q_4a_3a_0 : List Stmt := woven_s_4a_3a_0 :: woven_q_4a_3a_1
def woven_t_4a_3 : Expr := pT (pL (pA (pL (defBody s_woven) 4)) 3)
def woven_i_4a_3 : Expr := pI (pL (pA (pL (defBody s_woven) 4)) 3)
def woven_s_4a_3 : Stmt := .For woven_t_4a_3 woven_i_4a_3 woven_q_4a_3a_0 [] (pP (pL (pA (pL (defBody s_woven) 4)) 3))
def woven_s_4a_4 : Stmt := pL (pA (pL (defBody s_woven) 4)) 4
def woven_q_4a_5 : List Stmt := []
def woven_q_4a_4 : List Stmt := woven_s_4a_4 :: woven_q_4a_5
def woven_q_4a_3 : List Stmt := woven_s_4a_3 :: woven_q_4a_4
def woven_q_4a_2 : List Stmt := woven_s_4a_2 :: woven_q_4a_3
def woven_q_4a_1 : List Stmt := woven_s_4a_1 :: woven_q_4a_2
def woven_q_4a_0 : List Stmt := woven_s_4a_0 :: woven_q_4a_1
def woven_c_4 : Expr := pC (pL (defBody s_woven) 4)
def woven_s_4 : Stmt := .While woven_c_4 woven_q_4a_0 [] (pP (pL (defBody s_woven) 4))
def woven_s_5 : Stmt := pL (defBody s_woven) 5
def woven_s_6a_0a_0 : Stmt := pL (pA (pL (pA (pL (defBody s_woven) 6)) 0)) 0
def woven_q_6a_0a_1 : List Stmt := []
def woven_q_6a_0a_0 : List Stmt := woven_s_6a_0a_0 :: woven_q_6a_0a_1
def woven_q_6a_0b_0 : List Stmt := []
def woven_c_6a_0 : Expr := pC (pL (pA (pL (defBody s_woven) 6)) 0)
def woven_s_6a_0 : Stmt := .If woven_c_6a_0 woven_q_6a_0a_0 woven_q_6a_0b_0 (pP (pL (pA (pL (defBody s_woven) 6)) 0))
def woven_q_6a_1 : List Stmt := []
def woven_q_6a_0 : List Stmt := woven_s_6a_0 :: woven_q_6a_1
def woven_t_6 : Expr := pT (pL (defBody s_woven) 6)
def woven_i_6 : Expr := pI (pL (defBody s_woven) 6)
def woven_s_6 : Stmt := .For woven_t_6 woven_i_6 woven_q_6a_0 [] (pP (pL (defBody s_woven) 6))
def woven_s_7 : Stmt := pL (defBody s_woven) 7
def woven_q_8 : List Stmt := []
def woven_q_7 : List Stmt := woven_s_7 :: woven_q_8
def woven_q_6 : List Stmt := woven_s_6 :: woven_q_7
def woven_q_5 : List Stmt := woven_s_5 :: woven_q_6
def woven_q_4 : List Stmt := woven_s_4 :: woven_q_5
def woven_q_3 : List Stmt := woven_s_3 :: woven_q_4
def woven_q_2 : List Stmt := woven_s_2 :: woven_q_3
def woven_q_1 : List Stmt := woven_s_1 :: woven_q_2
def woven_q_0 : List Stmt := woven_s_0 :: woven_q_1
theorem hb_woven : defBody s_woven = woven_q_0 := by kernel_rfl
theorem sc_woven : FnScope ["one", "other", "word", "pairs", "numbers", "rows", "at", "here", "there", "row", "letter", "pair", "ends", "number"] ["one", "other", "word"] (defScope s_woven) := ⟨rfl, rfl, rfl, by decide +kernel, rfl, by decide +kernel, by decide +kernel⟩
abbrev s_write_machine : Stmt := top 25
theorem db_write_machine : dbOk ["machine", "lines", "number", "row", "parts", "end", "letter"] = true := by kernel_rfl
theorem vl_write_machine : visL (defScope s_write_machine) ["machine", "lines", "number", "row", "parts"] = true := by kernel_rfl
def write_machine_s_0 : Stmt := pL (defBody s_write_machine) 0
def write_machine_s_1a_0 : Stmt := pL (pA (pL (defBody s_write_machine) 1)) 0
def write_machine_s_1a_1 : Stmt := pL (pA (pL (defBody s_write_machine) 1)) 1
def write_machine_q_1a_2 : List Stmt := []
def write_machine_q_1a_1 : List Stmt := write_machine_s_1a_1 :: write_machine_q_1a_2
def write_machine_q_1a_0 : List Stmt := write_machine_s_1a_0 :: write_machine_q_1a_1
def write_machine_t_1 : Expr := pT (pL (defBody s_write_machine) 1)
def write_machine_i_1 : Expr := pI (pL (defBody s_write_machine) 1)
def write_machine_s_1 : Stmt := .For write_machine_t_1 write_machine_i_1 write_machine_q_1a_0 [] (pP (pL (defBody s_write_machine) 1))
def write_machine_s_2 : Stmt := pL (defBody s_write_machine) 2
def write_machine_q_3 : List Stmt := []
def write_machine_q_2 : List Stmt := write_machine_s_2 :: write_machine_q_3
def write_machine_q_1 : List Stmt := write_machine_s_1 :: write_machine_q_2
def write_machine_q_0 : List Stmt := write_machine_s_0 :: write_machine_q_1
theorem hb_write_machine : defBody s_write_machine = write_machine_q_0 := by kernel_rfl
theorem sc_write_machine : FnScope ["machine", "lines", "number", "row", "parts", "end", "letter"] ["machine"] (defScope s_write_machine) := ⟨rfl, rfl, rfl, by decide +kernel, rfl, by decide +kernel, by decide +kernel⟩
abbrev s_number_of : Stmt := top 26
theorem db_number_of : dbOk ["word", "sign"] = true := by kernel_rfl
theorem vl_number_of : visL (defScope s_number_of) ["word"] = true := by kernel_rfl
def number_of_s_0a_0 : Stmt := pL (pA (pL (defBody s_number_of) 0)) 0
def number_of_q_0a_1 : List Stmt := []
def number_of_q_0a_0 : List Stmt := number_of_s_0a_0 :: number_of_q_0a_1
def number_of_q_0b_0 : List Stmt := []
def number_of_c_0 : Expr := pC (pL (defBody s_number_of) 0)
def number_of_s_0 : Stmt := .If number_of_c_0 number_of_q_0a_0 number_of_q_0b_0 (pP (pL (defBody s_number_of) 0))
def number_of_s_1 : Stmt := pL (defBody s_number_of) 1
def number_of_q_2 : List Stmt := []
def number_of_q_1 : List Stmt := number_of_s_1 :: number_of_q_2
def number_of_q_0 : List Stmt := number_of_s_0 :: number_of_q_1
theorem hb_number_of : defBody s_number_of = number_of_q_0 := by kernel_rfl
theorem sc_number_of : FnScope ["word", "sign"] ["word"] (defScope s_number_of) := ⟨rfl, rfl, rfl, by decide +kernel, rfl, by decide +kernel, by decide +kernel⟩
abbrev s_rises : Stmt := top 27
theorem db_rises : dbOk ["numbers", "one", "other"] = true := by kernel_rfl
theorem vl_rises : visL (defScope s_rises) ["numbers"] = true := by kernel_rfl
def rises_s_0 : Stmt := pL (defBody s_rises) 0
def rises_q_1 : List Stmt := []
def rises_q_0 : List Stmt := rises_s_0 :: rises_q_1
theorem hb_rises : defBody s_rises = rises_q_0 := by kernel_rfl
theorem sc_rises : FnScope ["numbers", "one", "other"] ["numbers"] (defScope s_rises) := ⟨rfl, rfl, rfl, by decide +kernel, rfl, by decide +kernel, by decide +kernel⟩
abbrev s_ends_in : Stmt := top 28
theorem db_ends_in : dbOk ["line", "many", "words", "ends", "word", "end"] = true := by kernel_rfl
theorem vl_ends_in : visL (defScope s_ends_in) ["line", "many", "words", "ends"] = true := by kernel_rfl
def ends_in_s_0 : Stmt := pL (defBody s_ends_in) 0
def ends_in_s_1 : Stmt := pL (defBody s_ends_in) 1
def ends_in_s_2a_0 : Stmt := pL (pA (pL (defBody s_ends_in) 2)) 0
def ends_in_q_2a_1 : List Stmt := []
def ends_in_q_2a_0 : List Stmt := ends_in_s_2a_0 :: ends_in_q_2a_1
def ends_in_q_2b_0 : List Stmt := []
def ends_in_c_2 : Expr := pC (pL (defBody s_ends_in) 2)
def ends_in_s_2 : Stmt := .If ends_in_c_2 ends_in_q_2a_0 ends_in_q_2b_0 (pP (pL (defBody s_ends_in) 2))
def ends_in_s_3 : Stmt := pL (defBody s_ends_in) 3
def ends_in_q_4 : List Stmt := []
def ends_in_q_3 : List Stmt := ends_in_s_3 :: ends_in_q_4
def ends_in_q_2 : List Stmt := ends_in_s_2 :: ends_in_q_3
def ends_in_q_1 : List Stmt := ends_in_s_1 :: ends_in_q_2
def ends_in_q_0 : List Stmt := ends_in_s_0 :: ends_in_q_1
theorem hb_ends_in : defBody s_ends_in = ends_in_q_0 := by kernel_rfl
theorem sc_ends_in : FnScope ["line", "many", "words", "ends", "word", "end"] ["line", "many"] (defScope s_ends_in) := ⟨rfl, rfl, rfl, by decide +kernel, rfl, by decide +kernel, by decide +kernel⟩
abbrev s_row_in : Stmt := top 29
theorem db_row_in : dbOk ["line", "number", "many", "words", "letters", "targets", "word", "letter", "target"] = true := by kernel_rfl
theorem vl_row_in : visL (defScope s_row_in) ["line", "number", "many", "words", "letters", "targets"] = true := by kernel_rfl
def row_in_s_0 : Stmt := pL (defBody s_row_in) 0
def row_in_s_1 : Stmt := pL (defBody s_row_in) 1
def row_in_s_2a_0 : Stmt := pL (pA (pL (defBody s_row_in) 2)) 0
def row_in_q_2a_1 : List Stmt := []
def row_in_q_2a_0 : List Stmt := row_in_s_2a_0 :: row_in_q_2a_1
def row_in_q_2b_0 : List Stmt := []
def row_in_c_2 : Expr := pC (pL (defBody s_row_in) 2)
def row_in_s_2 : Stmt := .If row_in_c_2 row_in_q_2a_0 row_in_q_2b_0 (pP (pL (defBody s_row_in) 2))
def row_in_s_3a_0 : Stmt := pL (pA (pL (defBody s_row_in) 3)) 0
def row_in_q_3a_1 : List Stmt := []
def row_in_q_3a_0 : List Stmt := row_in_s_3a_0 :: row_in_q_3a_1
def row_in_q_3b_0 : List Stmt := []
def row_in_c_3 : Expr := pC (pL (defBody s_row_in) 3)
def row_in_s_3 : Stmt := .If row_in_c_3 row_in_q_3a_0 row_in_q_3b_0 (pP (pL (defBody s_row_in) 3))
def row_in_s_4a_0 : Stmt := pL (pA (pL (defBody s_row_in) 4)) 0
def row_in_q_4a_1 : List Stmt := []
def row_in_q_4a_0 : List Stmt := row_in_s_4a_0 :: row_in_q_4a_1
def row_in_q_4b_0 : List Stmt := []
def row_in_c_4 : Expr := pC (pL (defBody s_row_in) 4)
def row_in_s_4 : Stmt := .If row_in_c_4 row_in_q_4a_0 row_in_q_4b_0 (pP (pL (defBody s_row_in) 4))
def row_in_s_5 : Stmt := pL (defBody s_row_in) 5
def row_in_q_6 : List Stmt := []
def row_in_q_5 : List Stmt := row_in_s_5 :: row_in_q_6
def row_in_q_4 : List Stmt := row_in_s_4 :: row_in_q_5
def row_in_q_3 : List Stmt := row_in_s_3 :: row_in_q_4
def row_in_q_2 : List Stmt := row_in_s_2 :: row_in_q_3
def row_in_q_1 : List Stmt := row_in_s_1 :: row_in_q_2
def row_in_q_0 : List Stmt := row_in_s_0 :: row_in_q_1
theorem hb_row_in : defBody s_row_in = row_in_q_0 := by kernel_rfl
theorem sc_row_in : FnScope ["line", "number", "many", "words", "letters", "targets", "word", "letter", "target"] ["line", "number", "many"] (defScope s_row_in) := ⟨rfl, rfl, rfl, by decide +kernel, rfl, by decide +kernel, by decide +kernel⟩
abbrev s_read_machine : Stmt := top 30
theorem db_read_machine : dbOk ["text", "lines", "many", "ends", "rows", "number", "line", "row"] = true := by kernel_rfl
theorem vl_read_machine : visL (defScope s_read_machine) ["text", "lines", "many", "ends", "rows", "number", "line", "row"] = true := by kernel_rfl
def read_machine_s_0 : Stmt := pL (defBody s_read_machine) 0
def read_machine_s_1 : Stmt := pL (defBody s_read_machine) 1
def read_machine_s_2 : Stmt := pL (defBody s_read_machine) 2
def read_machine_s_3 : Stmt := pL (defBody s_read_machine) 3
def read_machine_s_4a_0 : Stmt := pL (pA (pL (defBody s_read_machine) 4)) 0
def read_machine_s_4a_1a_0 : Stmt := pL (pA (pL (pA (pL (defBody s_read_machine) 4)) 1)) 0
def read_machine_q_4a_1a_1 : List Stmt := []
def read_machine_q_4a_1a_0 : List Stmt := read_machine_s_4a_1a_0 :: read_machine_q_4a_1a_1
def read_machine_q_4a_1b_0 : List Stmt := []
def read_machine_c_4a_1 : Expr := pC (pL (pA (pL (defBody s_read_machine) 4)) 1)
def read_machine_s_4a_1 : Stmt := .If read_machine_c_4a_1 read_machine_q_4a_1a_0 read_machine_q_4a_1b_0 (pP (pL (pA (pL (defBody s_read_machine) 4)) 1))
def read_machine_s_4a_2 : Stmt := pL (pA (pL (defBody s_read_machine) 4)) 2
def read_machine_q_4a_3 : List Stmt := []
def read_machine_q_4a_2 : List Stmt := read_machine_s_4a_2 :: read_machine_q_4a_3
def read_machine_q_4a_1 : List Stmt := read_machine_s_4a_1 :: read_machine_q_4a_2
def read_machine_q_4a_0 : List Stmt := read_machine_s_4a_0 :: read_machine_q_4a_1
def read_machine_t_4 : Expr := pT (pL (defBody s_read_machine) 4)
def read_machine_i_4 : Expr := pI (pL (defBody s_read_machine) 4)
def read_machine_s_4 : Stmt := .For read_machine_t_4 read_machine_i_4 read_machine_q_4a_0 [] (pP (pL (defBody s_read_machine) 4))
def read_machine_s_5a_0 : Stmt := pL (pA (pL (defBody s_read_machine) 5)) 0
def read_machine_q_5a_1 : List Stmt := []
def read_machine_q_5a_0 : List Stmt := read_machine_s_5a_0 :: read_machine_q_5a_1
def read_machine_q_5b_0 : List Stmt := []
def read_machine_c_5 : Expr := pC (pL (defBody s_read_machine) 5)
def read_machine_s_5 : Stmt := .If read_machine_c_5 read_machine_q_5a_0 read_machine_q_5b_0 (pP (pL (defBody s_read_machine) 5))
def read_machine_s_6 : Stmt := pL (defBody s_read_machine) 6
def read_machine_q_7 : List Stmt := []
def read_machine_q_6 : List Stmt := read_machine_s_6 :: read_machine_q_7
def read_machine_q_5 : List Stmt := read_machine_s_5 :: read_machine_q_6
def read_machine_q_4 : List Stmt := read_machine_s_4 :: read_machine_q_5
def read_machine_q_3 : List Stmt := read_machine_s_3 :: read_machine_q_4
def read_machine_q_2 : List Stmt := read_machine_s_2 :: read_machine_q_3
def read_machine_q_1 : List Stmt := read_machine_s_1 :: read_machine_q_2
def read_machine_q_0 : List Stmt := read_machine_s_0 :: read_machine_q_1
theorem hb_read_machine : defBody s_read_machine = read_machine_q_0 := by kernel_rfl
theorem sc_read_machine : FnScope ["text", "lines", "many", "ends", "rows", "number", "line", "row"] ["text"] (defScope s_read_machine) := ⟨rfl, rfl, rfl, by decide +kernel, rfl, by decide +kernel, by decide +kernel⟩
abbrev s__law_begin : Stmt := top 32
theorem db__law_begin : dbOk ["_law_script"] = true := by kernel_rfl
theorem vl__law_begin : visL (defScope s__law_begin) ["_law_script"] = true := by kernel_rfl
def _law_begin_s_0 : Stmt := pL (defBody s__law_begin) 0
def _law_begin_q_1 : List Stmt := []
def _law_begin_q_0 : List Stmt := _law_begin_s_0 :: _law_begin_q_1
theorem hb__law_begin : defBody s__law_begin = _law_begin_q_0 := by kernel_rfl
theorem sc__law_begin : FnScope ["_law_script"] ["_law_script"] (defScope s__law_begin) := ⟨rfl, rfl, rfl, by decide +kernel, rfl, by decide +kernel, by decide +kernel⟩
abbrev s__law_draw : Stmt := top 33
theorem db__law_draw : dbOk ["_law_draws", "_law_size", "_law_cell", "_law_found"] = true := by kernel_rfl
theorem vl__law_draw : visL (defScope s__law_draw) ["_law_draws", "_law_size", "_law_cell", "_law_found"] = true := by kernel_rfl
def _law_draw_s_0a_0a_0 : Stmt := pL (pA (pL (pA (pL (defBody s__law_draw) 0)) 0)) 0
def _law_draw_s_0a_0a_1 : Stmt := pL (pA (pL (pA (pL (defBody s__law_draw) 0)) 0)) 1
def _law_draw_s_0a_0a_2a_0 : Stmt := pL (pA (pL (pA (pL (pA (pL (defBody s__law_draw) 0)) 0)) 2)) 0
def _law_draw_q_0a_0a_2a_1 : List Stmt := []
def _law_draw_q_0a_0a_2a_0 : List Stmt := _law_draw_s_0a_0a_2a_0 :: _law_draw_q_0a_0a_2a_1
def _law_draw_s_0a_0a_2b_0 : Stmt := pL (pB (pL (pA (pL (pA (pL (defBody s__law_draw) 0)) 0)) 2)) 0
def _law_draw_q_0a_0a_2b_1 : List Stmt := []
def _law_draw_q_0a_0a_2b_0 : List Stmt := _law_draw_s_0a_0a_2b_0 :: _law_draw_q_0a_0a_2b_1
def _law_draw_c_0a_0a_2 : Expr := pC (pL (pA (pL (pA (pL (defBody s__law_draw) 0)) 0)) 2)
def _law_draw_s_0a_0a_2 : Stmt := .If _law_draw_c_0a_0a_2 _law_draw_q_0a_0a_2a_0 _law_draw_q_0a_0a_2b_0 (pP (pL (pA (pL (pA (pL (defBody s__law_draw) 0)) 0)) 2))
def _law_draw_q_0a_0a_3 : List Stmt := []
def _law_draw_q_0a_0a_2 : List Stmt := _law_draw_s_0a_0a_2 :: _law_draw_q_0a_0a_3
def _law_draw_q_0a_0a_1 : List Stmt := _law_draw_s_0a_0a_1 :: _law_draw_q_0a_0a_2
def _law_draw_q_0a_0a_0 : List Stmt := _law_draw_s_0a_0a_0 :: _law_draw_q_0a_0a_1
def _law_draw_s_0a_0b_0 : Stmt := pL (pB (pL (pA (pL (defBody s__law_draw) 0)) 0)) 0
def _law_draw_q_0a_0b_1 : List Stmt := []
def _law_draw_q_0a_0b_0 : List Stmt := _law_draw_s_0a_0b_0 :: _law_draw_q_0a_0b_1
def _law_draw_c_0a_0 : Expr := pC (pL (pA (pL (defBody s__law_draw) 0)) 0)
def _law_draw_s_0a_0 : Stmt := .If _law_draw_c_0a_0 _law_draw_q_0a_0a_0 _law_draw_q_0a_0b_0 (pP (pL (pA (pL (defBody s__law_draw) 0)) 0))
def _law_draw_q_0a_1 : List Stmt := []
def _law_draw_q_0a_0 : List Stmt := _law_draw_s_0a_0 :: _law_draw_q_0a_1
def _law_draw_q_0b_0 : List Stmt := []
def _law_draw_c_0 : Expr := pC (pL (defBody s__law_draw) 0)
def _law_draw_s_0 : Stmt := .If _law_draw_c_0 _law_draw_q_0a_0 _law_draw_q_0b_0 (pP (pL (defBody s__law_draw) 0))
def _law_draw_s_1a_0 : Stmt := pL (pA (pL (defBody s__law_draw) 1)) 0
def _law_draw_s_1a_1 : Stmt := pL (pA (pL (defBody s__law_draw) 1)) 1
def _law_draw_s_1a_2 : Stmt := pL (pA (pL (defBody s__law_draw) 1)) 2
def _law_draw_q_1a_3 : List Stmt := []
def _law_draw_q_1a_2 : List Stmt := _law_draw_s_1a_2 :: _law_draw_q_1a_3
def _law_draw_q_1a_1 : List Stmt := _law_draw_s_1a_1 :: _law_draw_q_1a_2
def _law_draw_q_1a_0 : List Stmt := _law_draw_s_1a_0 :: _law_draw_q_1a_1
def _law_draw_q_1b_0 : List Stmt := []
def _law_draw_c_1 : Expr := pC (pL (defBody s__law_draw) 1)
def _law_draw_s_1 : Stmt := .If _law_draw_c_1 _law_draw_q_1a_0 _law_draw_q_1b_0 (pP (pL (defBody s__law_draw) 1))
def _law_draw_s_2 : Stmt := pL (defBody s__law_draw) 2
def _law_draw_q_3 : List Stmt := []
def _law_draw_q_2 : List Stmt := _law_draw_s_2 :: _law_draw_q_3
def _law_draw_q_1 : List Stmt := _law_draw_s_1 :: _law_draw_q_2
def _law_draw_q_0 : List Stmt := _law_draw_s_0 :: _law_draw_q_1
theorem hb__law_draw : defBody s__law_draw = _law_draw_q_0 := by kernel_rfl
theorem sc__law_draw : FnScope ["_law_draws", "_law_size", "_law_cell", "_law_found"] ["_law_draws", "_law_size"] (defScope s__law_draw) := ⟨rfl, rfl, rfl, by decide +kernel, rfl, by decide +kernel, by decide +kernel⟩
abbrev s__law_machine : Stmt := top 34
theorem db__law_machine : dbOk ["_law_draws", "_law_many", "_law_letters", "_law_rows", "_law_k", "_law_row_here", "_law_letter", "_law_ends"] = true := by kernel_rfl
theorem vl__law_machine : visL (defScope s__law_machine) ["_law_draws", "_law_many", "_law_letters", "_law_rows", "_law_k", "_law_row_here", "_law_letter", "_law_ends"] = true := by kernel_rfl
def _law_machine_s_0 : Stmt := pL (defBody s__law_machine) 0
def _law_machine_s_1a_0 : Stmt := pL (pA (pL (defBody s__law_machine) 1)) 0
def _law_machine_s_1a_1a_0a_0 : Stmt := pL (pA (pL (pA (pL (pA (pL (defBody s__law_machine) 1)) 1)) 0)) 0
def _law_machine_q_1a_1a_0a_1 : List Stmt := []
def _law_machine_q_1a_1a_0a_0 : List Stmt := _law_machine_s_1a_1a_0a_0 :: _law_machine_q_1a_1a_0a_1
def _law_machine_q_1a_1a_0b_0 : List Stmt := []
def _law_machine_c_1a_1a_0 : Expr := pC (pL (pA (pL (pA (pL (defBody s__law_machine) 1)) 1)) 0)
def _law_machine_s_1a_1a_0 : Stmt := .If _law_machine_c_1a_1a_0 _law_machine_q_1a_1a_0a_0 _law_machine_q_1a_1a_0b_0 (pP (pL (pA (pL (pA (pL (defBody s__law_machine) 1)) 1)) 0))
def _law_machine_q_1a_1a_1 : List Stmt := []
def _law_machine_q_1a_1a_0 : List Stmt := _law_machine_s_1a_1a_0 :: _law_machine_q_1a_1a_1
def _law_machine_t_1a_1 : Expr := pT (pL (pA (pL (defBody s__law_machine) 1)) 1)
def _law_machine_i_1a_1 : Expr := pI (pL (pA (pL (defBody s__law_machine) 1)) 1)
def _law_machine_s_1a_1 : Stmt := .For _law_machine_t_1a_1 _law_machine_i_1a_1 _law_machine_q_1a_1a_0 [] (pP (pL (pA (pL (defBody s__law_machine) 1)) 1))
def _law_machine_s_1a_2 : Stmt := pL (pA (pL (defBody s__law_machine) 1)) 2
def _law_machine_q_1a_3 : List Stmt := []
def _law_machine_q_1a_2 : List Stmt := _law_machine_s_1a_2 :: _law_machine_q_1a_3
def _law_machine_q_1a_1 : List Stmt := _law_machine_s_1a_1 :: _law_machine_q_1a_2
def _law_machine_q_1a_0 : List Stmt := _law_machine_s_1a_0 :: _law_machine_q_1a_1
def _law_machine_t_1 : Expr := pT (pL (defBody s__law_machine) 1)
def _law_machine_i_1 : Expr := pI (pL (defBody s__law_machine) 1)
def _law_machine_s_1 : Stmt := .For _law_machine_t_1 _law_machine_i_1 _law_machine_q_1a_0 [] (pP (pL (defBody s__law_machine) 1))
def _law_machine_s_2 : Stmt := pL (defBody s__law_machine) 2
def _law_machine_s_3a_0 : Stmt := pL (pA (pL (defBody s__law_machine) 3)) 0
def _law_machine_q_3a_1 : List Stmt := []
def _law_machine_q_3a_0 : List Stmt := _law_machine_s_3a_0 :: _law_machine_q_3a_1
def _law_machine_q_3b_0 : List Stmt := []
def _law_machine_c_3 : Expr := pC (pL (defBody s__law_machine) 3)
def _law_machine_s_3 : Stmt := .If _law_machine_c_3 _law_machine_q_3a_0 _law_machine_q_3b_0 (pP (pL (defBody s__law_machine) 3))
def _law_machine_s_4 : Stmt := pL (defBody s__law_machine) 4
def _law_machine_q_5 : List Stmt := []
def _law_machine_q_4 : List Stmt := _law_machine_s_4 :: _law_machine_q_5
def _law_machine_q_3 : List Stmt := _law_machine_s_3 :: _law_machine_q_4
def _law_machine_q_2 : List Stmt := _law_machine_s_2 :: _law_machine_q_3
def _law_machine_q_1 : List Stmt := _law_machine_s_1 :: _law_machine_q_2
def _law_machine_q_0 : List Stmt := _law_machine_s_0 :: _law_machine_q_1
theorem hb__law_machine : defBody s__law_machine = _law_machine_q_0 := by kernel_rfl
theorem sc__law_machine : FnScope ["_law_draws", "_law_many", "_law_letters", "_law_rows", "_law_k", "_law_row_here", "_law_letter", "_law_ends"] ["_law_draws", "_law_many", "_law_letters"] (defScope s__law_machine) := ⟨rfl, rfl, rfl, by decide +kernel, rfl, by decide +kernel, by decide +kernel⟩
abbrev s__law_after : Stmt := top 35
theorem db__law_after : dbOk ["_law_machine_here", "_law_row_here", "_law_letter"] = true := by kernel_rfl
theorem vl__law_after : visL (defScope s__law_after) ["_law_machine_here", "_law_row_here", "_law_letter"] = true := by kernel_rfl
def _law_after_s_0a_0 : Stmt := pL (pA (pL (defBody s__law_after) 0)) 0
def _law_after_q_0a_1 : List Stmt := []
def _law_after_q_0a_0 : List Stmt := _law_after_s_0a_0 :: _law_after_q_0a_1
def _law_after_q_0b_0 : List Stmt := []
def _law_after_c_0 : Expr := pC (pL (defBody s__law_after) 0)
def _law_after_s_0 : Stmt := .If _law_after_c_0 _law_after_q_0a_0 _law_after_q_0b_0 (pP (pL (defBody s__law_after) 0))
def _law_after_s_1 : Stmt := pL (defBody s__law_after) 1
def _law_after_q_2 : List Stmt := []
def _law_after_q_1 : List Stmt := _law_after_s_1 :: _law_after_q_2
def _law_after_q_0 : List Stmt := _law_after_s_0 :: _law_after_q_1
theorem hb__law_after : defBody s__law_after = _law_after_q_0 := by kernel_rfl
theorem sc__law_after : FnScope ["_law_machine_here", "_law_row_here", "_law_letter"] ["_law_machine_here", "_law_row_here", "_law_letter"] (defScope s__law_after) := ⟨rfl, rfl, rfl, by decide +kernel, rfl, by decide +kernel, by decide +kernel⟩
abbrev s__law_row : Stmt := top 36
theorem db__law_row : dbOk ["_law_machine_here", "_law_text", "_law_row_here", "_law_letter"] = true := by kernel_rfl
theorem vl__law_row : visL (defScope s__law_row) ["_law_machine_here", "_law_text", "_law_row_here", "_law_letter"] = true := by kernel_rfl
def _law_row_s_0 : Stmt := pL (defBody s__law_row) 0
def _law_row_s_1a_0 : Stmt := pL (pA (pL (defBody s__law_row) 1)) 0
def _law_row_q_1a_1 : List Stmt := []
def _law_row_q_1a_0 : List Stmt := _law_row_s_1a_0 :: _law_row_q_1a_1
def _law_row_t_1 : Expr := pT (pL (defBody s__law_row) 1)
def _law_row_i_1 : Expr := pI (pL (defBody s__law_row) 1)
def _law_row_s_1 : Stmt := .For _law_row_t_1 _law_row_i_1 _law_row_q_1a_0 [] (pP (pL (defBody s__law_row) 1))
def _law_row_s_2 : Stmt := pL (defBody s__law_row) 2
def _law_row_q_3 : List Stmt := []
def _law_row_q_2 : List Stmt := _law_row_s_2 :: _law_row_q_3
def _law_row_q_1 : List Stmt := _law_row_s_1 :: _law_row_q_2
def _law_row_q_0 : List Stmt := _law_row_s_0 :: _law_row_q_1
theorem hb__law_row : defBody s__law_row = _law_row_q_0 := by kernel_rfl
theorem sc__law_row : FnScope ["_law_machine_here", "_law_text", "_law_row_here", "_law_letter"] ["_law_machine_here", "_law_text"] (defScope s__law_row) := ⟨rfl, rfl, rfl, by decide +kernel, rfl, by decide +kernel, by decide +kernel⟩
abbrev s__law_has : Stmt := top 37
theorem db__law_has : dbOk ["_law_machine_here", "_law_text", "_law_row_here"] = true := by kernel_rfl
theorem vl__law_has : visL (defScope s__law_has) ["_law_machine_here", "_law_text", "_law_row_here"] = true := by kernel_rfl
def _law_has_s_0 : Stmt := pL (defBody s__law_has) 0
def _law_has_s_1 : Stmt := pL (defBody s__law_has) 1
def _law_has_q_2 : List Stmt := []
def _law_has_q_1 : List Stmt := _law_has_s_1 :: _law_has_q_2
def _law_has_q_0 : List Stmt := _law_has_s_0 :: _law_has_q_1
theorem hb__law_has : defBody s__law_has = _law_has_q_0 := by kernel_rfl
theorem sc__law_has : FnScope ["_law_machine_here", "_law_text", "_law_row_here"] ["_law_machine_here", "_law_text"] (defScope s__law_has) := ⟨rfl, rfl, rfl, by decide +kernel, rfl, by decide +kernel, by decide +kernel⟩
abbrev s__law_texts : Stmt := top 38
theorem db__law_texts : dbOk ["_law_letters", "_law_size", "_law_found", "_law_layer", "_law_k", "_law_longer", "_law_text", "_law_letter"] = true := by kernel_rfl
theorem vl__law_texts : visL (defScope s__law_texts) ["_law_letters", "_law_size", "_law_found", "_law_layer", "_law_k", "_law_longer", "_law_text"] = true := by kernel_rfl
def _law_texts_s_0 : Stmt := pL (defBody s__law_texts) 0
def _law_texts_s_1 : Stmt := pL (defBody s__law_texts) 1
def _law_texts_s_2a_0 : Stmt := pL (pA (pL (defBody s__law_texts) 2)) 0
def _law_texts_s_2a_1a_0 : Stmt := pL (pA (pL (pA (pL (defBody s__law_texts) 2)) 1)) 0
def _law_texts_q_2a_1a_1 : List Stmt := []
def _law_texts_q_2a_1a_0 : List Stmt := _law_texts_s_2a_1a_0 :: _law_texts_q_2a_1a_1
def _law_texts_t_2a_1 : Expr := pT (pL (pA (pL (defBody s__law_texts) 2)) 1)
def _law_texts_i_2a_1 : Expr := pI (pL (pA (pL (defBody s__law_texts) 2)) 1)
def _law_texts_s_2a_1 : Stmt := .For _law_texts_t_2a_1 _law_texts_i_2a_1 _law_texts_q_2a_1a_0 [] (pP (pL (pA (pL (defBody s__law_texts) 2)) 1))
def _law_texts_s_2a_2 : Stmt := pL (pA (pL (defBody s__law_texts) 2)) 2
def _law_texts_s_2a_3 : Stmt := pL (pA (pL (defBody s__law_texts) 2)) 3
def _law_texts_q_2a_4 : List Stmt := []
def _law_texts_q_2a_3 : List Stmt := _law_texts_s_2a_3 :: _law_texts_q_2a_4
def _law_texts_q_2a_2 : List Stmt := _law_texts_s_2a_2 :: _law_texts_q_2a_3
def _law_texts_q_2a_1 : List Stmt := _law_texts_s_2a_1 :: _law_texts_q_2a_2
def _law_texts_q_2a_0 : List Stmt := _law_texts_s_2a_0 :: _law_texts_q_2a_1
def _law_texts_t_2 : Expr := pT (pL (defBody s__law_texts) 2)
def _law_texts_i_2 : Expr := pI (pL (defBody s__law_texts) 2)
def _law_texts_s_2 : Stmt := .For _law_texts_t_2 _law_texts_i_2 _law_texts_q_2a_0 [] (pP (pL (defBody s__law_texts) 2))
def _law_texts_s_3 : Stmt := pL (defBody s__law_texts) 3
def _law_texts_q_4 : List Stmt := []
def _law_texts_q_3 : List Stmt := _law_texts_s_3 :: _law_texts_q_4
def _law_texts_q_2 : List Stmt := _law_texts_s_2 :: _law_texts_q_3
def _law_texts_q_1 : List Stmt := _law_texts_s_1 :: _law_texts_q_2
def _law_texts_q_0 : List Stmt := _law_texts_s_0 :: _law_texts_q_1
theorem hb__law_texts : defBody s__law_texts = _law_texts_q_0 := by kernel_rfl
theorem sc__law_texts : FnScope ["_law_letters", "_law_size", "_law_found", "_law_layer", "_law_k", "_law_longer", "_law_text", "_law_letter"] ["_law_letters", "_law_size"] (defScope s__law_texts) := ⟨rfl, rfl, rfl, by decide +kernel, rfl, by decide +kernel, by decide +kernel⟩
abbrev s__law_needed : Stmt := top 39
theorem db__law_needed : dbOk ["_law_machine_here", "_law_reached", "_law_at", "_law_letter", "_law_again", "_law_good", "_law_row_here", "_law_to", "_law_ways"] = true := by kernel_rfl
theorem vl__law_needed : visL (defScope s__law_needed) ["_law_machine_here", "_law_reached", "_law_at", "_law_letter", "_law_again", "_law_good", "_law_row_here", "_law_to", "_law_ways"] = true := by kernel_rfl
def _law_needed_s_0 : Stmt := pL (defBody s__law_needed) 0
def _law_needed_s_1 : Stmt := pL (defBody s__law_needed) 1
def _law_needed_s_2a_0a_0a_0 : Stmt := pL (pA (pL (pA (pL (pA (pL (defBody s__law_needed) 2)) 0)) 0)) 0
def _law_needed_q_2a_0a_0a_1 : List Stmt := []
def _law_needed_q_2a_0a_0a_0 : List Stmt := _law_needed_s_2a_0a_0a_0 :: _law_needed_q_2a_0a_0a_1
def _law_needed_q_2a_0a_0b_0 : List Stmt := []
def _law_needed_c_2a_0a_0 : Expr := pC (pL (pA (pL (pA (pL (defBody s__law_needed) 2)) 0)) 0)
def _law_needed_s_2a_0a_0 : Stmt := .If _law_needed_c_2a_0a_0 _law_needed_q_2a_0a_0a_0 _law_needed_q_2a_0a_0b_0 (pP (pL (pA (pL (pA (pL (defBody s__law_needed) 2)) 0)) 0))
def _law_needed_q_2a_0a_1 : List Stmt := []
def _law_needed_q_2a_0a_0 : List Stmt := _law_needed_s_2a_0a_0 :: _law_needed_q_2a_0a_1
def _law_needed_t_2a_0 : Expr := pT (pL (pA (pL (defBody s__law_needed) 2)) 0)
def _law_needed_i_2a_0 : Expr := pI (pL (pA (pL (defBody s__law_needed) 2)) 0)
def _law_needed_s_2a_0 : Stmt := .For _law_needed_t_2a_0 _law_needed_i_2a_0 _law_needed_q_2a_0a_0 [] (pP (pL (pA (pL (defBody s__law_needed) 2)) 0))
def _law_needed_s_2a_1 : Stmt := pL (pA (pL (defBody s__law_needed) 2)) 1
def _law_needed_q_2a_2 : List Stmt := []
def _law_needed_q_2a_1 : List Stmt := _law_needed_s_2a_1 :: _law_needed_q_2a_2
def _law_needed_q_2a_0 : List Stmt := _law_needed_s_2a_0 :: _law_needed_q_2a_1
def _law_needed_c_2 : Expr := pC (pL (defBody s__law_needed) 2)
def _law_needed_s_2 : Stmt := .While _law_needed_c_2 _law_needed_q_2a_0 [] (pP (pL (defBody s__law_needed) 2))
def _law_needed_s_3 : Stmt := pL (defBody s__law_needed) 3
def _law_needed_s_4 : Stmt := pL (defBody s__law_needed) 4
def _law_needed_s_5a_0 : Stmt := pL (pA (pL (defBody s__law_needed) 5)) 0
def _law_needed_s_5a_1a_0 : Stmt := pL (pA (pL (pA (pL (defBody s__law_needed) 5)) 1)) 0
def _law_needed_s_5a_1a_1 : Stmt := pL (pA (pL (pA (pL (defBody s__law_needed) 5)) 1)) 1
def _law_needed_s_5a_1a_2a_0 : Stmt := pL (pA (pL (pA (pL (pA (pL (defBody s__law_needed) 5)) 1)) 2)) 0
def _law_needed_s_5a_1a_2a_1 : Stmt := pL (pA (pL (pA (pL (pA (pL (defBody s__law_needed) 5)) 1)) 2)) 1
def _law_needed_q_5a_1a_2a_2 : List Stmt := []
def _law_needed_q_5a_1a_2a_1 : List Stmt := _law_needed_s_5a_1a_2a_1 :: _law_needed_q_5a_1a_2a_2
def _law_needed_q_5a_1a_2a_0 : List Stmt := _law_needed_s_5a_1a_2a_0 :: _law_needed_q_5a_1a_2a_1
def _law_needed_q_5a_1a_2b_0 : List Stmt := []
def _law_needed_c_5a_1a_2 : Expr := pC (pL (pA (pL (pA (pL (defBody s__law_needed) 5)) 1)) 2)
def _law_needed_s_5a_1a_2 : Stmt := .If _law_needed_c_5a_1a_2 _law_needed_q_5a_1a_2a_0 _law_needed_q_5a_1a_2b_0 (pP (pL (pA (pL (pA (pL (defBody s__law_needed) 5)) 1)) 2))
def _law_needed_q_5a_1a_3 : List Stmt := []
def _law_needed_q_5a_1a_2 : List Stmt := _law_needed_s_5a_1a_2 :: _law_needed_q_5a_1a_3
def _law_needed_q_5a_1a_1 : List Stmt := _law_needed_s_5a_1a_1 :: _law_needed_q_5a_1a_2
def _law_needed_q_5a_1a_0 : List Stmt := _law_needed_s_5a_1a_0 :: _law_needed_q_5a_1a_1
def _law_needed_t_5a_1 : Expr := pT (pL (pA (pL (defBody s__law_needed) 5)) 1)
def _law_needed_i_5a_1 : Expr := pI (pL (pA (pL (defBody s__law_needed) 5)) 1)
def _law_needed_s_5a_1 : Stmt := .For _law_needed_t_5a_1 _law_needed_i_5a_1 _law_needed_q_5a_1a_0 [] (pP (pL (pA (pL (defBody s__law_needed) 5)) 1))
def _law_needed_q_5a_2 : List Stmt := []
def _law_needed_q_5a_1 : List Stmt := _law_needed_s_5a_1 :: _law_needed_q_5a_2
def _law_needed_q_5a_0 : List Stmt := _law_needed_s_5a_0 :: _law_needed_q_5a_1
def _law_needed_c_5 : Expr := pC (pL (defBody s__law_needed) 5)
def _law_needed_s_5 : Stmt := .While _law_needed_c_5 _law_needed_q_5a_0 [] (pP (pL (defBody s__law_needed) 5))
def _law_needed_s_6 : Stmt := pL (defBody s__law_needed) 6
def _law_needed_q_7 : List Stmt := []
def _law_needed_q_6 : List Stmt := _law_needed_s_6 :: _law_needed_q_7
def _law_needed_q_5 : List Stmt := _law_needed_s_5 :: _law_needed_q_6
def _law_needed_q_4 : List Stmt := _law_needed_s_4 :: _law_needed_q_5
def _law_needed_q_3 : List Stmt := _law_needed_s_3 :: _law_needed_q_4
def _law_needed_q_2 : List Stmt := _law_needed_s_2 :: _law_needed_q_3
def _law_needed_q_1 : List Stmt := _law_needed_s_1 :: _law_needed_q_2
def _law_needed_q_0 : List Stmt := _law_needed_s_0 :: _law_needed_q_1
theorem hb__law_needed : defBody s__law_needed = _law_needed_q_0 := by kernel_rfl
theorem sc__law_needed : FnScope ["_law_machine_here", "_law_reached", "_law_at", "_law_letter", "_law_again", "_law_good", "_law_row_here", "_law_to", "_law_ways"] ["_law_machine_here"] (defScope s__law_needed) := ⟨rfl, rfl, rfl, by decide +kernel, rfl, by decide +kernel, by decide +kernel⟩
abbrev s__law_make : Stmt := top 40
theorem db__law_make : dbOk ["_law_machine_here"] = true := by kernel_rfl
theorem vl__law_make : visL (defScope s__law_make) ["_law_machine_here"] = true := by kernel_rfl
def _law_make_s_0 : Stmt := pL (defBody s__law_make) 0
def _law_make_q_1 : List Stmt := []
def _law_make_q_0 : List Stmt := _law_make_s_0 :: _law_make_q_1
theorem hb__law_make : defBody s__law_make = _law_make_q_0 := by kernel_rfl
theorem sc__law_make : FnScope ["_law_machine_here"] ["_law_machine_here"] (defScope s__law_make) := ⟨rfl, rfl, rfl, by decide +kernel, rfl, by decide +kernel, by decide +kernel⟩
abbrev s__law_two : Stmt := top 41
theorem db__law_two : dbOk ["_law_draws", "_law_letters", "_law_one", "_law_two_here", "_law_rows", "_law_size"] = true := by kernel_rfl
theorem vl__law_two : visL (defScope s__law_two) ["_law_draws", "_law_letters", "_law_one", "_law_two_here", "_law_rows", "_law_size"] = true := by kernel_rfl
def _law_two_s_0 : Stmt := pL (defBody s__law_two) 0
def _law_two_s_1 : Stmt := pL (defBody s__law_two) 1
def _law_two_s_2 : Stmt := pL (defBody s__law_two) 2
def _law_two_s_3a_0 : Stmt := pL (pA (pL (defBody s__law_two) 3)) 0
def _law_two_s_3a_1 : Stmt := pL (pA (pL (defBody s__law_two) 3)) 1
def _law_two_s_3a_2 : Stmt := pL (pA (pL (defBody s__law_two) 3)) 2
def _law_two_q_3a_3 : List Stmt := []
def _law_two_q_3a_2 : List Stmt := _law_two_s_3a_2 :: _law_two_q_3a_3
def _law_two_q_3a_1 : List Stmt := _law_two_s_3a_1 :: _law_two_q_3a_2
def _law_two_q_3a_0 : List Stmt := _law_two_s_3a_0 :: _law_two_q_3a_1
def _law_two_q_3b_0 : List Stmt := []
def _law_two_c_3 : Expr := pC (pL (defBody s__law_two) 3)
def _law_two_s_3 : Stmt := .If _law_two_c_3 _law_two_q_3a_0 _law_two_q_3b_0 (pP (pL (defBody s__law_two) 3))
def _law_two_s_4a_0 : Stmt := pL (pA (pL (defBody s__law_two) 4)) 0
def _law_two_q_4a_1 : List Stmt := []
def _law_two_q_4a_0 : List Stmt := _law_two_s_4a_0 :: _law_two_q_4a_1
def _law_two_q_4b_0 : List Stmt := []
def _law_two_c_4 : Expr := pC (pL (defBody s__law_two) 4)
def _law_two_s_4 : Stmt := .If _law_two_c_4 _law_two_q_4a_0 _law_two_q_4b_0 (pP (pL (defBody s__law_two) 4))
def _law_two_s_5 : Stmt := pL (defBody s__law_two) 5
def _law_two_q_6 : List Stmt := []
def _law_two_q_5 : List Stmt := _law_two_s_5 :: _law_two_q_6
def _law_two_q_4 : List Stmt := _law_two_s_4 :: _law_two_q_5
def _law_two_q_3 : List Stmt := _law_two_s_3 :: _law_two_q_4
def _law_two_q_2 : List Stmt := _law_two_s_2 :: _law_two_q_3
def _law_two_q_1 : List Stmt := _law_two_s_1 :: _law_two_q_2
def _law_two_q_0 : List Stmt := _law_two_s_0 :: _law_two_q_1
theorem hb__law_two : defBody s__law_two = _law_two_q_0 := by kernel_rfl
theorem sc__law_two : FnScope ["_law_draws", "_law_letters", "_law_one", "_law_two_here", "_law_rows", "_law_size"] ["_law_draws"] (defScope s__law_two) := ⟨rfl, rfl, rfl, by decide +kernel, rfl, by decide +kernel, by decide +kernel⟩
abbrev s__law_like : Stmt := top 42
theorem db__law_like : dbOk ["_law_actual", "_law_due", "_law_k", "_law_key"] = true := by kernel_rfl
theorem vl__law_like : visL (defScope s__law_like) ["_law_actual", "_law_due", "_law_k"] = true := by kernel_rfl
def _law_like_s_0a_0a_0 : Stmt := pL (pA (pL (pA (pL (defBody s__law_like) 0)) 0)) 0
def _law_like_q_0a_0a_1 : List Stmt := []
def _law_like_q_0a_0a_0 : List Stmt := _law_like_s_0a_0a_0 :: _law_like_q_0a_0a_1
def _law_like_q_0a_0b_0 : List Stmt := []
def _law_like_c_0a_0 : Expr := pC (pL (pA (pL (defBody s__law_like) 0)) 0)
def _law_like_s_0a_0 : Stmt := .If _law_like_c_0a_0 _law_like_q_0a_0a_0 _law_like_q_0a_0b_0 (pP (pL (pA (pL (defBody s__law_like) 0)) 0))
def _law_like_s_0a_1 : Stmt := pL (pA (pL (defBody s__law_like) 0)) 1
def _law_like_q_0a_2 : List Stmt := []
def _law_like_q_0a_1 : List Stmt := _law_like_s_0a_1 :: _law_like_q_0a_2
def _law_like_q_0a_0 : List Stmt := _law_like_s_0a_0 :: _law_like_q_0a_1
def _law_like_q_0b_0 : List Stmt := []
def _law_like_c_0 : Expr := pC (pL (defBody s__law_like) 0)
def _law_like_s_0 : Stmt := .If _law_like_c_0 _law_like_q_0a_0 _law_like_q_0b_0 (pP (pL (defBody s__law_like) 0))
def _law_like_s_1a_0 : Stmt := pL (pA (pL (defBody s__law_like) 1)) 0
def _law_like_q_1a_1 : List Stmt := []
def _law_like_q_1a_0 : List Stmt := _law_like_s_1a_0 :: _law_like_q_1a_1
def _law_like_q_1b_0 : List Stmt := []
def _law_like_c_1 : Expr := pC (pL (defBody s__law_like) 1)
def _law_like_s_1 : Stmt := .If _law_like_c_1 _law_like_q_1a_0 _law_like_q_1b_0 (pP (pL (defBody s__law_like) 1))
def _law_like_s_2a_0 : Stmt := pL (pA (pL (defBody s__law_like) 2)) 0
def _law_like_q_2a_1 : List Stmt := []
def _law_like_q_2a_0 : List Stmt := _law_like_s_2a_0 :: _law_like_q_2a_1
def _law_like_q_2b_0 : List Stmt := []
def _law_like_c_2 : Expr := pC (pL (defBody s__law_like) 2)
def _law_like_s_2 : Stmt := .If _law_like_c_2 _law_like_q_2a_0 _law_like_q_2b_0 (pP (pL (defBody s__law_like) 2))
def _law_like_s_3a_0 : Stmt := pL (pA (pL (defBody s__law_like) 3)) 0
def _law_like_q_3a_1 : List Stmt := []
def _law_like_q_3a_0 : List Stmt := _law_like_s_3a_0 :: _law_like_q_3a_1
def _law_like_q_3b_0 : List Stmt := []
def _law_like_c_3 : Expr := pC (pL (defBody s__law_like) 3)
def _law_like_s_3 : Stmt := .If _law_like_c_3 _law_like_q_3a_0 _law_like_q_3b_0 (pP (pL (defBody s__law_like) 3))
def _law_like_s_4a_0 : Stmt := pL (pA (pL (defBody s__law_like) 4)) 0
def _law_like_q_4a_1 : List Stmt := []
def _law_like_q_4a_0 : List Stmt := _law_like_s_4a_0 :: _law_like_q_4a_1
def _law_like_q_4b_0 : List Stmt := []
def _law_like_c_4 : Expr := pC (pL (defBody s__law_like) 4)
def _law_like_s_4 : Stmt := .If _law_like_c_4 _law_like_q_4a_0 _law_like_q_4b_0 (pP (pL (defBody s__law_like) 4))
def _law_like_s_5a_0a_0 : Stmt := pL (pA (pL (pA (pL (defBody s__law_like) 5)) 0)) 0
def _law_like_q_5a_0a_1 : List Stmt := []
def _law_like_q_5a_0a_0 : List Stmt := _law_like_s_5a_0a_0 :: _law_like_q_5a_0a_1
def _law_like_q_5a_0b_0 : List Stmt := []
def _law_like_c_5a_0 : Expr := pC (pL (pA (pL (defBody s__law_like) 5)) 0)
def _law_like_s_5a_0 : Stmt := .If _law_like_c_5a_0 _law_like_q_5a_0a_0 _law_like_q_5a_0b_0 (pP (pL (pA (pL (defBody s__law_like) 5)) 0))
def _law_like_q_5a_1 : List Stmt := []
def _law_like_q_5a_0 : List Stmt := _law_like_s_5a_0 :: _law_like_q_5a_1
def _law_like_s_5b_0a_0 : Stmt := pL (pA (pL (pB (pL (defBody s__law_like) 5)) 0)) 0
def _law_like_q_5b_0a_1 : List Stmt := []
def _law_like_q_5b_0a_0 : List Stmt := _law_like_s_5b_0a_0 :: _law_like_q_5b_0a_1
def _law_like_q_5b_0b_0 : List Stmt := []
def _law_like_c_5b_0 : Expr := pC (pL (pB (pL (defBody s__law_like) 5)) 0)
def _law_like_s_5b_0 : Stmt := .If _law_like_c_5b_0 _law_like_q_5b_0a_0 _law_like_q_5b_0b_0 (pP (pL (pB (pL (defBody s__law_like) 5)) 0))
def _law_like_q_5b_1 : List Stmt := []
def _law_like_q_5b_0 : List Stmt := _law_like_s_5b_0 :: _law_like_q_5b_1
def _law_like_c_5 : Expr := pC (pL (defBody s__law_like) 5)
def _law_like_s_5 : Stmt := .If _law_like_c_5 _law_like_q_5a_0 _law_like_q_5b_0 (pP (pL (defBody s__law_like) 5))
def _law_like_s_6a_0a_0 : Stmt := pL (pA (pL (pA (pL (defBody s__law_like) 6)) 0)) 0
def _law_like_q_6a_0a_1 : List Stmt := []
def _law_like_q_6a_0a_0 : List Stmt := _law_like_s_6a_0a_0 :: _law_like_q_6a_0a_1
def _law_like_q_6a_0b_0 : List Stmt := []
def _law_like_c_6a_0 : Expr := pC (pL (pA (pL (defBody s__law_like) 6)) 0)
def _law_like_s_6a_0 : Stmt := .If _law_like_c_6a_0 _law_like_q_6a_0a_0 _law_like_q_6a_0b_0 (pP (pL (pA (pL (defBody s__law_like) 6)) 0))
def _law_like_q_6a_1 : List Stmt := []
def _law_like_q_6a_0 : List Stmt := _law_like_s_6a_0 :: _law_like_q_6a_1
def _law_like_t_6 : Expr := pT (pL (defBody s__law_like) 6)
def _law_like_i_6 : Expr := pI (pL (defBody s__law_like) 6)
def _law_like_s_6 : Stmt := .For _law_like_t_6 _law_like_i_6 _law_like_q_6a_0 [] (pP (pL (defBody s__law_like) 6))
def _law_like_s_7 : Stmt := pL (defBody s__law_like) 7
def _law_like_q_8 : List Stmt := []
def _law_like_q_7 : List Stmt := _law_like_s_7 :: _law_like_q_8
def _law_like_q_6 : List Stmt := _law_like_s_6 :: _law_like_q_7
def _law_like_q_5 : List Stmt := _law_like_s_5 :: _law_like_q_6
def _law_like_q_4 : List Stmt := _law_like_s_4 :: _law_like_q_5
def _law_like_q_3 : List Stmt := _law_like_s_3 :: _law_like_q_4
def _law_like_q_2 : List Stmt := _law_like_s_2 :: _law_like_q_3
def _law_like_q_1 : List Stmt := _law_like_s_1 :: _law_like_q_2
def _law_like_q_0 : List Stmt := _law_like_s_0 :: _law_like_q_1
theorem hb__law_like : defBody s__law_like = _law_like_q_0 := by kernel_rfl
theorem sc__law_like : FnScope ["_law_actual", "_law_due", "_law_k", "_law_key"] ["_law_actual", "_law_due"] (defScope s__law_like) := ⟨rfl, rfl, rfl, by decide +kernel, rfl, by decide +kernel, by decide +kernel⟩
abbrev s_law : Stmt := top 43
theorem db_law : dbOk ["_law_script", "_law_draws", "_law_machine_here", "_law_lines", "_law_k", "_law_words", "_law_letter", "_law_made", "_law_again", "_law_end"] = true := by kernel_rfl
theorem vl_law : visL (defScope s_law) ["_law_script", "_law_draws", "_law_machine_here", "_law_lines", "_law_k", "_law_words", "_law_letter", "_law_made", "_law_again"] = true := by kernel_rfl
def law_s_0 : Stmt := pL (defBody s_law) 0
def law_s_1 : Stmt := pL (defBody s_law) 1
def law_s_2a_0 : Stmt := pL (pA (pL (defBody s_law) 2)) 0
def law_q_2a_1 : List Stmt := []
def law_q_2a_0 : List Stmt := law_s_2a_0 :: law_q_2a_1
def law_q_2b_0 : List Stmt := []
def law_c_2 : Expr := pC (pL (defBody s_law) 2)
def law_s_2 : Stmt := .If law_c_2 law_q_2a_0 law_q_2b_0 (pP (pL (defBody s_law) 2))
def law_s_3 : Stmt := pL (defBody s_law) 3
def law_s_4a_0 : Stmt := pL (pA (pL (defBody s_law) 4)) 0
def law_s_4a_1a_0a_0 : Stmt := pL (pA (pL (pA (pL (pA (pL (defBody s_law) 4)) 1)) 0)) 0
def law_q_4a_1a_0a_1 : List Stmt := []
def law_q_4a_1a_0a_0 : List Stmt := law_s_4a_1a_0a_0 :: law_q_4a_1a_0a_1
def law_q_4a_1a_0b_0 : List Stmt := []
def law_c_4a_1a_0 : Expr := pC (pL (pA (pL (pA (pL (defBody s_law) 4)) 1)) 0)
def law_s_4a_1a_0 : Stmt := .If law_c_4a_1a_0 law_q_4a_1a_0a_0 law_q_4a_1a_0b_0 (pP (pL (pA (pL (pA (pL (defBody s_law) 4)) 1)) 0))
def law_q_4a_1a_1 : List Stmt := []
def law_q_4a_1a_0 : List Stmt := law_s_4a_1a_0 :: law_q_4a_1a_1
def law_t_4a_1 : Expr := pT (pL (pA (pL (defBody s_law) 4)) 1)
def law_i_4a_1 : Expr := pI (pL (pA (pL (defBody s_law) 4)) 1)
def law_s_4a_1 : Stmt := .For law_t_4a_1 law_i_4a_1 law_q_4a_1a_0 [] (pP (pL (pA (pL (defBody s_law) 4)) 1))
def law_s_4a_2 : Stmt := pL (pA (pL (defBody s_law) 4)) 2
def law_q_4a_3 : List Stmt := []
def law_q_4a_2 : List Stmt := law_s_4a_2 :: law_q_4a_3
def law_q_4a_1 : List Stmt := law_s_4a_1 :: law_q_4a_2
def law_q_4a_0 : List Stmt := law_s_4a_0 :: law_q_4a_1
def law_t_4 : Expr := pT (pL (defBody s_law) 4)
def law_i_4 : Expr := pI (pL (defBody s_law) 4)
def law_s_4 : Stmt := .For law_t_4 law_i_4 law_q_4a_0 [] (pP (pL (defBody s_law) 4))
def law_s_5 : Stmt := pL (defBody s_law) 5
def law_s_6a_0 : Stmt := pL (pA (pL (defBody s_law) 6)) 0
def law_q_6a_1 : List Stmt := []
def law_q_6a_0 : List Stmt := law_s_6a_0 :: law_q_6a_1
def law_q_6b_0 : List Stmt := []
def law_c_6 : Expr := pC (pL (defBody s_law) 6)
def law_s_6 : Stmt := .If law_c_6 law_q_6a_0 law_q_6b_0 (pP (pL (defBody s_law) 6))
def law_s_7 : Stmt := pL (defBody s_law) 7
def law_s_8 : Stmt := pL (defBody s_law) 8
def law_q_9 : List Stmt := []
def law_q_8 : List Stmt := law_s_8 :: law_q_9
def law_q_7 : List Stmt := law_s_7 :: law_q_8
def law_q_6 : List Stmt := law_s_6 :: law_q_7
def law_q_5 : List Stmt := law_s_5 :: law_q_6
def law_q_4 : List Stmt := law_s_4 :: law_q_5
def law_q_3 : List Stmt := law_s_3 :: law_q_4
def law_q_2 : List Stmt := law_s_2 :: law_q_3
def law_q_1 : List Stmt := law_s_1 :: law_q_2
def law_q_0 : List Stmt := law_s_0 :: law_q_1
theorem hb_law : defBody s_law = law_q_0 := by kernel_rfl
theorem sc_law : FnScope ["_law_script", "_law_draws", "_law_machine_here", "_law_lines", "_law_k", "_law_words", "_law_letter", "_law_made", "_law_again", "_law_end"] ["_law_script"] (defScope s_law) := ⟨rfl, rfl, rfl, by decide +kernel, rfl, by decide +kernel, by decide +kernel⟩
-- names
section
variable {P : Program} {w : World} {K : PySem.W.Frag} {mg : Str → Option Value} {base : Heap}
/-- is_whole -/
def isWhole (x : V) (a b : Int) : Bool := match x with
  | .int i => decide (a ≤ i) && decide (i ≤ b)
  | _ => false
def spWhole : Prm := fun ds L KK KE => ∃ (x : V) (a b : Int), ds = [.v x, .int a, .int b] ∧ scalV x = true ∧ L = [] ∧ KK (.bl (isWhole x a b)) []
theorem ok_whole {f : Addr} {fd : FuncData} (FF : Fun K "is_whole" "is_whole" s_is_whole f fd) (B : Bi mg) : Def P w K mg base 1 f fd ["thing", "least", "most"] spWhole := by
  refine def_ok FF sc_is_whole ?_ ?_
  · rintro ds L KK KE ⟨x, a, b, rfl, _⟩
    rfl
  · rintro ds L KK KE ⟨x, a, b, rfl, hx, rfl, hk⟩ H0 F0
    refine run_ret ?_
    wtm_at "bg"
    rcases scal_cases hx with ⟨i, rfl⟩ | ⟨k, rfl⟩ | ⟨z, rfl⟩ | rfl
    all_goals wtm_at "go"
    all_goals simp_all [isWhole]
def letV : List V := [.str "a", .str "b", .str "c"]
def isLetter (x : V) : Bool := match x with
  | .str z => inD (.str z) (letV.map D.v)
  | _ => false
def spLetter : Prm := fun ds L KK KE => ∃ (x : V), ds = [.v x] ∧ scalV x = true ∧ L = [] ∧ KK (.bl (isLetter x)) []
theorem ok_letter {f : Addr} {fd : FuncData} (FF : Fun K "is_letter" "is_letter" s_is_letter f fd) (B : Bi mg) (gL : GTup K mg "LETTERS" letV) : Def P w K mg base 1 f fd ["thing"] spLetter := by
  refine def_ok FF sc_is_letter ?_ ?_
  · rintro ds L KK KE ⟨x, rfl, _⟩
    rfl
  · rintro ds L KK KE ⟨x, rfl, hx, rfl, hk⟩ H0 F0
    refine run_ret ?_
    wtm_at "bg"
    rcases scal_cases hx with ⟨i, rfl⟩ | ⟨k, rfl⟩ | ⟨z, rfl⟩ | rfl
    all_goals wtm_at "go"
    all_goals first | exact hk | skip
    refine op_inQ .tup rfl rfl ?_
    exact hk
abbrev rowV (kvs : List (Key × V)) : D := .dK (kvs.map fun kv => (kv.1, .v kv.2))
def isRow (kvs : List (Key × V)) (many : Int) : Bool := kvs.all fun kv => isLetter (kV kv.1) && isWhole ((valV kvs kv.1).getD .non) 0 (many - 1)
def spRow : Prm := fun ds L KK KE => ∃ (kvs : List (Key × V)) (many : Int), ds = [rowV kvs, .int many] ∧ (∀ kv ∈ kvs, scalV kv.2 = true) ∧ kvs.length < 1000 ∧ L = [] ∧ KK (.bl (isRow kvs many)) []
theorem ok_row {f : Addr} {fd : FuncData} (FF : Fun K "is_row" "is_row" s_is_row f fd) (B : Bi mg) (g1 : Glob P w K mg base "is_letter" ["thing"] spLetter 1) (g2 : Glob P w K mg base "is_whole" ["thing", "least", "most"] spWhole 1) : Def P w K mg base 2 f fd ["thing", "many"] spRow := by
  refine def_ok FF sc_is_row ?_ ?_
  · rintro ds L KK KE ⟨x, m, rfl, _⟩
    rfl
  · rintro ds L KK KE ⟨kvs, many, rfl, hv, hl, rfl, hk⟩ H0 F0
    wtm_at "bg"
    wtm_at "go"
    refine ev_lcK [("letter", 2)] rfl (by kernel_rfl) (path_name (by wtm_at "lk") (by wtm_at "vis")) ?_
    intro H0 F0
    refine lc_pure (fun _ => true) (fun d => match d with | .v x => .bl (isLetter x && isWhole ((valV kvs (keyOf x)).getD .non) 0 (many - 1)) | _ => .non) ?_ (by intro s hs; cases hs) ?_ ?_
    · unfold keysD
      rw [List.length_map, List.length_map]
      exact sz_lt (by omega)
    · intro F1 Dl d acc hd
      unfold keysD at hd
      rw [List.map_map] at hd
      obtain ⟨kv, hkv, rfl⟩ := List.mem_map.mp hd
      refine tn_name (i := 2) (by wtm_at "loc") rfl (List.mem_singleton.mpr rfl) ?_
      refine ⟨rfl, List.Sublist.refl _, fun _ => ?_⟩
      show Ev _ [some (rowV kvs), some (.int many), some (.v (kV kv.1))] _ _ _
      have hs : scalV (kV kv.1) = true := by cases kv.1 <;> rfl
      wtm_at "go"
      refine calls0 ⟨_, rfl, hs, rfl, ?_⟩
      wtm_at "go"
      · obtain ⟨v, hv1, hv2⟩ : ∃ v, valV kvs kv.1 = some v ∧ scalV v = true := by
          unfold valV
          cases e : kvs.find? fun a => decide (a.1 = kv.1) with
          | none => exact absurd (List.find?_eq_none.mp e kv hkv) (by simp)
          | some b => exact ⟨b.2, rfl, hv b (List.mem_of_find?_eq_some e)⟩
        refine ix_K rfl .frz (by rw [valD_map, hv1]; rfl) ?_
        wtm_at "go"
        refine calls0 ⟨_, _, _, rfl, hv2, rfl, ?_, List.Sublist.refl _⟩
        rename_i hb
        show _ = D.bl (isLetter (kV kv.1) && isWhole ((valV kvs (keyOf (kV kv.1))).getD .non) 0 (many - 1))
        rw [keyOf_kV, hv1, hb]
        rfl
      · rename_i hb
        show _ = D.bl (isLetter (kV kv.1) && isWhole ((valV kvs (keyOf (kV kv.1))).getD .non) 0 (many - 1))
        rw [hb]
        rfl
    · intro Dl
      have e : ∀ l : List (Key × V), (keysD (l.map fun kv => (kv.1, D.v kv.2))).map (fun d => match d with | .v x => D.bl (isLetter x && isWhole ((valV kvs (keyOf x)).getD .non) 0 (many - 1)) | _ => .non) =
          l.map fun kv => D.bl (isLetter (kV kv.1) && isWhole ((valV kvs kv.1).getD .non) 0 (many - 1)) := by
        intro l
        unfold keysD
        rw [List.map_map, List.map_map]
        refine List.map_congr_left fun kv _ => ?_
        show D.bl (isLetter (kV kv.1) && isWhole ((valV kvs (keyOf (kV kv.1))).getD .non) 0 (many - 1)) = _
        rw [keyOf_kV]
      have f : (keysD (kvs.map fun kv => (kv.1, D.v kv.2))).filter (fun _ => true) = keysD (kvs.map fun kv => (kv.1, D.v kv.2)) := List.filter_eq_self.mpr fun _ _ => rfl
      rw [f, e]
      wtm_at "go"
end
end Rk06

open PySem L2 TL
namespace Rk06
section
variable {P : Program} {w : World} {K : PySem.W.Frag} {mg : Str → Option Value} {base : Heap}
def natV : V → Int
  | .int i => i
  | _ => 0
def risesI : List Int → Bool
  | a :: b :: r => decide (a < b) && risesI (b :: r)
  | _ => true
def isMach (rs : List (List (Key × V))) (es : List V) : Bool := !rs.isEmpty && rs.all (fun r => isRow r rs.length) && es.all (fun x => isWhole x 0 (rs.length - 1)) && risesI (es.map natV)
def RowsOk (rs : List (List (Key × V))) : Prop := rs.length < 1000 ∧ ∀ r ∈ rs, (∀ kv ∈ r, scalV kv.2 = true) ∧ r.length < 1000
inductive MachD : D → D → Bool → Prop
  | norow {rows ends : D} (h : rows = .non ∨ ∃ ds, rows = .lst ds) : MachD rows ends false
  | noend {rs : List (List (Key × V))} (h : RowsOk rs) : MachD (.tup (rs.map rowV)) .non false
  | ok {rs : List (List (Key × V))} {es : List V} (h : RowsOk rs) (h2 : ∀ x ∈ es, scalV x = true) (h3 : es.length < 1000) : MachD (.tup (rs.map rowV)) (.tup (es.map .v)) (isMach rs es)
def spMach : Prm := fun ds L KK KE => ∃ rows ends b, ds = [rows, ends] ∧ L = [] ∧ MachD rows ends b ∧ KK (.bl b) []
theorem risesI_zip : ∀ l : List Int, risesI l = (l.zip (l.drop 1)).all fun p => decide (p.1 < p.2)
  | [] => rfl
  | [_] => rfl
  | a :: b :: r => by
    show (decide (a < b) && risesI (b :: r)) = _
    rw [risesI_zip (b :: r)]
    rfl
theorem zipD_zip (l m : List D) : zipD l m = (l.zip m).map fun p => .tup [p.1, p.2] := by
  unfold zipD
  rw [List.zip, List.map_zipWith]
theorem ok_machine {f : Addr} {fd : FuncData} (FF : Fun K "is_machine" "is_machine" s_is_machine f fd) (B : Bi mg) (g1 : Glob P w K mg base "is_row" ["thing", "many"] spRow 2) (g2 : Glob P w K mg base "is_whole" ["thing", "least", "most"] spWhole 1) : Def P w K mg base 3 f fd ["rows", "ends"] spMach := by
  refine def_ok FF sc_is_machine ?_ ?_
  · rintro ds L KK KE ⟨x, m, b, rfl, _⟩
    rfl
  · rintro ds L KK KE ⟨rows, ends, b, rfl, rfl, hm, hk⟩ H0 F0
    wtm_at "bg"
    cases hm with
    | norow h =>
      rcases h with rfl | ⟨ds, rfl⟩
      all_goals wtm_at "go"
    | @noend rs h =>
      wtm_at "go"
      · refine ev_lc [("row", 2)] rfl (by kernel_rfl) (ei_tup ?_)
        wtm_at "ev"
        refine ⟨_, rfl, ?_⟩
        refine lc_all rs rowV (fun r => .bl (isRow r rs.length)) rfl (sz_lt (by have := h.1; omega)) (by intro s hs; cases hs) ?_ ?_
        · intro F1 Dl r acc hr
          refine tn_name (i := 2) (by wtm_at "loc") rfl (List.mem_singleton.mpr rfl) ?_
          wtm_at "wz"
          wtm_at "go"
          refine calls0 ⟨_, _, rfl, (h.2 r hr).1, (h.2 r hr).2, rfl, ?_, List.Sublist.refl _⟩
          rw [List.length_map]
        · intro Dl
          wtm_at "go"
    | @ok rs es h h2 h3 =>
      wtm_at "go"
      · refine ev_lc [("row", 2)] rfl (by kernel_rfl) (ei_tup ?_)
        wtm_at "ev"
        refine ⟨_, rfl, ?_⟩
        refine lc_all rs rowV (fun r => .bl (isRow r rs.length)) rfl (sz_lt (by have := h.1; omega)) (by intro s hs; cases hs) ?_ ?_
        · intro F1 Dl r acc hr
          refine tn_name (i := 2) (by wtm_at "loc") rfl (List.mem_singleton.mpr rfl) ?_
          wtm_at "wz"
          wtm_at "go"
          refine calls0 ⟨_, _, rfl, (h.2 r hr).1, (h.2 r hr).2, rfl, ?_, List.Sublist.refl _⟩
          rw [List.length_map]
        · intro Dl
          wtm_at "go"
          · rename_i q
            have e : isMach rs es = false := by
              have q' : rs.all (fun r => isRow r rs.length) = false := by simpa using q
              unfold isMach
              rw [q']
              simp
            rw [← e]; exact hk
          · refine ev_lc [("end", 3)] rfl (by kernel_rfl) (ei_tup ?_)
            wtm_at "ev"
            refine ⟨_, rfl, ?_⟩
            refine lc_all es D.v (fun x => .bl (isWhole x 0 (rs.length - 1))) rfl (sz_lt (by omega)) (by intro s hs; cases hs) ?_ ?_
            · intro F1 Dl x acc hx
              refine tn_name (i := 3) (by wtm_at "loc") rfl (List.mem_singleton.mpr rfl) ?_
              wtm_at "wz"
              wtm_at "go"
              refine calls0 ⟨_, _, _, rfl, h2 x hx, rfl, ?_, List.Sublist.refl _⟩
              rw [List.length_map]
            · intro Dl
              wtm_at "go"
              · rename_i q
                have e : isMach rs es = false := by
                  have q' : es.all (fun x => isWhole x 0 (rs.length - 1)) = false := by simpa using q
                  unfold isMach
                  rw [q']
                  simp
                rw [← e]; exact hk
              · rename_i q0 q1 q2 q3
                obtain ⟨ns, rfl⟩ : ∃ ns : List Int, es = ns.map V.int := by
                  have q' : es.all (fun x => isWhole x 0 (rs.length - 1)) = true := by simpa using q3
                  refine ⟨es.map natV, ?_⟩
                  rw [List.map_map]
                  refine (List.map_id _).symm.trans (List.map_congr_left fun x hx => ?_)
                  have := List.all_eq_true.mp q' x hx
                  cases x with
                  | int i => rfl
                  | _ => cases this
                refine ev_lc [("one", 4), ("other", 5)] rfl (by kernel_rfl) (ei_zip (by wtm_at "gl") (by wtm_at "bi") ?_)
                wtm_at "ev"
                wtm_at "ev"
                wtm_at "ev"
                refine ev_int ⟨_, rfl, ?_⟩
                refine sl_T (.inr ⟨_, _, rfl, rfl, ?_⟩)
                have e1 : cutD ((ns.map V.int).map D.v) (some 1) none = ((ns.drop 1).map D.int) := by
                  rw [show ((1 : Int)) = ((1 : Nat) : Int) from rfl, cut_from, List.map_map, ← List.map_drop]
                  rfl
                rw [e1, List.map_map]
                refine lc_all (ns.zip (ns.drop 1)) (fun p => .tup [.int p.1, .int p.2]) (fun p => .bl (decide (p.1 < p.2))) (zipD_map ns (ns.drop 1) D.int D.int) (sz_lt ?_) (by intro s hs; cases hs) ?_ ?_
                · rw [List.length_zip]
                  rw [List.length_map] at h3
                  omega
                · intro F1 Dl x acc hx
                  refine tn_two (i := 4) (j := 5) rfl (by wtm_at "loc") rfl (List.mem_cons_self) (by wtm_at "loc") rfl (List.mem_cons_of_mem _ List.mem_cons_self) ?_
                  wtm_at "wz"
                  wtm_at "go"
                · intro Dl
                  wtm_at "go"
                  have e : isMach rs (ns.map V.int) = (ns.zip (ns.drop 1)).all fun p => decide (p.1 < p.2) := by
                    have q2' : rs.all (fun r => isRow r rs.length) = true := by simpa using q2
                    have q3' : (ns.map V.int).all (fun x => isWhole x 0 (rs.length - 1)) = true := by simpa using q3
                    have q0' : (!rs.isEmpty) = true := by simpa using q0
                    have e2 : (ns.map V.int).map natV = ns := by
                      rw [List.map_map]
                      exact List.map_id _
                    unfold isMach
                    rw [q2', q3', q0', e2, risesI_zip]
                    rfl
                  rw [← e]; exact hk
      · rename_i q
        have e : isMach rs es = false := by
          have q' : rs.isEmpty = true := by simpa using q
          unfold isMach
          rw [q']
          simp
        rw [← e]; exact hk
end
end Rk06

open PySem L2 TL
namespace Rk06
section
variable {P : Program} {w : World} {K : PySem.W.Frag} {mg : Str → Option Value} {base : Heap}
def letK : List Key := [Sum.inr "a", Sum.inr "b", Sum.inr "c"]
def normRow (kvs : List (Key × V)) : List (Key × V) := (letK.filter fun l => (valV kvs l).isSome).map fun l => (l, (valV kvs l).getD .non)
def rdrD (Cr : Addr) (rs : List (List (Key × V))) (es : List V) : D := .ob Cr [("table", .tup (rs.map fun r => rowV (normRow r))), ("last", .tup (es.map .v))]
/-- rows a tuple or a list of dicts, ends a tuple -/
def spRInit (Cr : Addr) : Prm := fun ds L KK KE => ∃ (l : Addr) (rows : D) (rs : List (List (Key × V))) (es : List V), ds = [.ref l, rows, .tup (es.map .v)] ∧ (rows = .tup (rs.map rowV) ∨ rows = .lst (rs.map rowV)) ∧ rs.length < 1000 ∧ L = [(l, .ins Cr [])] ∧
  KK .non [(l, .ins Cr [("table", .tup (rs.map fun r => rowV (normRow r))), ("last", .tup (es.map .v))])]
theorem norm_disp (r : List (Key × V)) : dispE ((letK.filter fun l => (valV r l).isSome).map fun l => (l, D.v ((valV r l).getD .non))) = (normRow r).map fun kv => (kv.1, D.v kv.2) := by
  have nd : letK.Nodup := by decide +kernel
  rw [dispE_nodup]
  · unfold normRow
    rw [List.map_map]
    rfl
  · rw [List.map_map]
    refine (List.Nodup.sublist ?_ nd)
    have : (List.filter (fun l => (valV r l).isSome) letK).map ((fun x : Key × D => x.1) ∘ fun l => (l, D.v ((valV r l).getD V.non))) = List.filter (fun l => (valV r l).isSome) letK := List.map_id _
    rw [this]
    exact List.filter_sublist
theorem ok_reader_init {f Cr : Addr} {fd : FuncData} (FF : Fun K "__init__" "Reader.__init__" s_Reader_init f fd) (B : Bi mg) (gL : GTup K mg "LETTERS" letV) (c : Cls K Cr) (n1 : NoAttr K Cr "table") (n2 : NoAttr K Cr "last") : Def P w K mg base 1 f fd ["self", "rows", "ends"] (spRInit Cr) := by
  refine def_ok FF sc_Reader_init ?_ ?_
  · rintro ds L KK KE ⟨l, rows, rs, es, rfl, _⟩
    rfl
  · rintro ds L KK KE ⟨l, rows, rs, es, rfl, hr, hlen, rfl, hk⟩ H0 F0
    wtm_at "bg"
    rcases hr with rfl | rfl
    · refine run_fld c n1 ?_
      wtm_at "go"
      refine ev_lc [("row", 4)] rfl (by kernel_rfl) (ei_tup ?_)
      wtm_at "ev"
      refine ⟨_, rfl, ?_⟩
      refine lc_all rs rowV (fun r => rowV (normRow r)) rfl (sz_lt (by omega)) (by intro s hs; cases hs) ?_ ?_
      · intro F1 Dl r acc hr
        refine tn_name (i := 4) (by wtm_at "loc") rfl (List.mem_singleton.mpr rfl) ?_
        wtm_at "wz"
        refine ev_frz (ev_dc [("letter", 3)] rfl (by kernel_rfl) (ei_tup ?_))
        wtm_at "ev"
        refine ⟨_, rfl, ?_⟩
        refine dc_map letK (fun k => .v (kV k)) (fun k => (k, .v ((valV r k).getD .non))) (fun k => (valV r k).isSome) rfl (by decide +kernel) (by intro s hs; cases hs) ?_ ?_
        · intro F2 Dm k acc2 hk2
          refine tn_name (i := 3) (by wtm_at "loc") rfl (List.mem_singleton.mpr rfl) ?_
          wtm_at "wz"
          show TL.Tst _ _ _ _ _
          wtm_at "go"
          refine op_inK rfl .frz ⟨_, rfl, by rw [valD_map]; cases valV r k <;> rfl, List.Sublist.refl _, fun hs => ?_⟩
          obtain ⟨v, hv⟩ := Option.isSome_iff_exists.mp hs
          wtm_at "go"
          exact ix_K rfl .frz (by rw [valD_map, hv]; rfl) ⟨rfl, by rw [hv]; rfl, List.Sublist.refl _⟩
        · intro Dm
          refine ⟨_, _, _, rfl, .here, ?_, List.Sublist.refl _⟩
          show D.dK (dispE _) = D.dK _
          rw [norm_disp]
      · intro Dl
        wtm_at "go"
        refine ⟨_, _, _, rfl, .there .here, by simp [putD], ?_⟩
        refine run_fld c n2 ?_
        wtm_at "go"
        refine ⟨_, _, _, rfl, .there .here, by simp [putD], ?_⟩
        refine run_drop (List.sublist_cons_self _ _) ?_
        wtm_at "go"
    · refine run_fld c n1 ?_
      wtm_at "go"
      refine ev_lc [("row", 4)] rfl (by kernel_rfl) (ei_lst ?_)
      wtm_at "ev"
      refine ⟨_, .frz, ?_⟩
      refine lc_all rs rowV (fun r => rowV (normRow r)) rfl (sz_lt (by omega)) (by intro s hs; cases hs) ?_ ?_
      · intro F1 Dl r acc hr
        refine tn_name (i := 4) (by wtm_at "loc") rfl (List.mem_singleton.mpr rfl) ?_
        wtm_at "wz"
        refine ev_frz (ev_dc [("letter", 3)] rfl (by kernel_rfl) (ei_tup ?_))
        wtm_at "ev"
        refine ⟨_, rfl, ?_⟩
        refine dc_map letK (fun k => .v (kV k)) (fun k => (k, .v ((valV r k).getD .non))) (fun k => (valV r k).isSome) rfl (by decide +kernel) (by intro s hs; cases hs) ?_ ?_
        · intro F2 Dm k acc2 hk2
          refine tn_name (i := 3) (by wtm_at "loc") rfl (List.mem_singleton.mpr rfl) ?_
          wtm_at "wz"
          show TL.Tst _ _ _ _ _
          wtm_at "go"
          refine op_inK rfl .frz ⟨_, rfl, by rw [valD_map]; cases valV r k <;> rfl, List.Sublist.refl _, fun hs => ?_⟩
          obtain ⟨v, hv⟩ := Option.isSome_iff_exists.mp hs
          wtm_at "go"
          exact ix_K rfl .frz (by rw [valD_map, hv]; rfl) ⟨rfl, by rw [hv]; rfl, List.Sublist.refl _⟩
        · intro Dm
          refine ⟨_, _, _, rfl, .here, ?_, List.Sublist.refl _⟩
          show D.dK (dispE _) = D.dK _
          rw [norm_disp]
      · intro Dl
        wtm_at "go"
        refine ⟨_, _, _, rfl, .there .here, by simp [putD], ?_⟩
        refine run_fld c n2 ?_
        wtm_at "go"
        refine ⟨_, _, _, rfl, .there .here, by simp [putD], ?_⟩
        refine run_drop (List.sublist_cons_self _ _) ?_
        wtm_at "go"
end
end Rk06

open PySem L2 TL
namespace Rk06
section
variable {P : Program} {w : World} {K : PySem.W.Frag} {mg : Str → Option Value} {base : Heap}
def spMInit (Cm Cr CB : Addr) : Prm := fun ds L KK KE => ∃ (l : Addr) (rows ends : D), ds = [.ref l, rows, ends] ∧ L = [(l, .ins Cm [])] ∧
  ((∃ fs, rows = .ob Cr fs ∧ KK .non [(l, .ins Cm [("inner", rows)])]) ∨
    (∃ (rs : List (List (Key × V))) (es : List V), rows = .tup (rs.map rowV) ∧ ends = .tup (es.map D.v) ∧ RowsOk rs ∧ (∀ x ∈ es, scalV x = true) ∧ es.length < 1000 ∧ isMach rs es = true ∧ rs.length ≤ 6 ∧ KK .non [(l, .ins Cm [("inner", rdrD Cr rs es)])]) ∨
    (∃ b, MachD rows ends b ∧ (b = false ∨ ∃ rs : List (List (Key × V)), rows = .tup (rs.map rowV) ∧ 6 < rs.length) ∧ KE (.own CB) []))
theorem ok_machine_init {f Cm Cr CB : Addr} {fd : FuncData} (FF : Fun K "__init__" "Machine.__init__" s_Machine_init f fd) (B : Bi mg) (gR : GVal mg "Reader" (.ref Cr)) (gM : GVal mg "MOST_ROWS" (.int 6)) (c : Cls K Cm) (n1 : NoAttr K Cm "inner")
    (k1 : PySem.W.kitOne K (.type "tuple") (.ref Cr) = some false) (k2 : PySem.W.kitOne K (.type "NoneType") (.ref Cr) = some false) (k3 : PySem.W.kitOne K (.type "list") (.ref Cr) = some false) (k4 : PySem.W.kitOne K (.ref Cr) (.ref Cr) = some true) (ci : ClsI K Cr)
    (eB : ExcC K mg "BadMachine" CB) (g1 : Glob P w K mg base "is_machine" ["rows", "ends"] spMach 3) (g2 : Cla P w K mg base "Reader" Cr ["self", "rows", "ends"] (spRInit Cr) 1) : Def P w K mg base 4 f fd ["self", "rows", "ends"] (spMInit Cm Cr CB) := by
  refine def_ok FF sc_Machine_init ?_ ?_
  · rintro ds L KK KE ⟨l, rows, ends, rfl, _⟩
    rfl
  · rintro ds L KK KE ⟨l, rows, ends, rfl, rfl, hd⟩ H0 F0
    wtm_at "bg"
    rcases hd with ⟨fs, rfl, hk⟩ | ⟨rs, es, rfl, rfl, h1, h2, h3, h4, h5, hk⟩ | ⟨b, hm, hb, hk⟩
    · wtm_at "gk"
      refine run_fld c n1 ?_
      wtm_at "gk"
      refine ⟨_, _, _, rfl, .here, by simp [putD], ?_⟩
      wtm_at "gk"
    · wtm_at "gk"
      refine calls0 ⟨_, _, _, rfl, rfl, .ok h1 h2 h3, ?_⟩
      rw [h4]
      wtm_at "gk"
      · rename_i hb
        have hb' := of_decide_eq_true hb
        rw [List.length_map] at hb'
        omega
      · refine run_fld c n1 ?_
        refine ev_frz ?_
        wtm_at "gk"
        intro l2
        refine ⟨[(l2, .ins Cr [])], [(l, .ins Cm [])], List.Perm.refl _, _, fun _ => List.Perm.refl _, l2, _, rs, es, rfl, .inl rfl, (by omega), rfl, ?_⟩
        refine ⟨rfl, _, _, _, rfl, .here, ?_⟩
        wtm_at "gk"
        refine ⟨_, _, _, rfl, .here, by simp [putD], ?_⟩
        wtm_at "gk"
    · cases hm with
      | norow h =>
        rcases h with rfl | ⟨ds, rfl⟩
        all_goals
          wtm_at "gk"
          refine calls0 ⟨_, _, _, rfl, rfl, .norow ?_, ?_⟩
          · first | exact .inl rfl | exact .inr ⟨_, rfl⟩
          refine ⟨_, tr_bl, ?_⟩
          wtm_at "gk"
      | noend h =>
        wtm_at "gk"
        refine calls0 ⟨_, _, _, rfl, rfl, .noend h, ?_⟩
        wtm_at "gk"
      | @ok rs es h h2 h3 =>
        wtm_at "gk"
        refine calls0 ⟨_, _, _, rfl, rfl, .ok h h2 h3, ?_⟩
        wtm_at "gk"
        rename_i q1 q2
        exfalso
        have q2' := of_decide_eq_false q2
        rw [List.length_map] at q2'
        rcases hb with hb | ⟨rs', e, hb⟩
        · rw [hb] at q1; cases q1
        · have e2 : rs.length = rs'.length := by
            have := congrArg (fun d => match d with | D.tup ds => ds.length | _ => 0) e
            simpa using this
          omega
end
end Rk06

open PySem L2 TL
namespace Rk06
section
variable {P : Program} {w : World} {K : PySem.W.Frag} {mg : Str → Option Value} {base : Heap}
def figs : Str := "0123456789"
def optD : Option Int → D
  | none => .non
  | some n => .int n
def numOf (z : Str) : Option Int :=
  if decide ((1 : Int) ≤ z.length) && decide ((z.length : Int) ≤ 9) && (z.cps.toList.all fun c => decide (c ∈ figs.cps.toList)) then
    (if decide ((toString ((PySem.intText? z).getD 0) : Str) = z) then some ((PySem.intText? z).getD 0) else none) else none
def spNumber : Prm := fun ds L KK KE => ∃ (z : Str), ds = [.str z] ∧ z.length ≤ 1000 ∧ L = [] ∧ KK (optD (numOf z)) []
theorem nfb {b : Bool} (h : (!b) = false) : b = true := by cases b <;> first | rfl | cases h
theorem ntb {b : Bool} (h : (!b) = true) : b = false := by cases b <;> first | rfl | cases h
theorem strLen (z : Str) : z.cps.toList.length = z.length := by simp [Str.length]
theorem digits_lt : ∀ (cs : List Nat) (acc : Nat), PySem.NumText.AllDigits cs → cs.foldl (fun acc c => acc * 10 + (c - 48)) acc < (acc + 1) * 10 ^ cs.length
  | [], acc, _ => by simp
  | c :: cs, acc, h => by
    have hc := h c List.mem_cons_self
    have ih := digits_lt cs (acc * 10 + (c - 48)) fun d hd => h d (List.mem_cons_of_mem _ hd)
    rw [List.foldl_cons, List.length_cons, Nat.pow_succ]
    refine Nat.lt_of_lt_of_le ih ?_
    have h2 : acc * 10 + (c - 48) + 1 ≤ (acc + 1) * 10 := by omega
    calc (acc * 10 + (c - 48) + 1) * 10 ^ cs.length ≤ ((acc + 1) * 10) * 10 ^ cs.length := Nat.mul_le_mul_right _ h2
      _ = (acc + 1) * (10 ^ cs.length * 10) := by rw [Nat.mul_assoc, Nat.mul_comm 10]
theorem figs_digits {z : Str} (h : (z.cps.toList.all fun c => decide (c ∈ figs.cps.toList)) = true) : PySem.NumText.AllDigits z.cps.toList := by
  intro c hc
  have h1 := of_decide_eq_true (List.all_eq_true.mp h c hc)
  have h2 : ∀ c ∈ figs.cps.toList, 48 ≤ c ∧ c ≤ 57 := by decide +kernel
  exact h2 c h1
theorem ok_number {f : Addr} {fd : FuncData} (FF : Fun K "number_of" "number_of" s_number_of f fd) (B : Bi mg) (gF : GVal mg "FIGURES" (.str figs)) : Def P w K mg base 1 f fd ["word"] spNumber := by
  refine def_ok FF sc_number_of ?_ ?_
  · rintro ds L KK KE ⟨z, rfl, _⟩
    rfl
  · rintro ds L KK KE ⟨z, rfl, hz, rfl, hk⟩ H0 F0
    wtm_at "bg"
    have hl : z.length ≤ sizeLine := sz_of (by omega)
    wtm_at "go"
    all_goals refine cv_lenS hl ?_
    all_goals wtm_at "go"
    · rename_i q1 q2
      refine ev_lc [("sign", 1)] rfl (by kernel_rfl) (ei_str ?_)
      wtm_at "ev"
      refine ⟨_, rfl, ?_⟩
      refine lc_all z.cps.toList (fun c => .str ⟨#[c]⟩) (fun c => .bl (decide (c ∈ figs.cps.toList))) rfl (sz_lt (by rw [strLen]; omega)) (by intro s hs; cases hs) ?_ ?_
      · intro F1 Dl c acc hc
        refine tn_name (i := 1) (by wtm_at "loc") rfl (List.mem_singleton.mpr rfl) ?_
        wtm_at "wz"
        wtm_at "go"
        exact op_inC ⟨rfl, List.Sublist.refl _⟩
      · intro Dl
        have cond : ∀ b, (z.cps.toList.all fun c => decide (c ∈ figs.cps.toList)) = b → (decide ((1 : Int) ≤ z.length) && decide ((z.length : Int) ≤ 9) && (z.cps.toList.all fun c => decide (c ∈ figs.cps.toList))) = b := by
          intro b hb
          have q2' : decide ((z.length : Int) ≤ 9) = true := nfb q2
          rw [q1, q2', hb]
          rfl
        wtm_at "go"
        · rename_i q3
          have q3' : (z.cps.toList.all fun c => decide (c ∈ figs.cps.toList)) = true := nfb q3
          have dg := figs_digits q3'
          have q1' := of_decide_eq_true q1
          have hcl := strLen z
          have ne : z.cps.toList ≠ [] := by
            intro e
            rw [e] at hcl
            simp at hcl
            omega
          have it := PySem.intText_digits dg ne (by omega)
          have q2' : (z.length : Int) ≤ 9 := of_decide_eq_true (nfb q2)
          have lt : PySem.NumText.digitsVal z.cps.toList < 10 ^ 9 := by
            have h := digits_lt z.cps.toList 0 dg
            rw [Nat.zero_add, Nat.one_mul] at h
            exact Nat.lt_of_lt_of_le h (Nat.pow_le_pow_right (by decide) (by omega))
          have lg : ((PySem.NumText.digitsVal z.cps.toList : Nat) : Int).natAbs.log2 < 1920 := by
            rw [Int.natAbs_natCast]
            by_cases h0 : PySem.NumText.digitsVal z.cps.toList = 0
            · rw [h0]; decide
            · rw [Nat.log2_lt h0]
              exact Nat.lt_trans lt (by decide)
          have gd : (PySem.intText? z).getD 0 = ((PySem.NumText.digitsVal z.cps.toList : Nat) : Int) := by rw [it]; rfl
          refine cv_intS it (by omega) ?_
          wtm_at "go"
          refine cv_strI lg ?_
          wtm_at "go"
          · rename_i q4
            have e : numOf z = none := by
              unfold numOf
              rw [if_pos (cond _ q3'), gd, if_neg]
              intro h
              rw [h] at q4
              cases q4
            rw [e] at hk; exact hk
          · rename_i q4
            have e : numOf z = some ((PySem.NumText.digitsVal z.cps.toList : Nat) : Int) := by
              unfold numOf
              rw [if_pos (cond _ q3'), gd, if_pos]
              simpa using q4
            refine cv_intS it (by omega) ?_
            rw [e] at hk; exact hk
        · rename_i q3
          have e : numOf z = none := by
            unfold numOf
            rw [if_neg]
            rw [cond _ (ntb q3)]
            decide
          rw [e] at hk; exact hk
    · rename_i q1 q2
      have e : numOf z = none := by
        unfold numOf
        have q2' : decide ((z.length : Int) ≤ 9) = false := ntb q2
        rw [q2']
        simp
      rw [e] at hk; exact hk
    · rename_i q1
      have e : numOf z = none := by
        unfold numOf
        rw [q1]
        simp
      rw [e] at hk; exact hk
end
end Rk06

open PySem L2 TL
namespace Rk06
section
variable {P : Program} {w : World} {K : PySem.W.Frag} {mg : Str → Option Value} {base : Heap}
def risesB {α : Type} (lt : α → α → Bool) : List α → Bool
  | a :: b :: r => lt a b && risesB lt (b :: r)
  | _ => true
theorem risesB_zip {α : Type} (lt : α → α → Bool) : ∀ l : List α, risesB lt l = (l.zip (l.drop 1)).all fun p => lt p.1 p.2
  | [] => rfl
  | [_] => rfl
  | a :: b :: r => by
    show (lt a b && risesB lt (b :: r)) = _
    rw [risesB_zip lt (b :: r)]
    rfl
def ltI (a b : Int) : Bool := decide (a < b)
def ltS (a b : Str) : Bool := decide (a.cps.toList < b.cps.toList)
def spRises : Prm := fun ds L KK KE => (∃ ns : List Int, ds = [.lst (ns.map D.int)] ∧ ns.length ≤ 1000 ∧ L = [] ∧ KK (.bl (risesB ltI ns)) []) ∨ ∃ ns : List Str, ds = [.lst (ns.map D.str)] ∧ ns.length ≤ 1000 ∧ L = [] ∧ KK (.bl (risesB ltS ns)) []
theorem ok_rises {f : Addr} {fd : FuncData} (FF : Fun K "rises" "rises" s_rises f fd) (B : Bi mg) : Def P w K mg base 1 f fd ["numbers"] spRises := by
  refine def_ok FF sc_rises ?_ ?_
  · rintro ds L KK KE (⟨ns, rfl, _⟩ | ⟨ns, rfl, _⟩)
    all_goals rfl
  · rintro ds L KK KE h H0 F0
    rcases h with ⟨ns, rfl, hl, rfl, hk⟩ | ⟨ns, rfl, hl, rfl, hk⟩
    · wtm_at "bg"
      wtm_at "go"
      refine ev_lc [("one", 1), ("other", 2)] rfl (by kernel_rfl) (ei_zip (by wtm_at "gl") (by wtm_at "bi") ?_)
      wtm_at "ev"
      wtm_at "ev"
      wtm_at "ev"
      refine ev_int ⟨_, rfl, ?_⟩
      refine sl_L .frz ?_
      intro p
      refine .inl ⟨_, _, .frz, .own List.mem_cons_self, ?_⟩
      have e1 : cutD (ns.map D.int) (some 1) none = ((ns.drop 1).map D.int) := by
        rw [show ((1 : Int)) = ((1 : Nat) : Int) from rfl, cut_from, ← List.map_drop]
      rw [e1]
      refine lc_all (ns.zip (ns.drop 1)) (fun p => .tup [D.int p.1, D.int p.2]) (fun p => .bl (ltI p.1 p.2)) (zipD_map ns (ns.drop 1) D.int D.int) (sz_lt ?_) (by intro s hs; exact hs) ?_ ?_
      · rw [List.length_zip]
        omega
      · intro F1 Dl x acc hx
        refine tn_two (i := 1) (j := 2) rfl (by wtm_at "loc") rfl (List.mem_cons_self) (by wtm_at "loc") rfl (List.mem_cons_of_mem _ List.mem_cons_self) ?_
        wtm_at "wz"
        wtm_at "go"
        all_goals first | exact rfl | exact ⟨rfl, List.Sublist.refl _⟩ | (refine op_ltS ?_; exact ⟨rfl, List.Sublist.refl _⟩)
      · intro Dl
        wtm_at "go"
        rw [risesB_zip] at hk
        exact hk
    · wtm_at "bg"
      wtm_at "go"
      refine ev_lc [("one", 1), ("other", 2)] rfl (by kernel_rfl) (ei_zip (by wtm_at "gl") (by wtm_at "bi") ?_)
      wtm_at "ev"
      wtm_at "ev"
      wtm_at "ev"
      refine ev_int ⟨_, rfl, ?_⟩
      refine sl_L .frz ?_
      intro p
      refine .inl ⟨_, _, .frz, .own List.mem_cons_self, ?_⟩
      have e1 : cutD (ns.map D.str) (some 1) none = ((ns.drop 1).map D.str) := by
        rw [show ((1 : Int)) = ((1 : Nat) : Int) from rfl, cut_from, ← List.map_drop]
      rw [e1]
      refine lc_all (ns.zip (ns.drop 1)) (fun p => .tup [D.str p.1, D.str p.2]) (fun p => .bl (ltS p.1 p.2)) (zipD_map ns (ns.drop 1) D.str D.str) (sz_lt ?_) (by intro s hs; exact hs) ?_ ?_
      · rw [List.length_zip]
        omega
      · intro F1 Dl x acc hx
        refine tn_two (i := 1) (j := 2) rfl (by wtm_at "loc") rfl (List.mem_cons_self) (by wtm_at "loc") rfl (List.mem_cons_of_mem _ List.mem_cons_self) ?_
        wtm_at "wz"
        wtm_at "go"
        all_goals first | exact rfl | exact ⟨rfl, List.Sublist.refl _⟩ | (refine op_ltS ?_; exact ⟨rfl, List.Sublist.refl _⟩)
      · intro Dl
        wtm_at "go"
        rw [risesB_zip] at hk
        exact hk
end
end Rk06

open PySem L2 TL
namespace Rk06
section
variable {P : Program} {w : World} {K : PySem.W.Frag} {mg : Str → Option Value} {base : Heap}
def isEnds : Str := "ends"
/-- what the first line says -/
def endsOf (line : Str) (many : Int) : Option (List Int) :=
  let words := Txt.split line " "
  let es := (words.drop 1).map numOf
  if decide (words.getD 0 Str.empty = isEnds) && es.all (·.isSome) && risesB ltI (es.map (·.getD 0)) && !(es.map (·.getD 0)).any (fun e => decide (many ≤ e)) then some (es.map (·.getD 0)) else none
def wordsOk (line : Str) : Bool := decide (line.length ≤ 900) && decide (0 < (Txt.split line " ").length) && decide ((Txt.split line " ").length ≤ 900) && (Txt.split line " ").all fun w => decide (w.length ≤ 900)
def spEnds (CL : Addr) : Prm := fun ds L KK KE => ∃ (line : Str) (many : Int), ds = [.str line, .int many] ∧ wordsOk line = true ∧ L = [] ∧ (∀ es, endsOf line many = some es → KK (.tup (es.map D.int)) []) ∧ (endsOf line many = none → KE (.low CL "line" (.int 1)) [])
theorem optD_flat (l : List Str) : (l.map fun w => optD (numOf w)).all flatD = true := by
  rw [List.all_map]
  refine List.all_eq_true.mpr fun w _ => ?_
  show flatD (optD (numOf w)) = true
  cases numOf w <;> rfl
theorem optD_in (l : List Str) : inD .non (l.map fun w => optD (numOf w)) = !(l.map numOf).all (·.isSome) := by
  unfold inD
  rw [List.any_map, List.all_map, List.not_all_eq_any_not]
  congr 1
  funext w
  show (match optD (numOf w) with | .v y => eqV y .non | _ => false) = !(numOf w).isSome
  cases numOf w <;> rfl
theorem optD_ints {l : List Str} (h : (l.map numOf).all (·.isSome) = true) : (l.map fun w => optD (numOf w)) = ((l.map numOf).map (·.getD 0)).map D.int := by
  rw [List.map_map, List.map_map]
  refine List.map_congr_left fun w hw => ?_
  have := List.all_eq_true.mp h (numOf w) (List.mem_map.mpr ⟨w, hw, rfl⟩)
  show optD (numOf w) = D.int ((numOf w).getD 0)
  cases e : numOf w with
  | none => rw [e] at this; cases this
  | some n => rfl
theorem ok_ends {f CL : Addr} {fd : FuncData} (FF : Fun K "ends_in" "ends_in" s_ends_in f fd) (B : Bi mg) (g1 : Glob P w K mg base "number_of" ["word"] spNumber 1) (g2 : Glob P w K mg base "rises" ["numbers"] spRises 1) (eL : ExcL P w K mg base "BadLine" CL "line" 1) : Def P w K mg base 3 f fd ["line", "many"] (spEnds CL) := by
  refine def_ok FF sc_ends_in ?_ ?_
  · rintro ds L KK KE ⟨z, m, rfl, _⟩
    rfl
  · rintro ds L KK KE ⟨line, many, rfl, hz, rfl, hk, he⟩ H0 F0
    wtm_at "bg"
    have hz' := hz
    unfold wordsOk at hz'
    simp only [Bool.and_eq_true, decide_eq_true_eq, List.all_eq_true] at hz'
    obtain ⟨⟨⟨hl, hp⟩, hn⟩, hw⟩ := hz'
    generalize hws : Txt.split line " " = ws at hp hn hw
    cases ws with
    | nil => exact absurd hp (by decide)
    | cons w0 tl =>
    have hE : endsOf line many = if decide (w0 = isEnds) && (tl.map numOf).all (·.isSome) && risesB ltI ((tl.map numOf).map (·.getD 0)) && !((tl.map numOf).map (·.getD 0)).any (fun e => decide (many ≤ e)) then some ((tl.map numOf).map (·.getD 0)) else none := by
      unfold endsOf
      rw [hws]
      rfl
    wtm_at "go"
    refine ev_split ?_
    wtm_at "go"
    · decide +kernel
    · exact Nat.le_trans (show line.length + 2 ≤ 1000 by omega) (show 1000 ≤ sizeLine by decide +kernel)
    intro p
    rw [hws]
    refine ⟨_, by wtm_at "pt", ?_⟩
    refine run_frz (x := "words") (by wtm_at "lk") .here (by wtm_at "pt") ?_
    show TL.Run _ [some (.str line), some (.int many), some (.lst ((w0 :: tl).map D.str)), none, none, none] _ _ _
    refine run_setlc [("word", 4)] rfl (by kernel_rfl) (by wtm_at "mem") (by kernel_rfl) (ei_lst ?_) (by kernel_rfl) (by kernel_rfl) (by kernel_rfl)
    wtm_at "go"
    refine ev_int ⟨_, rfl, ?_⟩
    refine sl_L .frz ?_
    intro p2
    refine ⟨_, .own List.mem_cons_self, ?_⟩
    rw [show ((1 : Int)) = ((1 : Nat) : Int) from rfl, cut_from]
    refine lc_all tl D.str (fun w => optD (numOf w)) rfl (sz_lt (by rw [List.length_cons] at hn; omega)) (by intro s hs; exact hs) ?_ ?_
    · intro F1 Dl w acc hw'
      refine tn_name (i := 4) (by wtm_at "loc") rfl (List.mem_singleton.mpr rfl) ?_
      wtm_at "wz"
      wtm_at "go"
      refine calls0 ⟨_, rfl, Nat.le_trans (hw w (List.mem_cons_of_mem _ hw')) (by decide), rfl, rfl, List.Sublist.refl _⟩
    · intro Dl
      refine ⟨_, by wtm_at "pt", ?_⟩
      refine run_frz (x := "ends") (by wtm_at "lk") .here (by wtm_at "pt") ?_
      show TL.Run _ [some (.str line), some (.int many), some (.lst ((w0 :: tl).map D.str)), some (.lst (tl.map fun w => optD (numOf w))), none, none] _ _ _
      refine run_drop (List.nil_sublist _) ?_
      wtm_at "go"
      refine ix_L .frz (at_nat (j := 0) rfl rfl) ?_
      wtm_at "go"
      · rename_i q1
        have q1' : decide (w0 = isEnds) = true := nfb q1
        refine op_inQ (.lst .frz) rfl (optD_flat _) ?_
        rw [optD_in]
        wtm_at "go"
        · rename_i q2
          have q2' := nfb q2
          rw [optD_ints q2']
          generalize hes : (tl.map numOf).map (·.getD 0) = es at hE
          have hel : es.length ≤ 1000 := by
            rw [← hes, List.length_map, List.length_map]
            rw [List.length_cons] at hn
            omega
          wtm_at "go"
          refine calls0 (.inl ⟨_, rfl, hel, rfl, ?_⟩)
          wtm_at "go"
          · rename_i q3
            refine ev_lc [("end", 5)] rfl (by kernel_rfl) (ei_lst ?_)
            wtm_at "ev"
            refine ⟨_, .frz, ?_⟩
            refine lc_all es D.int (fun e => .bl (decide (many ≤ e))) rfl (sz_lt (by omega)) (by intro s hs; cases hs) ?_ ?_
            · intro F1 Dm e acc he'
              refine tn_name (i := 5) (by wtm_at "loc") rfl (List.mem_singleton.mpr rfl) ?_
              wtm_at "wz"
              wtm_at "go"
            · intro Dm
              wtm_at "go"
              · rename_i q4
                refine he ?_
                rw [hE, q1', q2', nfb q3, q4]
                rfl
              · rename_i q4
                refine hk es ?_
                rw [hE, q1', q2', nfb q3, q4]
                rfl
          · rename_i q3
            refine he ?_
            rw [hE, q1', q2', ntb q3]
            rfl
        · rename_i q2
          refine he ?_
          rw [hE, q1', ntb q2]
          rfl
      · rename_i q1
        refine he ?_
        have q1' : decide (w0 = isEnds) = false := ntb q1
        rw [hE, q1']
        rfl
end
end Rk06

open PySem L2 TL
namespace Rk06
section
variable {P : Program} {w : World} {K : PySem.W.Frag} {mg : Str → Option Value} {base : Heap}
def isLet (z : Str) : Bool := inD (.str z) (letV.map D.v)
def rowOf (line : Str) (number many : Int) : Option (List (Key × V)) :=
  let ws := Txt.split line " "
  let ls := pickL ws 1 2
  let ts := (pickL ws 2 2).map numOf
  if decide (ws.getD 0 Str.empty = (toString number : Str)) && decide ((ls.length : Int) = ts.length) && ts.all (·.isSome) && ls.all isLet && risesB ltS ls && !(ts.map (·.getD 0)).any (fun t => decide (many ≤ t)) then
    some (mergeK [] ((ls.map (Sum.inr : Str → Key)).zip ((ts.map (·.getD 0)).map V.int))) else none
def optR : Option (List (Key × V)) → D
  | none => .non
  | some r => rowV r
def rowWords (line : Str) : Bool := wordsOk line && decide ((pickL (Txt.split line " ") 1 2).length ≤ 900) && decide ((pickL (Txt.split line " ") 2 2).length ≤ 900)
def spRowIn : Prm := fun ds L KK KE => ∃ (line : Str) (number many : Int), ds = [.str line, .int number, .int many] ∧ rowWords line = true ∧ 0 ≤ number ∧ number < 1000 ∧ L = [] ∧ KK (optR (rowOf line number many)) []
theorem pickL_map {α β : Type} (f : α → β) (xs : List α) (lo st : Int) : pickL (xs.map f) lo st = (pickL xs lo st).map f := by
  unfold pickL
  rw [List.length_map, List.map_filterMap]
  congr 1
  funext i
  rw [List.getElem?_map]
theorem pickL_sub {α : Type} {xs : List α} {lo st : Int} {x : α} (h : x ∈ pickL xs lo st) : x ∈ xs := by
  unfold pickL at h
  obtain ⟨i, _, hi⟩ := List.mem_filterMap.mp h
  exact List.mem_of_getElem? hi
theorem putE_map (l : List (Key × V)) (k : Key) (v : V) : putE (l.map fun kv => (kv.1, D.v kv.2)) k (.v v) = (putK l k v).map fun kv => (kv.1, D.v kv.2) := by
  unfold putE putK
  rw [List.any_map]
  have e : ((fun kv : Key × D => decide (kv.1 = k)) ∘ fun kv : Key × V => (kv.1, D.v kv.2)) = fun kv : Key × V => decide (kv.1 = k) := rfl
  rw [e]
  split
  · rw [List.map_map, List.map_map]
    refine List.map_congr_left fun kv _ => ?_
    show (if kv.1 = k then (kv.1, D.v v) else (kv.1, D.v kv.2)) = ((if kv.1 = k then (kv.1, v) else kv).1, D.v (if kv.1 = k then (kv.1, v) else kv).2)
    split <;> rfl
  · rw [List.map_append]
    rfl
theorem disp_merge (l : List (Key × V)) : dispE (l.map fun kv => (kv.1, D.v kv.2)) = (mergeK [] l).map fun kv => (kv.1, D.v kv.2) := by
  have go : ∀ (l acc : List (Key × V)), (l.map fun kv => (kv.1, D.v kv.2)).foldl (fun acc kv => putE acc kv.1 kv.2) (acc.map fun kv => (kv.1, D.v kv.2)) = (l.foldl (fun acc kv => putK acc kv.1 kv.2) acc).map fun kv => (kv.1, D.v kv.2) := by
    intro l
    induction l with
    | nil => intro acc; rfl
    | cons a l ih =>
      intro acc
      rw [List.map_cons, List.foldl_cons, List.foldl_cons]
      show (l.map _).foldl _ (putE (acc.map fun kv => (kv.1, D.v kv.2)) a.1 (.v a.2)) = _
      rw [putE_map]
      exact ih _
  exact go l []
theorem log_small {n : Int} (h0 : 0 ≤ n) (h1 : n < 10 ^ 9) : n.natAbs.log2 < 1920 := by
  by_cases h : n.natAbs = 0
  · rw [h]; decide
  · rw [Nat.log2_lt h]
    exact Nat.lt_trans (show n.natAbs < 10 ^ 9 by omega) (by decide)
theorem pickL_len {α : Type} (xs ys : List α) (lo st : Int) (h : xs.length = ys.length) : (pickL xs lo st).length = (pickL ys lo st).length := by
  have e1 : (pickL xs lo st).length = (pickL (xs.map fun _ => ()) lo st).length := by rw [pickL_map, List.length_map]
  have e2 : (pickL ys lo st).length = (pickL (ys.map fun _ => ()) lo st).length := by rw [pickL_map, List.length_map]
  have e3 : (xs.map fun _ => ()) = ys.map fun _ => () := by
    refine List.ext_getElem (by simp [h]) fun i _ _ => ?_
    simp
  rw [e1, e2, e3]
theorem ok_row_in {f : Addr} {fd : FuncData} (FF : Fun K "row_in" "row_in" s_row_in f fd) (B : Bi mg) (gL : GTup K mg "LETTERS" letV) (g1 : Glob P w K mg base "number_of" ["word"] spNumber 1) (g2 : Glob P w K mg base "rises" ["numbers"] spRises 1) : Def P w K mg base 2 f fd ["line", "number", "many"] spRowIn := by
  refine def_ok FF sc_row_in ?_ ?_
  · rintro ds L KK KE ⟨z, n, m, rfl, _⟩
    rfl
  · rintro ds L KK KE ⟨line, number, many, rfl, hz, h0, h1, rfl, hk⟩ H0 F0
    wtm_at "bg"
    have hz' := hz
    unfold rowWords wordsOk at hz'
    simp only [Bool.and_eq_true, decide_eq_true_eq, List.all_eq_true] at hz'
    obtain ⟨⟨⟨⟨⟨hl, hp⟩, hn⟩, hw⟩, hn1⟩, hn2⟩ := hz'
    generalize hws : Txt.split line " " = ws at hp hn hw hn1 hn2
    have hR : rowOf line number many = if decide (ws.getD 0 Str.empty = (toString number : Str)) && decide (((pickL ws 1 2).length : Int) = ((pickL ws 2 2).map numOf).length) && ((pickL ws 2 2).map numOf).all (·.isSome) && (pickL ws 1 2).all isLet && risesB ltS (pickL ws 1 2) && !(((pickL ws 2 2).map numOf).map (·.getD 0)).any (fun t => decide (many ≤ t)) then
        some (mergeK [] (((pickL ws 1 2).map (Sum.inr : Str → Key)).zip ((((pickL ws 2 2).map numOf).map (·.getD 0)).map V.int))) else none := by
      unfold rowOf
      rw [hws]
    wtm_at "go"
    refine ev_split ?_
    wtm_at "go"
    · decide +kernel
    · exact Nat.le_trans (show line.length + 2 ≤ 1000 by omega) (show 1000 ≤ sizeLine by decide +kernel)
    intro p
    rw [hws]
    refine ⟨_, by wtm_at "pt", ?_⟩
    refine run_frz (x := "words") (by wtm_at "lk") .here (by wtm_at "pt") ?_
    show TL.Run _ [some (.str line), some (.int number), some (.int many), some (.lst (ws.map D.str)), none, none, none, none, none] _ _ _
    refine run_par rfl (by kernel_rfl) (by kernel_rfl) (by kernel_rfl) (by wtm_at "mem") (by wtm_at "mem") (by decide +kernel) (by kernel_rfl) ?_
    refine ev_pick ?_
    wtm_at "go"
    refine ⟨_, .frz, ?_⟩
    rw [pickL_map]
    generalize hls : pickL ws 1 2 = ls at hn1 hR
    have hwl : ∀ w ∈ pickL ws 2 2, w.length ≤ 900 := fun w hw' => hw w (pickL_sub hw')
    refine ⟨by rw [List.length_map]; exact sz_of (by omega), fun p1 => ?_⟩
    refine ev_lc [("word", 6)] rfl (by kernel_rfl) (ei_lst ?_)
    refine ev_pick ?_
    wtm_at "go"
    refine ⟨_, .frz, ?_⟩
    rw [pickL_map]
    generalize hws2 : pickL ws 2 2 = ws2 at hn2 hR hwl
    refine ⟨by rw [List.length_map]; exact sz_of (by omega), fun p2 => ?_⟩
    refine ⟨_, .own List.mem_cons_self, ?_⟩
    refine lc_all ws2 D.str (fun w => optD (numOf w)) rfl (sz_lt (by omega)) (by intro s hs; exact (List.mem_singleton.mp hs) ▸ List.mem_cons_self) ?_ ?_
    · intro F1 Dl w acc hw'
      refine tn_name (i := 6) (by wtm_at "loc") rfl (List.mem_singleton.mpr rfl) ?_
      wtm_at "wz"
      wtm_at "go"
      refine calls0 ⟨_, rfl, Nat.le_trans (hwl w hw') (by decide), rfl, rfl, List.Sublist.refl _⟩
    · intro Dl
      refine ⟨_, _, by wtm_at "pt", by wtm_at "pt", ?_⟩
      refine run_frz (x := "letters") (by wtm_at "lk") (.there (.there .here)) (by wtm_at "pt") ?_
      refine run_frz (x := "targets") (by wtm_at "lk") .here (by wtm_at "pt") ?_
      show TL.Run _ [some (.str line), some (.int number), some (.int many), some (.lst (ws.map D.str)), some (.lst (ls.map D.str)), some (.lst (ws2.map fun w => optD (numOf w))), none, none, none] _ _ _
      refine run_drop (List.nil_sublist _) ?_
      cases ws with
      | nil => exact absurd hp (by decide)
      | cons w0 tl =>
      rw [hR] at hk
      have hk' : KK (optR (if (decide (w0 = (toString number : Str)) && decide ((ls.length : Int) = ws2.length) && (ws2.map numOf).all (·.isSome) && ls.all isLet && risesB ltS ls && !((ws2.map numOf).map (·.getD 0)).any (fun t => decide (many ≤ t))) = true then
        some (mergeK [] ((ls.map (Sum.inr : Str → Key)).zip (((ws2.map numOf).map (·.getD 0)).map V.int))) else none)) [] := by
        have e : ((ws2.map numOf).length : Int) = ws2.length := by rw [List.length_map]
        rw [e] at hk
        exact hk
      clear hk hR
      wtm_at "go"
      refine ix_L .frz (at_nat (j := 0) rfl rfl) ?_
      wtm_at "go"
      refine cv_strI (log_small h0 (by omega)) ?_
      wtm_at "go"
      · rename_i q1 q2
        have c1 := nfb q1
        have c2 : decide ((ls.length : Int) = ws2.length) = true := by simpa using nfb q2
        refine op_inQ (.lst .frz) rfl (optD_flat _) ?_
        rw [optD_in]
        wtm_at "go"
        · rename_i q3
          rw [ntb q3] at hk'
          simpa [optR] using hk'
        · rename_i q3
          have c3 := nfb q3
          rw [optD_ints c3]
          rw [c1, c2, c3] at hk'
          generalize hts : (ws2.map numOf).map (·.getD 0) = ts at hk'
          have hlt : ls.length = ts.length := by
            have := of_decide_eq_true c2
            rw [← hts, List.length_map, List.length_map]
            omega
          wtm_at "go"
          refine ev_lc [("letter", 7)] rfl (by kernel_rfl) (ei_lst ?_)
          wtm_at "ev"
          refine ⟨_, .frz, ?_⟩
          refine lc_all ls D.str (fun z => .bl (isLet z)) rfl (sz_lt (by omega)) (by intro s hs; cases hs) ?_ ?_
          · intro F1 Dm z acc hz2
            refine tn_name (i := 7) (by wtm_at "loc") rfl (List.mem_singleton.mpr rfl) ?_
            wtm_at "wz"
            wtm_at "go"
            exact op_inQ .tup rfl (by decide +kernel) ⟨rfl, List.Sublist.refl _⟩
          · intro Dm
            wtm_at "go"
            · rename_i q4
              rw [nfb q4] at hk'
              refine calls0 (.inr ⟨ls, rfl, by omega, rfl, ?_⟩)
              wtm_at "go"
              · rename_i q5
                rw [ntb q5] at hk'
                simpa [optR] using hk'
              · rename_i q5
                rw [nfb q5] at hk'
                refine ev_lc [("target", 8)] rfl (by kernel_rfl) (ei_lst ?_)
                wtm_at "ev"
                refine ⟨_, .frz, ?_⟩
                refine lc_all ts D.int (fun t => .bl (decide (many ≤ t))) rfl (sz_lt (by omega)) (by intro s hs; cases hs) ?_ ?_
                · intro F1 Dn t acc ht2
                  refine tn_name (i := 8) (by wtm_at "loc") rfl (List.mem_singleton.mpr rfl) ?_
                  wtm_at "wz"
                  wtm_at "go"
                · intro Dn
                  wtm_at "gn"
                  · rename_i q6
                    rw [q6] at hk'
                    wtm_at "go"
                    all_goals simpa [optR] using hk'
                  · rename_i q6
                    rw [q6] at hk'
                    refine run_ret0 (ev_frz (ev_dictzip rfl (by wtm_at "gl") (by wtm_at "bi") (by wtm_at "gl") (by wtm_at "bi") ?_))
                    wtm_at "ev"
                    wtm_at "ev"
                    refine ⟨ls.map Sum.inr, ts.map D.int, ?_, .frz, by rw [List.length_map, List.length_map, hlt], fun l => ⟨_, _, _, rfl, .here, ?_⟩⟩
                    · have e : (ls.map (Sum.inr : Str → Key)).map (fun k => D.v (kV k)) = ls.map D.str := by
                        rw [List.map_map]
                        rfl
                      rw [e]
                      exact .frz
                    · have e : dispE ((ls.map (Sum.inr : Str → Key)).zip (ts.map D.int)) = (mergeK [] ((ls.map (Sum.inr : Str → Key)).zip (ts.map V.int))).map fun kv => (kv.1, D.v kv.2) := by
                        rw [← disp_merge]
                        congr 1
                        rw [List.zip_map_right, List.zip_map_right, List.map_map]
                        rfl
                      show KK (.dK (dispE _)) []
                      rw [e]
                      simpa [optR] using hk'
            · rename_i q4
              rw [ntb q4] at hk'
              simpa [optR] using hk'
      · rename_i q1 q2
        have c2 : decide ((ls.length : Int) = ws2.length) = false := by simpa using ntb q2
        rw [c2] at hk'
        simpa [optR] using hk'
      · rename_i q1
        rw [ntb q1] at hk'
        simpa [optR] using hk'
end
end Rk06

open PySem L2 TL
namespace Rk06
section
variable {P : Program} {w : World} {K : PySem.W.Frag} {mg : Str → Option Value} {base : Heap}
abbrev RowL := List (List (Key × V))
def readRows (many : Int) : Int → List Str → RowL → Int ⊕ RowL
  | _, [], acc => .inr acc
  | k, l :: r, acc => match (if decide (k < 6) then rowOf l k many else none) with
    | none => .inl (k + 2)
    | some row => readRows many (k + 1) r (acc ++ [row])
def readM (text : Str) : Int ⊕ (RowL × List Int) :=
  let lines := Txt.split text "\n"
  let many := min ((lines.length : Int) - 1) 6
  match endsOf (lines.getD 0 Str.empty) (max many 1) with
  | none => .inl 1
  | some es => match readRows many 0 (lines.drop 1) [] with
    | .inl n => .inl n
    | .inr [] => .inl 2
    | .inr (r :: rs) => .inr (r :: rs, es)
def textOk (text : Str) : Bool := decide (text.length ≤ 100000) && decide (0 < (Txt.split text "\n").length) && decide ((Txt.split text "\n").length ≤ 900) && (Txt.split text "\n").all rowWords
def machD (Cm Cr : Addr) (rs : RowL) (es : List Int) : D := .ob Cm [("inner", rdrD Cr rs (es.map V.int))]
def spRead (Cm Cr CL : Addr) : Prm := fun ds L KK KE => ∃ text : Str, ds = [.str text] ∧ textOk text = true ∧ L = [] ∧ (∀ n, readM text = .inl n → KE (.low CL "line" (.int n)) []) ∧
  (∀ rs es, readM text = .inr (rs, es) → RowsOk rs ∧ es.length < 1000 ∧ isMach rs (es.map V.int) = true ∧ rs.length ≤ 6 ∧ KK (machD Cm Cr rs es) [])
theorem ok_read {f Cm Cr CL CB : Addr} {fd : FuncData} (FF : Fun K "read_machine" "read_machine" s_read_machine f fd) (B : Bi mg) (gM : GVal mg "MOST_ROWS" (.int 6)) (g1 : Glob P w K mg base "ends_in" ["line", "many"] (spEnds CL) 3) (g2 : Glob P w K mg base "row_in" ["line", "number", "many"] spRowIn 2)
    (g3 : Cla P w K mg base "Machine" Cm ["self", "rows", "ends"] (spMInit Cm Cr CB) 4) (eL : ExcL P w K mg base "BadLine" CL "line" 1) : Def P w K mg base 6 f fd ["text"] (spRead Cm Cr CL) := by
  refine def_ok FF sc_read_machine ?_ ?_
  · rintro ds L KK KE ⟨z, rfl, _⟩
    rfl
  · rintro ds L KK KE ⟨text, rfl, ht, rfl, he, hk⟩ H0 F0
    wtm_at "bg"
    have ht' := ht
    unfold textOk at ht'
    simp only [Bool.and_eq_true, decide_eq_true_eq, List.all_eq_true] at ht'
    obtain ⟨⟨⟨hl, hp⟩, hn⟩, hw⟩ := ht'
    generalize hls : Txt.split text "\n" = ls at hp hn hw
    have hM : readM text = match endsOf (ls.getD 0 Str.empty) (max (min ((ls.length : Int) - 1) 6) 1) with
      | none => .inl 1
      | some es => match readRows (min ((ls.length : Int) - 1) 6) 0 (ls.drop 1) [] with
        | .inl n => .inl n
        | .inr [] => .inl 2
        | .inr (r :: rs) => .inr (r :: rs, es) := by
      unfold readM
      rw [hls]
    cases ls with
    | nil => exact absurd hp (by decide)
    | cons l0 tl =>
    wtm_at "go"
    refine ev_split ?_
    wtm_at "go"
    · decide +kernel
    · exact Nat.le_trans (show text.length + 2 ≤ 100002 by omega) (show 100002 ≤ sizeLine by decide +kernel)
    intro p
    rw [hls]
    refine ⟨_, by wtm_at "pt", ?_⟩
    refine run_frz (x := "lines") (by wtm_at "lk") .here (by wtm_at "pt") ?_
    show TL.Run _ [some (.str text), some (.lst ((l0 :: tl).map D.str)), none, none, none, none, none, none] _ _ _
    wtm_at "go"
    refine ix_L .frz (at_nat (j := 0) rfl rfl) ?_
    wtm_at "go"
    have w0 : wordsOk l0 = true := by
      have := hw l0 List.mem_cons_self
      unfold rowWords at this
      simp only [Bool.and_eq_true] at this
      exact this.1.1
    have em : ((((l0 :: tl).map D.str).length : Int)) = ((l0 :: tl).length : Int) := by rw [List.length_map]
    rw [em]
    generalize hmany : min (((l0 :: tl).length : Int) - 1) 6 = many at hM
    refine calls0 ⟨l0, _, rfl, w0, rfl, fun es hes => ?_, fun hes => ?_⟩
    · have hM' : readM text = match readRows many 0 tl [] with
        | .inl n => .inl n
        | .inr [] => .inl 2
        | .inr (r :: rs) => .inr (r :: rs, es) := by
        rw [hM]
        show (match endsOf l0 (max many 1) with | none => _ | some es => _) = _
        rw [hes]
        rfl
      clear hM
      refine ⟨_, by wtm_at "pt", ?_⟩
      wtm_at "go"
      · exact Nat.zero_le _
      intro pr
      refine ⟨_, by wtm_at "pt", ?_⟩
      refine run_for rfl rfl (ei_enum (by wtm_at "gl") (by wtm_at "bi") ?_)
      wtm_at "go"
      refine evp_i (evp_n (sl_L .frz ?_))
      intro pl
      rw [show ((1 : Int)) = ((1 : Nat) : Int) from rfl, cut_from]
      show ∃ ds, _ ∧ _
      refine ⟨tl.map D.str, .own List.mem_cons_self, ?_⟩
      refine ⟨fun i G' L' => ∃ (a b c : Option D) (acc : RowL), G' = [some (.str text), some (.lst ((l0 :: tl).map D.str)), some (.int many), some (.tup (es.map D.int)), some (.ref pr), a, b, c] ∧
        L' = [(pl, .lst (tl.map D.str)), (pr, .lst (acc.map rowV))] ∧ i ≤ tl.length ∧ acc.length = i ∧ readRows many 0 tl [] = readRows many (i : Int) (tl.drop i) acc, ⟨_, _, _, [], rfl, rfl, Nat.zero_le _, rfl, rfl⟩, ?_, ?_, ?_⟩
      · rintro i G' L' ⟨a, b, c, acc, rfl, rfl, _⟩ s hs
        exact (List.mem_singleton.mp hs) ▸ List.mem_cons_self
      · rintro F1 i d G' L' hd ⟨a, b, c, acc, rfl, rfl, hi, hacc, hr⟩
        obtain ⟨x, hx, rfl⟩ := enum_get hd
        rw [List.getElem?_map] at hx
        obtain ⟨ln, hln, rfl⟩ : ∃ ln, tl[i]? = some ln ∧ x = .str ln := by
          cases e : tl[i]? with
          | none => rw [e] at hx; cases hx
          | some ln => rw [e] at hx; exact ⟨ln, rfl, (Option.some.inj hx).symm⟩
        have hit : i < tl.length := (List.getElem?_eq_some_iff.mp hln).1
        have hdr : tl.drop i = ln :: tl.drop (i + 1) := by
          rw [List.drop_eq_getElem_cons hit]
          rw [(List.getElem?_eq_some_iff.mp hln).2]
        rw [List.length_cons] at hn
        refine tgt_two rfl (tgt_name (by wtm_at "loc") (by wtm_at "pt") (tgt_name (by wtm_at "loc") (by wtm_at "pt") ?_))
        have hw1 : rowWords ln = true := hw ln (List.mem_cons_of_mem _ (List.mem_of_getElem? hln))
        have fin : ∀ o : Option (List (Key × V)), (if decide ((i : Int) < 6) then rowOf ln i many else none) = o → readRows many 0 tl [] = (match o with | none => .inl ((i : Int) + 2) | some row => readRows many ((i : Int) + 1) (tl.drop (i + 1)) (acc ++ [row])) := by
          intro o ho
          rw [hr, hdr]
          show (match (if decide ((i : Int) < 6) then rowOf ln i many else none) with | none => _ | some row => _) = _
          rw [ho]
        wtm_at "go"
        · rename_i q
          refine calls0 ⟨ln, _, _, rfl, hw1, by omega, by omega, rfl, ?_⟩
          refine ⟨_, by wtm_at "pt", ?_⟩
          have fin2 := fin (rowOf ln i many) (by rw [q]; rfl)
          cases e : rowOf ln i many with
          | none =>
            rw [e] at fin2
            show TL.Run _ [some (.str text), some (.lst ((l0 :: tl).map D.str)), some (.int many), some (.tup (es.map D.int)), some (.ref pr), some (.int i), some (.str ln), some .non] _ _ _
            wtm_at "go"
            refine he _ ?_
            rw [hM', fin2]
          | some row =>
            rw [e] at fin2
            show TL.Run _ [some (.str text), some (.lst ((l0 :: tl).map D.str)), some (.int many), some (.tup (es.map D.int)), some (.ref pr), some (.int i), some (.str ln), some (rowV row)] _ _ _
            wtm_at "go"
            refine ev_append ?_
            wtm_at "go"
            refine ⟨pr, _, rfl, .tail _ (.head _), ?_⟩
            wtm_at "go"
            refine ⟨_, _, .there .here, by rw [List.length_map]; exact sz_lt (by omega), ?_⟩
            wtm_at "go"
            refine ⟨_, _, _, acc ++ [row], rfl, ?_, hit, ?_, ?_⟩
            · rw [List.map_append]
              rfl
            · rw [List.length_append]
              simp
              omega
            · rw [fin2]
              rfl
        · rename_i q q'
          have fin2 := fin none (by rw [q]; rfl)
          refine he _ ?_
          rw [hM', fin2]
      · rintro G' L' ⟨a, b, c, acc, rfl, rfl, hi, hacc, hr⟩
        have hle : (enumD (tl.map D.str)).length = tl.length := by
          unfold enumD
          simp
        rw [hle] at hr hacc
        have hr' : readRows many 0 tl [] = .inr acc := by
          rw [hr, List.drop_length]
          rfl
        show TL.Run _ _ _ _ _
        wtm_at "gn"
        · rename_i q
          refine he 2 ?_
          rw [hM', hr']
          cases acc with
          | nil => rfl
          | cons r rs => cases q
        · rename_i q
          refine run_ret0 (ev_frz ?_)
          wtm_at "go"
          intro l
          have hne : readM text = .inr (acc, es) := by
            rw [hM', hr']
            cases acc with
            | nil => cases q
            | cons r rs => rfl
          obtain ⟨h1, h2, h3, h4, h5⟩ := hk acc es hne
          refine ⟨[(l, .ins Cm [])], _, List.Perm.refl _, _, fun _ => List.Perm.refl _, l, _, _, rfl, rfl, .inr (.inl ⟨acc, es.map V.int, rfl, by rw [List.map_map]; rfl, h1, ?_, by rw [List.length_map]; exact h2, h3, h4, ?_⟩)⟩
          · intro x hx
            obtain ⟨n, _, rfl⟩ := List.mem_map.mp hx
            rfl
          · exact ⟨rfl, _, _, _, rfl, .here, h5⟩
    · refine he 1 ?_
      rw [hM]
      show (match endsOf l0 (max many 1) with | none => _ | some es => _) = _
      rw [hes]
end
end Rk06

open PySem L2 TL
namespace Rk06
section
variable {P : Program} {w : World} {K : PySem.W.Frag} {mg : Str → Option Value} {base : Heap}
def cellD (ns : List Int) (pos w s : Int) : List D := [.lst (ns.map D.int), .int pos, .int w, .int s]
def spBegin : Prm := fun ds L KK KE => ∃ ns : List Int, ds = [.sq (ns.map D.int)] ∧ ns.length ≤ 63 ∧ L = [] ∧ ∀ p, KK (.ref p) [(p, .lst (cellD ns 0 0 7))]
def spDraw : Prm := fun ds L KK KE => ∃ (p : Addr) (ns : List Int) (pos w s size : Int), ds = [.ref p, .int size] ∧ L = [(p, .lst (cellD ns pos w s))] ∧ 0 ≤ pos ∧ 0 ≤ w ∧ 0 < size ∧ size < 1000 ∧
  ∀ r pos' w' s', 0 ≤ r → r < size → 0 ≤ pos' → 0 ≤ w' → KK (.int r) [(p, .lst (cellD ns pos' w' s'))]
theorem ok_begin {f : Addr} {fd : FuncData} (FF : Fun K "_law_begin" "_law_begin" s__law_begin f fd) (B : Bi mg) : Def P w K mg base 1 f fd ["_law_script"] spBegin := by
  refine def_ok FF sc__law_begin ?_ ?_
  · rintro ds L KK KE ⟨ns, rfl, _⟩
    rfl
  · rintro ds L KK KE ⟨ns, rfl, hn, rfl, hk⟩ H0 F0
    wtm_at "bg"
    refine run_ret (ev_lst (ea_cons (ev_frz (ev_blty (by wtm_at "gl") (by wtm_at "bi") (by wtm_at "bty") ?_))))
    wtm_at "go"
    refine cv_listQ fun p => ⟨_, _, _, rfl, .here, ?_⟩
    wtm_at "go"
    exact (by decide +kernel : 4 ≤ sizeLine)
def DrawQ (p : Addr) (ns : List Int) (size : Int) (G' : List (Option D)) (L' : Led) : Prop := ∃ (a b : Option D) (pos wv s : Int), 0 ≤ pos ∧ 0 ≤ wv ∧ G' = [some (.ref p), some (.int size), a, b] ∧ L' = [(p, .lst (cellD ns pos wv s))]
theorem ok_draw {f : Addr} {fd : FuncData} (FF : Fun K "_law_draw" "_law_draw" s__law_draw f fd) (B : Bi mg) : Def P w K mg base 1 f fd ["_law_draws", "_law_size"] spDraw := by
  refine def_ok FF sc__law_draw ?_ ?_
  · rintro ds L KK KE ⟨p, ns, pos, w, s, size, rfl, _⟩
    rfl
  · rintro ds L KK KE ⟨p, ns, pos, wv, s, size, rfl, rfl, hp, hw, hs, hs2, hk⟩ H0 F0
    wtm_at "bg"
    have IX : ∀ {M : Mode} {G : List (Option D)} {K2 : D → Led → Prop} (ns : List Int) (pos wv s : Int) (j : Nat) {d : D}, (cellD ns pos wv s)[j]? = some d → K2 d [(p, .lst (cellD ns pos wv s))] → IxV M G [(p, .lst (cellD ns pos wv s))] (.ref p) (.int j) K2 := fun ns pos wv s j d h1 h2 => ix_L (.own (.head _)) (at_nat rfl h1) h2
    have tail : ∀ (a b : Option D) (pos wv s : Int), 0 ≤ pos → 0 ≤ wv → Run ⟨ctxOf P w K mg base ["_law_draws", "_law_size", "_law_cell", "_law_found"] s__law_draw 0, H0, F0, fun ex _ L' => KE ex L'⟩ [some (.ref p), some (.int size), a, b] [(p, .lst (cellD ns pos wv s))] ((defBody s__law_draw).drop 1) ⟨fun _ L' => KK .non L', KK, fun _ _ => False, fun _ _ => False⟩ := by
      intro a b pos wv s hp hw
      wtm_at "gk"
      refine IX ns pos wv s 2 rfl ?_
      wtm_at "gk"
      · rename_i q
        have q' : 0 < wv := of_decide_eq_true q
        refine IX ns pos wv s 2 rfl ?_
        wtm_at "gk"
        refine op_modI hs ?_
        refine ⟨_, by wtm_at "pt", ?_⟩
        refine run_asg ?_
        wtm_at "gk"
        refine IX ns pos wv s 2 rfl ?_
        wtm_at "gk"
        refine op_fdivI ⟨hs, by omega⟩ ?_
        refine tgt_sub ?_
        wtm_at "gk"
        refine ⟨p, _, _, 2, _, rfl, rfl, rfl, .here, ?_⟩
        wtm_at "gk"
        exact hk _ pos (wv / size) s (Int.emod_nonneg _ (by omega)) (Int.emod_lt_of_pos _ hs) hp (Int.ediv_nonneg hw (by omega))
      · refine IX ns pos wv s 3 rfl ?_
        wtm_at "gk"
        refine op_mulI (.inr ⟨by decide, by decide⟩) ?_
        wtm_at "gk"
        refine op_modI (by decide) ?_
        wtm_at "gk"
        refine op_modI hs ?_
        exact hk _ pos wv s (Int.emod_nonneg _ (by omega)) (Int.emod_lt_of_pos _ hs) hp hw
    refine run_ifQ (DrawQ p ns size) ?_ (fun G' L' ⟨a, b, pos, wv, s, h1, h2, e1, e2⟩ => by rw [e1, e2]; exact tail a b pos wv s h1 h2)
    wtm_at "gk"
    refine IX ns pos wv s 2 rfl ?_
    wtm_at "gk"
    · refine IX ns pos wv s 1 rfl ?_
      wtm_at "gk"
      refine IX ns pos wv s 0 rfl ?_
      wtm_at "gk"
      · rename_i q1 q2
        have q2' := of_decide_eq_true q2
        rw [List.length_map] at q2'
        obtain ⟨c, hc⟩ : ∃ c, ns[pos.toNat]? = some c := ⟨ns[pos.toNat]'(by omega), List.getElem?_eq_getElem (by omega)⟩
        refine IX ns pos wv s 0 rfl ?_
        wtm_at "gk"
        refine IX ns pos wv s 1 rfl ?_
        refine ix_L .frz (at_nat (j := pos.toNat) (by omega) (by rw [List.getElem?_map, hc]; rfl)) ?_
        refine ⟨_, by wtm_at "pt", ?_⟩
        refine run_asg ?_
        wtm_at "gk"
        refine IX ns pos wv s 1 rfl ?_
        wtm_at "gk"
        refine tgt_sub ?_
        wtm_at "gk"
        refine ⟨p, _, _, 1, _, rfl, rfl, rfl, .here, ?_⟩
        show TL.Run _ _ [(p, .lst (cellD ns (pos + 1) wv s))] _ _
        wtm_at "gk"
        refine op_powI ⟨by decide, by decide, by decide⟩ ?_
        wtm_at "gk"
        · rename_i q3
          have q3' : (10 : Int) ^ (18 : Int).toNat ≤ c := of_decide_eq_true q3
          have q4 : (0 : Int) ≤ c := Int.le_trans (by decide) q3'
          refine run_asg ?_
          wtm_at "gk"
          refine tgt_sub ?_
          wtm_at "gk"
          refine ⟨p, _, _, 2, _, rfl, rfl, rfl, .here, ?_⟩
          wtm_at "gk"
          exact ⟨_, _, pos + 1, c, s, by omega, q4, rfl, rfl⟩
        · refine run_asg ?_
          wtm_at "gk"
          refine IX ns (pos + 1) wv s 3 rfl ?_
          wtm_at "gk"
          refine op_mulI (.inr ⟨by decide, by decide⟩) ?_
          wtm_at "gk"
          refine op_mulI (.inr ⟨by decide, by decide⟩) ?_
          wtm_at "gk"
          refine op_modI (by decide) ?_
          refine tgt_sub ?_
          wtm_at "gk"
          refine ⟨p, _, _, 3, _, rfl, rfl, rfl, .here, ?_⟩
          wtm_at "gk"
          exact ⟨_, _, pos + 1, wv, _, by omega, hw, rfl, rfl⟩
      · refine run_asg ?_
        wtm_at "gk"
        refine IX ns pos wv s 3 rfl ?_
        wtm_at "gk"
        refine op_mulI (.inr ⟨by decide, by decide⟩) ?_
        wtm_at "gk"
        refine op_modI (by decide) ?_
        refine tgt_sub ?_
        wtm_at "gk"
        refine ⟨p, _, _, 3, _, rfl, rfl, rfl, .here, ?_⟩
        wtm_at "gk"
        exact ⟨_, _, pos, wv, _, hp, hw, rfl, rfl⟩
    · exact ⟨_, _, pos, wv, s, hp, hw, rfl, rfl⟩
end
end Rk06

open PySem L2 TL
namespace Rk06
section
variable {P : Program} {w : World} {K : PySem.W.Frag} {mg : Str → Option Value} {base : Heap}
/-! machines, typed -/
def letS : Nat → Str
  | 0 => "a"
  | 1 => "b"
  | _ => "c"
abbrev lkey (l : Nat) : Key := Sum.inr (letS l)
abbrev Row := List (Option Nat)
def rowKf : Nat → Row → List (Key × V)
  | _, [] => []
  | i, some x :: r => (lkey i, .int (x : Nat)) :: rowKf (i + 1) r
  | i, none :: r => rowKf (i + 1) r
abbrev rowK (r : Row) : List (Key × V) := rowKf 0 r
structure Mac where
  tab : List Row
  last : List Nat
structure Mac.Ok (m : Mac) : Prop where
  pos : 0 < m.tab.length
  len : ∀ r ∈ m.tab, r.length ≤ 3
  lt : ∀ r ∈ m.tab, ∀ x, some x ∈ r → x < m.tab.length
  ends : ∀ e ∈ m.last, e < m.tab.length
  up : m.last.Pairwise (· < ·)
abbrev nV (n : Nat) : V := .int (n : Nat)
abbrev nD (n : Nat) : D := .v (nV n)
abbrev rowD (r : Row) : D := rowV (rowK r)
abbrev macR (Cr : Addr) (m : Mac) : D := .ob Cr [("table", .tup (m.tab.map rowD)), ("last", .tup (m.last.map nD))]
abbrev macD (Cm Cr : Addr) (m : Mac) : D := .ob Cm [("inner", macR Cr m)]
theorem rowKf_app : ∀ (r s : Row) (i : Nat), rowKf i (r ++ s) = rowKf i r ++ rowKf (i + r.length) s
  | [], s, i => rfl
  | some x :: r, s, i => by
    show (lkey i, _) :: rowKf (i + 1) (r ++ s) = (lkey i, _) :: rowKf (i + 1) r ++ _
    rw [rowKf_app r s (i + 1), List.length_cons, Nat.add_right_comm, Nat.add_assoc]
    rfl
  | none :: r, s, i => by
    show rowKf (i + 1) (r ++ s) = rowKf (i + 1) r ++ _
    rw [rowKf_app r s (i + 1), List.length_cons, Nat.add_right_comm, Nat.add_assoc]
/-- rows of at most three cells, one by one -/
theorem row_cases {P : Row → Prop} (h0 : P []) (h1 : ∀ a, P [a]) (h2 : ∀ a b, P [a, b]) (h3 : ∀ a b c, P [a, b, c]) {r : Row} (hl : r.length ≤ 3) : P r := by
  match r, hl with
  | [], _ => exact h0
  | [a], _ => exact h1 a
  | [a, b], _ => exact h2 a b
  | [a, b, c], _ => exact h3 a b c
  | _ :: _ :: _ :: _ :: _, h => simp at h
theorem lkey_dec : ∀ i j : Fin 3, decide (lkey i.val = lkey j.val) = decide (i.val = j.val) := by decide +kernel
theorem valV_cons (k k' : Key) (v : V) (l : List (Key × V)) : valV ((k', v) :: l) k = if decide (k' = k) = true then some v else valV l k := by
  unfold valV
  rw [List.find?_cons]
  cases decide (k' = k) <;> rfl
theorem valV_row {r : Row} (hl : r.length ≤ 3) {l : Nat} (h : l < 3) : valV (rowK r) (lkey l) = (r.getD l none).map nV := by
  have d := fun (i : Nat) (hi : i < 3) => lkey_dec ⟨i, hi⟩ ⟨l, h⟩
  have d0 := d 0 (by decide); have d1 := d 1 (by decide); have d2 := d 2 (by decide)
  simp only at d0 d1 d2
  have e : l = 0 ∨ l = 1 ∨ l = 2 := by omega
  refine row_cases (P := fun r => valV (rowK r) (lkey l) = (r.getD l none).map nV) ?_ ?_ ?_ ?_ hl
  · rfl
  · rintro (_ | a) <;> simp only [rowK, rowKf, valV_cons, d0] <;> rcases e with rfl | rfl | rfl <;> rfl
  · rintro (_ | a) (_ | b) <;> simp only [rowK, rowKf, valV_cons, d0, d1] <;> rcases e with rfl | rfl | rfl <;> rfl
  · rintro (_ | a) (_ | b) (_ | c) <;> simp only [rowK, rowKf, valV_cons, d0, d1, d2] <;> rcases e with rfl | rfl | rfl <;> rfl
theorem letK_eq : letK = [lkey 0, lkey 1, lkey 2] := rfl
theorem norm_row {r : Row} (hl : r.length ≤ 3) : normRow (rowK r) = rowK r := by
  refine row_cases (P := fun r => normRow (rowK r) = rowK r) ?_ ?_ ?_ ?_ hl
  · kernel_rfl
  · rintro (_ | a) <;> kernel_rfl
  · rintro (_ | a) (_ | b) <;> kernel_rfl
  · rintro (_ | a) (_ | b) (_ | c) <;> kernel_rfl
def rowLt (r : Row) (n : Nat) : Bool := r.all fun o => match o with | some x => decide (x < n) | none => true
theorem isLetter_l : isLetter (kV (lkey 0)) = true ∧ isLetter (kV (lkey 1)) = true ∧ isLetter (kV (lkey 2)) = true := by decide +kernel
theorem isWhole_n (x n : Nat) : isWhole (.int (x : Nat)) 0 ((n : Int) - 1) = decide (x < n) := by
  show (decide ((0 : Int) ≤ (x : Nat)) && decide (((x : Nat) : Int) ≤ (n : Int) - 1)) = _
  rw [decide_eq_true (show (0 : Int) ≤ (x : Nat) by omega), Bool.true_and]
  exact decide_eq_decide.mpr (by omega)
theorem lk_decs : (decide (lkey 0 = lkey 0) = true ∧ decide (lkey 0 = lkey 1) = false ∧ decide (lkey 0 = lkey 2) = false) ∧ (decide (lkey 1 = lkey 0) = false ∧ decide (lkey 1 = lkey 1) = true ∧ decide (lkey 1 = lkey 2) = false) ∧
    (decide (lkey 2 = lkey 0) = false ∧ decide (lkey 2 = lkey 1) = false ∧ decide (lkey 2 = lkey 2) = true) := by decide +kernel
theorem isRow_row {r : Row} (hl : r.length ≤ 3) (n : Nat) : isRow (rowK r) n = rowLt r n := by
  obtain ⟨l0, l1, l2⟩ := isLetter_l
  obtain ⟨⟨a0, a1, a2⟩, ⟨b0, b1, b2⟩, c0, c1, c2⟩ := lk_decs
  refine row_cases (P := fun r => isRow (rowK r) n = rowLt r n) ?_ ?_ ?_ ?_ hl
  · rfl
  · rintro (_ | a) <;> simp only [isRow, rowLt, rowK, rowKf, List.all_cons, List.all_nil, valV_cons, a0, a1, a2, b0, b1, b2, c0, c1, c2, l0, l1, l2, Bool.true_and, Bool.and_true, Bool.false_eq_true, ↓reduceIte, Option.getD_some, isWhole_n, decide_true, Nat.reduceAdd, Nat.zero_add]
  · rintro (_ | a) (_ | b) <;> simp only [isRow, rowLt, rowK, rowKf, List.all_cons, List.all_nil, valV_cons, a0, a1, a2, b0, b1, b2, c0, c1, c2, l0, l1, l2, Bool.true_and, Bool.and_true, Bool.false_eq_true, ↓reduceIte, Option.getD_some, isWhole_n, decide_true, Nat.reduceAdd, Nat.zero_add]
  · rintro (_ | a) (_ | b) (_ | c) <;> simp only [isRow, rowLt, rowK, rowKf, List.all_cons, List.all_nil, valV_cons, a0, a1, a2, b0, b1, b2, c0, c1, c2, l0, l1, l2, Bool.true_and, Bool.and_true, Bool.false_eq_true, ↓reduceIte, Option.getD_some, isWhole_n, decide_true, Nat.reduceAdd, Nat.zero_add]
theorem row_scal (r : Row) : ∀ (i : Nat), ∀ kv ∈ rowKf i r, scalV kv.2 = true := by
  induction r with
  | nil => intro i kv h; cases h
  | cons o r ih =>
    intro i kv h
    cases o with
    | none => exact ih (i + 1) kv h
    | some x =>
      rcases List.mem_cons.mp h with rfl | h
      · rfl
      · exact ih (i + 1) kv h
theorem row_len (r : Row) : ∀ i : Nat, (rowKf i r).length ≤ r.length := by
  induction r with
  | nil => intro i; exact Nat.le_refl _
  | cons o r ih =>
    intro i
    have := ih (i + 1)
    cases o with
    | none => exact Nat.le_trans this (Nat.le_succ _)
    | some x => exact Nat.succ_le_succ this
end
end Rk06

open PySem L2 TL
namespace Rk06
section
variable {P : Program} {w : World} {K : PySem.W.Frag} {mg : Str → Option Value} {base : Heap}
/-! the law's own machines -/
abbrev lawD (m : Mac) : List D := [.lst (m.tab.map rowD), .lst (m.last.map nD)]
structure Drawn (many nl : Nat) (m : Mac) : Prop where
  ok : m.Ok
  many : m.tab.length = many
  wide : ∀ r ∈ m.tab, r.length = nl
  some : m.last ≠ []
def abS : Nat → Str
  | 2 => "ab"
  | _ => "abc"
abbrev rowE (r : Row) : List (Key × D) := (rowK r).map fun kv => (kv.1, D.v kv.2)
def spLMach : Prm := fun ds L KK KE => ∃ (p : Addr) (ns : List Int) (pos w s : Int) (many nl : Nat), ds = [.ref p, nD many, .str (abS nl)] ∧ (nl = 2 ∨ nl = 3) ∧ L = [(p, .lst (cellD ns pos w s))] ∧ 0 ≤ pos ∧ 0 ≤ w ∧ 0 < many ∧ many ≤ 6 ∧
  ∀ m q pos' w' s', Drawn many nl m → 0 ≤ pos' → 0 ≤ w' → KK (.ref q) [(q, .lst (lawD m)), (p, .lst (cellD ns pos' w' s'))]
theorem draw_sp {KK : D → Led → Prop} {KE : EX → Led → Prop} (ns : List Int) (p : Addr) (pos wv s : Int) (size : Int) (h1 : 0 ≤ pos) (h2 : 0 ≤ wv) (h3 : 0 < size) (h4 : size < 1000) (h5 : ∀ r pos' wv' s', 0 ≤ r → r < size → 0 ≤ pos' → 0 ≤ wv' → KK (.int r) [(p, .lst (cellD ns pos' wv' s'))]) :
    spDraw [.ref p, .int size] [(p, .lst (cellD ns pos wv s))] KK KE := ⟨p, ns, pos, wv, s, size, rfl, rfl, h1, h2, h3, h4, h5⟩
theorem putE_row {r : Row} (h : r.length < 3) (x : Nat) : putE (rowE r) (lkey r.length) (nD x) = rowE (r ++ [some x]) := by
  rw [putE_new]
  · show _ = List.map _ (rowKf 0 (r ++ [some x]))
    rw [rowKf_app, List.map_append, Nat.zero_add]
    rfl
  · intro hm
    rw [List.map_map] at hm
    have e : valV (rowK r) (lkey r.length) = none := by
      rw [valV_row (by omega) h]
      simp
    obtain ⟨kv, hkv, ek⟩ := List.mem_map.mp hm
    unfold valV at e
    rw [Option.map_eq_none_iff, List.find?_eq_none] at e
    exact e kv hkv (by simpa using ek)
theorem rowE_none (r : Row) : rowE (r ++ [none]) = rowE r := by
  show List.map _ (rowKf 0 (r ++ [none])) = _
  rw [rowKf_app]
  show List.map _ (rowKf 0 r ++ []) = _
  rw [List.append_nil]
theorem ok_lmach {f : Addr} {fd : FuncData} (FF : Fun K "_law_machine" "_law_machine" s__law_machine f fd) (B : Bi mg) (g1 : Glob P w K mg base "_law_draw" ["_law_draws", "_law_size"] spDraw 1) : Def P w K mg base 2 f fd ["_law_draws", "_law_many", "_law_letters"] spLMach := by
  refine def_ok FF sc__law_machine ?_ ?_
  · rintro ds L KK KE ⟨p, ns, pos, w, s, many, nl, rfl, _⟩
    rfl
  · rintro ds L KK KE ⟨p, ns, pos, wv, s, many, nl, rfl, hnl, rfl, hp, hw, hm0, hm6, hk⟩ H0 F0
    wtm_at "bg"
    have lets : (abS nl).cps.toList.map (fun c => D.str ⟨#[c]⟩) = (List.range nl).map fun l => D.str (letS l) := by
      rcases hnl with rfl | rfl <;> rfl
    have hnl3 : nl ≤ 3 := by omega
    wtm_at "gk"
    · exact Nat.zero_le _
    intro pr
    refine ⟨_, by wtm_at "pt", ?_⟩
    refine run_for rfl rfl (ei_rng1 (by wtm_at "gl") (by wtm_at "bi") ?_)
    wtm_at "ev"
    refine ⟨_, rfl, by omega, by omega, ?_⟩
    refine for_map (List.range many) (fun k => nD k) (rng0 many) (fun i G' L' => ∃ (a b c : Option D) (tab : List Row) (pos w s : Int), G' = [some (.ref p), some (nD many), some (.str (abS nl)), some (.ref pr), a, b, c, none] ∧
      L' = [(pr, .lst (tab.map rowD)), (p, .lst (cellD ns pos w s))] ∧ 0 ≤ pos ∧ 0 ≤ w ∧ tab.length = i ∧ (∀ r ∈ tab, r.length = nl ∧ ∀ x, some x ∈ r → x < many)) ⟨_, _, _, [], _, _, _, rfl, rfl, hp, hw, rfl, fun _ h => nomatch h⟩ (fun _ _ _ _ _ h => nomatch h) ?_ ?_
    · rintro F1 i x G' L' hx hlt ⟨a, b, c, tab, pos, wv, s, rfl, rfl, hp, hw, htl, htab⟩
      rw [List.length_range] at hlt
      refine tgt_name (by wtm_at "loc") (by wtm_at "pt") ?_
      wtm_at "gk"
      refine ev_dnew fun pd => ?_
      refine ⟨_, by wtm_at "pt", ?_⟩
      refine run_for rfl rfl (ei_str ?_)
      wtm_at "gk"
      rw [lets]
      refine for_map (List.range nl) (fun l => .str (letS l)) rfl (fun l G' L' => ∃ (c : Option D) (r : Row) (pos w s : Int), G' = [some (.ref p), some (nD many), some (.str (abS nl)), some (.ref pr), some (nD x), some (.ref pd), c, none] ∧
        L' = [(pd, .dK (rowE r)), (pr, .lst (tab.map rowD)), (p, .lst (cellD ns pos w s))] ∧ 0 ≤ pos ∧ 0 ≤ w ∧ r.length = l ∧ ∀ x, some x ∈ r → x < many) ⟨_, [], _, _, _, rfl, rfl, hp, hw, rfl, fun _ h => nomatch h⟩ (fun _ _ _ _ _ h => nomatch h) ?_ ?_
      · rintro F2 l y G' L' hy hlt2 ⟨c, r, pos, wv, s, rfl, rfl, hp, hw, hrl, hr⟩
        rw [List.length_range] at hlt2
        obtain ⟨hlt3, ey⟩ := List.getElem?_eq_some_iff.mp hy
        rw [List.getElem_range] at ey
        subst ey
        refine tgt_name (by wtm_at "loc") (by wtm_at "pt") ?_
        wtm_at "gk"
        refine calls_3 (draw_sp ns p _ _ _ 4 hp hw (by decide) (by decide) fun q pos' wv' s' hq0 hq1 hp' hw' => ?_)
        wtm_at "gk"
        · refine run_dput rfl ?_
          wtm_at "gk"
          refine calls_3 (draw_sp ns p _ _ _ (many : Nat) hp' hw' (by omega) (by omega) fun q2 pos2 wv2 s2 hq20 hq21 hp2 hw2 => ?_)
          wtm_at "gk"
          obtain ⟨z, rfl⟩ : ∃ z : Nat, q2 = (z : Nat) := ⟨q2.toNat, by omega⟩
          refine ⟨pd, _, lkey l, _, rfl, rfl, .here, ?_, ?_⟩
          · have : (rowK r).length ≤ r.length := row_len r 0
            rw [List.length_map]
            exact sz_lt (by omega)
          · have e := putE_row (r := r) (by omega) z
            rw [hrl] at e
            rw [e]
            wtm_at "gk"
            exact ⟨_, r ++ [some z], _, _, _, rfl, rfl, hp2, hw2, by simp [hrl], fun x hx => by
              rcases List.mem_append.mp hx with hx | hx
              · exact hr x hx
              · have := List.mem_singleton.mp hx
                cases this
                omega⟩
        · exact ⟨_, r ++ [none], _, _, _, rfl, by rw [rowE_none]; rfl, hp', hw', by simp [hrl], fun x hx => by
            rcases List.mem_append.mp hx with hx | hx
            · exact hr x hx
            · exact absurd (List.mem_singleton.mp hx) (by simp)⟩
      · rintro G' L' ⟨c, r, pos, wv, s, rfl, rfl, hp, hw, hrl, hr⟩
        rw [List.length_range] at hrl
        refine run_frz (x := "_law_row_here") (by wtm_at "lk") .here (by wtm_at "pt") ?_
        wtm_at "gk"
        refine ev_append ?_
        wtm_at "gk"
        refine ⟨pr, _, rfl, .head _, ?_⟩
        wtm_at "gk"
        refine ⟨_, _, .here, by rw [List.length_map]; exact sz_lt (by omega), ?_⟩
        wtm_at "gk"
        refine ⟨_, _, _, tab ++ [r], pos, wv, s, rfl, ?_, hp, hw, by simp [htl], fun r' hr' => ?_⟩
        · rw [List.map_append]
          rfl
        · rcases List.mem_append.mp hr' with h | h
          · exact htab r' h
          · rw [List.mem_singleton.mp h]
            exact ⟨hrl, hr⟩
    · rintro G' L' ⟨a, b, c, tab, pos, wv, s, rfl, rfl, hp, hw, htl, htab⟩
      rw [List.length_range] at htl
      refine run_frz (x := "_law_rows") (by wtm_at "lk") .here (by wtm_at "pt") ?_
      have fin : ∀ (a b c : Option D) (es : List Nat) (pos wv s : Int) (pe : Addr), 0 ≤ pos → 0 ≤ wv → es ≠ [] → es.Pairwise (· < ·) → (∀ e ∈ es, e < many) →
          Run ⟨ctxOf P w K mg base ["_law_draws", "_law_many", "_law_letters", "_law_rows", "_law_k", "_law_row_here", "_law_letter", "_law_ends"] s__law_machine 1, H0, F0, fun ex _ L' => KE ex L'⟩ [some (.ref p), some (nD many), some (.str (abS nl)), some (.lst (tab.map rowD)), a, b, c, some (.ref pe)] [(pe, .lst (es.map nD)), (p, .lst (cellD ns pos wv s))] ((defBody s__law_machine).drop 4) ⟨fun _ L' => KK .non L', KK, fun _ _ => False, fun _ _ => False⟩ := by
        intro a b c es pos wv s pe hp hw he1 he2 he3
        refine run_frz (x := "_law_ends") (by wtm_at "lk") .here (by wtm_at "pt") ?_
        wtm_at "gk"
        · exact Nat.le_of_ble_eq_true rfl
        intro q
        refine hk ⟨tab, es⟩ q pos wv s ⟨⟨by show 0 < tab.length; omega, fun r hr => by rw [(htab r hr).1]; omega, fun r hr x hx => ?_, fun e he => ?_, he2⟩, htl, fun r hr => (htab r hr).1, he1⟩ hp hw
        · show x < tab.length
          rw [htl]
          exact (htab r hr).2 x hx
        · show e < tab.length
          rw [htl]
          exact he3 e he
      refine run_setlc [("_law_k", 4)] rfl (by kernel_rfl) (by wtm_at "mem") (by kernel_rfl) (ei_rng1 (by wtm_at "gl") (by wtm_at "bi") ?_) rfl rfl rfl
      wtm_at "ev"
      refine ⟨_, rfl, by omega, by omega, ?_⟩
      refine lc_inv (List.range many) (fun k => nD k) (rng0 many) (fun i acc L' => ∃ (es : List Nat) (pos w s : Int), acc = es.map nD ∧ L' = [(p, .lst (cellD ns pos w s))] ∧ 0 ≤ pos ∧ 0 ≤ w ∧ es.Pairwise (· < ·) ∧ (∀ e ∈ es, e < i) ∧ es.length ≤ i ∧ i ≤ many) ⟨[], _, _, _, rfl, rfl, hp, hw, .nil, (fun _ h => nomatch h), Nat.le_refl _, Nat.zero_le _⟩ ?_ ?_ ?_
      · rintro i acc L' ⟨es, pos, wv, s, rfl, rfl, _, _, _, _, h1, h2⟩
        exact ⟨(fun _ h => nomatch h), by rw [List.length_map]; exact sz_lt (by omega)⟩
      · rintro F1 Dl i x acc L' hx hlt ⟨es, pos, wv, s, rfl, rfl, hp, hw, h1, h2, h3, h4⟩
        obtain ⟨hlt3, ey⟩ := List.getElem?_eq_some_iff.mp hx
        rw [List.getElem_range] at ey
        subst ey
        rw [List.length_range] at hlt
        refine tn_name (i := 4) (by wtm_at "loc") rfl (List.mem_singleton.mpr rfl) ?_
        wtm_at "wz"
        show TL.Tst _ _ _ _ _
        wtm_at "gk"
        refine calls_2 (draw_sp ns p _ _ _ 3 hp hw (by decide) (by decide) fun q pos' wv' s' hq0 hq1 hp' hw' => ?_)
        wtm_at "gk"
        · refine ⟨_, List.Sublist.refl _, es ++ [i], _, _, _, by rw [List.map_append]; rfl, rfl, hp', hw', List.pairwise_append.mpr ⟨h1, List.pairwise_singleton _ _, fun a ha b hb => by rw [List.mem_singleton.mp hb]; exact h2 a ha⟩, fun e he => ?_, by simp; omega, hlt⟩
          rcases List.mem_append.mp he with he | he
          · have := h2 e he
            omega
          · rw [List.mem_singleton.mp he]
            omega
        · exact ⟨_, List.Sublist.refl _, es, _, _, _, rfl, rfl, hp', hw', h1, fun e he => Nat.lt_succ_of_lt (h2 e he), by omega, hlt⟩
      · rintro acc L' ⟨es, pos, wv, s, rfl, rfl, hp, hw, h1, h2, h3, h4⟩ pe
        rw [List.length_range] at h2
        refine ⟨_, by wtm_at "pt", ?_⟩
        wtm_at "gn"
        · exact Nat.le_of_ble_eq_true rfl
        · intro pe2
          refine ⟨_, by wtm_at "pt", ?_⟩
          refine run_nil ?_
          have e : ((many : Nat) : Int) - 1 = ((many - 1 : Nat) : Int) := by omega
          rw [e]
          refine run_drop (L' := [(pe2, .lst ([many - 1].map nD)), (p, .lst (cellD ns pos wv s))]) ((List.sublist_cons_self _ _).cons_cons _) ?_
          exact fin _ _ _ [many - 1] pos wv s pe2 hp hw (List.cons_ne_nil _ _) (List.pairwise_singleton _ _) fun e he => by rw [List.mem_singleton.mp he]; omega
        · rename_i hb
          refine fin _ _ _ es pos wv s pe hp hw ?_ h1 h2
          rintro rfl
          simp at hb
end
end Rk06

open PySem L2 TL
namespace Rk06
section
variable {P : Program} {w : World} {K : PySem.W.Frag} {mg : Str → Option Value} {base : Heap}
/-! Machine's rows and ends, the law's making, the writing -/
def spRows (Cm Cr : Addr) : Prm := fun ds L KK KE => ∃ m : Mac, ds = [macD Cm Cr m] ∧ m.tab.length < 1000 ∧ L = [] ∧ KK (.tup (m.tab.map rowD)) []
theorem ok_rows {f Cm Cr : Addr} {fd : FuncData} (FF : Fun K "rows" "Machine.rows" s_Machine_rows f fd) (B : Bi mg) (cM : Cls K Cm) (cR : Cls K Cr) (nI : NoAttr K Cm "inner") (nT : NoAttr K Cr "table") : Def P w K mg base 1 f fd ["self"] (spRows Cm Cr) := by
  refine def_ok FF sc_Machine_rows ?_ ?_
  · rintro ds L KK KE ⟨m, rfl, _⟩
    rfl
  · rintro ds L KK KE ⟨m, rfl, hl, rfl, hk⟩ H0 F0
    wtm_at "bg"
    wtm_at "go"
    refine ev_lc [("row", 1)] rfl (by kernel_rfl) (ei_tup ?_)
    wtm_at "go"
    refine lc_all m.tab rowD rowD rfl (sz_lt (by omega)) (fun _ h => nomatch h) ?_ ?_
    · intro F1 Dl r acc hr
      refine tn_name (i := 1) (by wtm_at "loc") rfl (List.mem_singleton.mpr rfl) ?_
      wtm_at "wz"
      refine ev_frz ?_
      wtm_at "go"
      exact fun p => ⟨_, _, _, rfl, .here, rfl, List.Sublist.refl _⟩
    · intro Dl
      wtm_at "go"
def spEndsM (Cm Cr : Addr) : Prm := fun ds L KK KE => ∃ m : Mac, ds = [macD Cm Cr m] ∧ L = [] ∧ KK (.tup (m.last.map nD)) []
theorem ok_endsm {f Cm Cr : Addr} {fd : FuncData} (FF : Fun K "ends" "Machine.ends" s_Machine_ends f fd) (B : Bi mg) (cM : Cls K Cm) (cR : Cls K Cr) (nI : NoAttr K Cm "inner") (nL : NoAttr K Cr "last") : Def P w K mg base 1 f fd ["self"] (spEndsM Cm Cr) := by
  refine def_ok FF sc_Machine_ends ?_ ?_
  · rintro ds L KK KE ⟨m, rfl, _⟩
    rfl
  · rintro ds L KK KE ⟨m, rfl, rfl, hk⟩ H0 F0
    wtm_at "bg"
    wtm_at "go"
theorem rises_pw : ∀ l : List Nat, l.Pairwise (· < ·) → risesI (l.map fun n => ((n : Nat) : Int)) = true
  | [], _ => rfl
  | [_], _ => rfl
  | a :: b :: r, h => by
    show (decide (((a : Nat) : Int) < ((b : Nat) : Int)) && risesI ((b :: r).map fun n => ((n : Nat) : Int))) = true
    rw [rises_pw (b :: r) (List.Pairwise.of_cons h), Bool.and_true]
    have := List.rel_of_pairwise_cons h (List.mem_cons_self (a := b))
    exact decide_eq_true (by omega)
theorem ok_isMach {m : Mac} (h : m.Ok) : isMach (m.tab.map rowK) (m.last.map nV) = true := by
  unfold isMach
  simp only [Bool.and_eq_true]
  have hl : (m.tab.map rowK).length = m.tab.length := List.length_map _
  refine ⟨⟨⟨?_, ?_⟩, ?_⟩, ?_⟩
  · cases e : m.tab with
    | nil => have := h.pos; rw [e] at this; cases this
    | cons r rs => rfl
  · rw [hl, List.all_map]
    refine List.all_eq_true.mpr fun r hr => ?_
    show isRow (rowK r) _ = true
    rw [isRow_row (h.len r hr)]
    unfold rowLt
    refine List.all_eq_true.mpr fun o ho => ?_
    cases o with
    | none => rfl
    | some x => exact decide_eq_true (h.lt r hr x ho)
  · rw [hl, List.all_map]
    refine List.all_eq_true.mpr fun e he => ?_
    show isWhole (.int (e : Nat)) 0 ((m.tab.length : Int) - 1) = true
    rw [isWhole_n]
    exact decide_eq_true (h.ends e he)
  · have e : (m.last.map nV).map natV = m.last.map fun n => ((n : Nat) : Int) := by
      rw [List.map_map]
      rfl
    rw [e]
    exact rises_pw _ h.up
theorem ok_rowsOk {m : Mac} (h : m.Ok) (hl : m.tab.length < 1000) : RowsOk (m.tab.map rowK) := by
  refine ⟨by rw [List.length_map]; exact hl, fun r hr => ?_⟩
  obtain ⟨q, hq, rfl⟩ := List.mem_map.mp hr
  have h1 : (rowK q).length ≤ q.length := row_len q 0
  have h2 := h.len q hq
  exact ⟨row_scal q 0, by omega⟩
theorem norm_tab {m : Mac} (h : ∀ r ∈ m.tab, r.length ≤ 3) : (m.tab.map rowK).map (fun r => rowV (normRow r)) = m.tab.map rowD := by
  rw [List.map_map]
  refine List.map_congr_left fun r hr => ?_
  show rowV (normRow (rowK r)) = rowV (rowK r)
  rw [norm_row (h r hr)]
theorem rdr_mac (Cr : Addr) {m : Mac} (h : ∀ r ∈ m.tab, r.length ≤ 3) : rdrD Cr (m.tab.map rowK) (m.last.map nV) = macR Cr m := by
  unfold rdrD
  rw [norm_tab h, List.map_map]
  rfl
theorem last_len {m : Mac} (h : m.Ok) : m.last.length ≤ m.tab.length := by
  have go : ∀ (n : Nat) (l : List Nat) (k : Nat), l.Pairwise (· < ·) → (∀ e ∈ l, k ≤ e ∧ e < k + n) → l.length ≤ n := by
    intro n
    induction n with
    | zero =>
      intro l k _ hb
      cases l with
      | nil => exact Nat.le_refl _
      | cons a r => have := hb a List.mem_cons_self; omega
    | succ n ih =>
      intro l k hp hb
      cases l with
      | nil => exact Nat.zero_le _
      | cons a r =>
        have ha := hb a List.mem_cons_self
        refine Nat.succ_le_succ (ih r (k + 1) (List.Pairwise.of_cons hp) fun e he => ?_)
        have h1 := List.rel_of_pairwise_cons hp he
        have h2 := hb e (List.mem_cons_of_mem _ he)
        omega
  refine go m.tab.length m.last 0 h.up fun e he => ⟨Nat.zero_le _, ?_⟩
  rw [Nat.zero_add]
  exact h.ends e he
/-- Machine(rows, ends) of a typed machine -/
theorem minit_mac {Cm Cr CB l : Addr} {m : Mac} (h : m.Ok) (h6 : m.tab.length ≤ 6) {KK : D → Led → Prop} {KE : EX → Led → Prop} (hk : KK .non [(l, .ins Cm [("inner", macR Cr m)])]) :
    spMInit Cm Cr CB [.ref l, .tup (m.tab.map rowD), .tup (m.last.map nD)] [(l, .ins Cm [])] KK KE := by
  have hl := last_len h
  refine ⟨l, _, _, rfl, rfl, .inr (.inl ⟨m.tab.map rowK, m.last.map nV, by rw [List.map_map]; rfl, by rw [List.map_map]; rfl, ok_rowsOk h (by omega), ?_, by rw [List.length_map]; omega, ok_isMach h, by rw [List.length_map]; exact h6, ?_⟩)⟩
  · intro x hx
    obtain ⟨n, _, rfl⟩ := List.mem_map.mp hx
    rfl
  · rw [rdr_mac Cr h.len]
    exact hk
def spMake (Cm Cr : Addr) : Prm := fun ds L KK KE => ∃ m : Mac, ds = [.lst (lawD m)] ∧ m.Ok ∧ m.tab.length ≤ 6 ∧ L = [] ∧ KK (macD Cm Cr m) []
theorem ok_make {f Cm Cr CB : Addr} {fd : FuncData} (FF : Fun K "_law_make" "_law_make" s__law_make f fd) (B : Bi mg) (g : Cla P w K mg base "Machine" Cm ["self", "rows", "ends"] (spMInit Cm Cr CB) 4) : Def P w K mg base 6 f fd ["_law_machine_here"] (spMake Cm Cr) := by
  refine def_ok FF sc__law_make ?_ ?_
  · rintro ds L KK KE ⟨m, rfl, _⟩
    rfl
  · rintro ds L KK KE ⟨m, rfl, h, h6, rfl, hk⟩ H0 F0
    wtm_at "bg"
    refine run_ret0 (ev_frz ?_)
    wtm_at "go"
    refine ix_L .frz (at_nat (j := 0) rfl rfl) ?_
    wtm_at "go"
    refine ix_L .frz (at_nat (j := 1) rfl rfl) ?_
    wtm_at "go"
    intro l
    refine calls_1 (minit_mac h h6 ⟨rfl, _, _, _, rfl, .here, hk⟩)
end
end Rk06

open PySem L2 TL
namespace Rk06
section
variable {P : Program} {w : World} {K : PySem.W.Frag} {mg : Str → Option Value} {base : Heap}
/-- a text's lines, read -/
def readL (lines : List Str) : Int ⊕ (RowL × List Int) :=
  match endsOf (lines.getD 0 Str.empty) (max (min ((lines.length : Int) - 1) 6) 1) with
  | none => .inl 1
  | some es => match readRows (min ((lines.length : Int) - 1) 6) 0 (lines.drop 1) [] with
    | .inl n => .inl n
    | .inr [] => .inl 2
    | .inr (r :: rs) => .inr (r :: rs, es)
def nlOk (l : Str) : Bool := !(l.cps.toList.contains 10) && decide (l.length ≤ 100) && rowWords l
theorem join_len (ls : List Str) (h : ∀ l ∈ ls, l.length ≤ 100) : (Txt.join "\n" ls).length ≤ ls.length * 101 := by
  have go : ∀ ps : List (List Nat), (∀ p ∈ ps, p.length ≤ 100) → (TL.joinL (tl "\n") ps).length ≤ ps.length * 101 := by
    intro ps
    induction ps with
    | nil => intro _; exact Nat.zero_le _
    | cons p ps ih =>
      intro hp
      have h1 := hp p List.mem_cons_self
      have h2 := ih fun q hq => hp q (List.mem_cons_of_mem _ hq)
      cases ps with
      | nil =>
        show p.length ≤ _
        simp only [List.length_cons, List.length_nil]
        omega
      | cons q r =>
        have e : TL.joinL (tl "\n") (p :: q :: r) = p ++ (tl "\n" ++ TL.joinL (tl "\n") (q :: r)) := rfl
        have hn : (tl "\n").length = 1 := by decide +kernel
        rw [e, List.length_append, List.length_append, hn]
        simp only [List.length_cons] at h2 ⊢
        omega
  have e2 : (Txt.join "\n" ls).length = (tl (Txt.join "\n" ls)).length := (strLen _).symm
  rw [e2, join_eq, tl_join]
  have := go (ls.map tl) fun p hp => by
    obtain ⟨l, hl, rfl⟩ := List.mem_map.mp hp
    have := h l hl
    rw [← strLen] at this
    exact this
  rwa [List.length_map] at this
theorem split_nl {ls : List Str} (hne : ls ≠ []) (h : ∀ l ∈ ls, nlOk l = true) : Txt.split (Txt.join "\n" ls) "\n" = ls := by
  refine split_join (s := 10) (S := []) (by decide +kernel) (by decide +kernel) hne fun p hp hm => ?_
  have := h p hp
  unfold nlOk at this
  simp only [Bool.and_eq_true, Bool.not_eq_true'] at this
  have h1 := this.1.1
  rw [← Bool.not_eq_true] at h1
  exact h1 (by simpa using hm)
theorem text_nl {ls : List Str} (hne : ls ≠ []) (hl : ls.length ≤ 20) (h : ∀ l ∈ ls, nlOk l = true) : textOk (Txt.join "\n" ls) = true := by
  unfold textOk
  rw [split_nl hne h]
  simp only [Bool.and_eq_true, decide_eq_true_eq, List.all_eq_true]
  have hh : ∀ l ∈ ls, l.length ≤ 100 ∧ rowWords l = true := fun l hlm => by
    have := h l hlm
    unfold nlOk at this
    simp only [Bool.and_eq_true, decide_eq_true_eq] at this
    exact ⟨this.1.2, this.2⟩
  refine ⟨⟨⟨?_, ?_⟩, by omega⟩, fun l hlm => (hh l hlm).2⟩
  · have := join_len ls fun l hlm => (hh l hlm).1
    omega
  · exact List.length_pos_iff.mpr hne
theorem read_nl {ls : List Str} (hne : ls ≠ []) (h : ∀ l ∈ ls, nlOk l = true) : readM (Txt.join "\n" ls) = readL ls := by
  unfold readM
  rw [split_nl hne h]
  rfl
theorem joinS_len (ls : List Str) (h : ∀ l ∈ ls, l.length ≤ 4) : (Txt.join " " ls).length ≤ ls.length * 5 := by
  have go : ∀ ps : List (List Nat), (∀ p ∈ ps, p.length ≤ 4) → (TL.joinL (tl " ") ps).length ≤ ps.length * 5 := by
    intro ps
    induction ps with
    | nil => intro _; exact Nat.zero_le _
    | cons p ps ih =>
      intro hp
      have h1 := hp p List.mem_cons_self
      have h2 := ih fun q hq => hp q (List.mem_cons_of_mem _ hq)
      cases ps with
      | nil =>
        show p.length ≤ _
        simp only [List.length_cons, List.length_nil]
        omega
      | cons q r =>
        have e : TL.joinL (tl " ") (p :: q :: r) = p ++ (tl " " ++ TL.joinL (tl " ") (q :: r)) := rfl
        have hn : (tl " ").length = 1 := by decide +kernel
        rw [e, List.length_append, List.length_append, hn]
        simp only [List.length_cons] at h2 ⊢
        omega
  have e2 : (Txt.join " " ls).length = (tl (Txt.join " " ls)).length := (strLen _).symm
  rw [e2, join_eq, tl_join]
  have := go (ls.map tl) fun p hp => by
    obtain ⟨l, hl, rfl⟩ := List.mem_map.mp hp
    have := h l hl
    rw [← strLen] at this
    exact this
  rwa [List.length_map] at this
theorem split_sp {ws : List Str} (hne : ws ≠ []) (h : ∀ l ∈ ws, l.cps.toList.contains 32 = false) : Txt.split (Txt.join " " ws) " " = ws := by
  refine split_join (s := 32) (S := []) (by decide +kernel) (by decide +kernel) hne fun p hp hm => ?_
  have := h p hp
  rw [← Bool.not_eq_true] at this
  exact this (by simpa using hm)
end
end Rk06

open PySem L2 TL
namespace Rk06
section
variable {P : Program} {w : World} {K : PySem.W.Frag} {mg : Str → Option Value} {base : Heap}
/-! the writing -/
abbrev natS (n : Nat) : Str := (toString ((n : Nat) : Int) : Str)
abbrev partS (l x : Nat) : Str := Str.empty ++ letS l ++ " " ++ natS x
def partsWf : Nat → Row → List Str
  | _, [] => []
  | i, some x :: r => partS i x :: partsWf (i + 1) r
  | i, none :: r => partsWf (i + 1) r
def endsLine (m : Mac) : Str := Txt.join " " ("ends" :: m.last.map natS)
def rowLine (k : Nat) (r : Row) : Str := Txt.join " " (natS k :: partsWf 0 r)
def linesFrom : Nat → List Row → List Str
  | _, [] => []
  | k, r :: rs => rowLine k r :: linesFrom (k + 1) rs
def linesM (m : Mac) : List Str := endsLine m :: linesFrom 0 m.tab
theorem linesFrom_app : ∀ (rs ss : List Row) (k : Nat), linesFrom k (rs ++ ss) = linesFrom k rs ++ linesFrom (k + rs.length) ss
  | [], ss, k => rfl
  | r :: rs, ss, k => by
    show rowLine k r :: linesFrom (k + 1) (rs ++ ss) = rowLine k r :: linesFrom (k + 1) rs ++ _
    rw [linesFrom_app rs ss (k + 1), List.length_cons, Nat.add_right_comm, Nat.add_assoc]
    rfl
theorem linesFrom_len : ∀ (rs : List Row) (k : Nat), (linesFrom k rs).length = rs.length
  | [], _ => rfl
  | r :: rs, k => by
    show (linesFrom (k + 1) rs).length + 1 = _
    rw [linesFrom_len rs (k + 1)]
    rfl
theorem natS_len {n : Nat} (h : n ≤ 20) : (natS n).length ≤ 2 := by
  have f : ∀ i : Fin 21, (natS i.val).length ≤ 2 := by decide +kernel
  exact f ⟨n, by omega⟩
theorem letS_len (l : Nat) : (letS l).length = 1 := by
  match l with
  | 0 => rfl
  | 1 => rfl
  | n + 2 => rfl
theorem part_len (l : Nat) {x : Nat} (h : x ≤ 20) : (partS l x).length ≤ 4 := by
  have h1 := letS_len l
  have h2 := natS_len h
  have h3 : (Str.empty : Str).length = 0 := rfl
  have h4 : (" " : Str).length = 1 := rfl
  unfold partS
  rw [app_len, app_len, app_len]
  omega
theorem parts_all (r : Row) (n : Nat) (hn : n ≤ 20) (h : ∀ x, some x ∈ r → x < n) : ∀ i : Nat, ∀ z ∈ partsWf i r, z.length ≤ 4 := by
  induction r with
  | nil => intro i z hz; cases hz
  | cons o r ih =>
    intro i z hz
    have ih' := ih fun x hx => h x (List.mem_cons_of_mem _ hx)
    cases o with
    | none => exact ih' (i + 1) z hz
    | some x =>
      rcases List.mem_cons.mp hz with rfl | hz
      · have := part_len i (x := x) (by have := h x List.mem_cons_self; omega)
        omega
      · exact ih' (i + 1) z hz
theorem parts_len (r : Row) : ∀ i : Nat, (partsWf i r).length ≤ r.length := by
  induction r with
  | nil => intro i; exact Nat.le_refl _
  | cons o r ih =>
    intro i
    have := ih (i + 1)
    cases o with
    | none => exact Nat.le_trans this (Nat.le_succ _)
    | some x => exact Nat.succ_le_succ this
theorem rowLine_len {k : Nat} {r : Row} {n : Nat} (hk : k ≤ 20) (hn : n ≤ 20) (h : ∀ x, some x ∈ r → x < n) (hr : r.length ≤ 3) : (rowLine k r).length ≤ 20 := by
  unfold rowLine
  have h1 := natS_len hk
  have := joinS_len (natS k :: partsWf 0 r) fun z hz => by
    rcases List.mem_cons.mp hz with rfl | hz
    · omega
    · exact parts_all r n hn h 0 z hz
  have h2 := parts_len r 0
  rw [List.length_cons] at this
  omega
theorem endsLine_len {m : Mac} (h : m.Ok) (h6 : m.tab.length ≤ 6) : (endsLine m).length ≤ 35 := by
  unfold endsLine
  have h1 := last_len h
  have := joinS_len ("ends" :: m.last.map natS) fun z hz => by
    rcases List.mem_cons.mp hz with rfl | hz
    · decide
    · obtain ⟨e, he, rfl⟩ := List.mem_map.mp hz
      have := natS_len (n := e) (by have := h.ends e he; omega)
      omega
  rw [List.length_cons, List.length_map] at this
  omega
theorem linesFrom_all {n : Nat} (hn : n ≤ 20) : ∀ (rs : List Row) (k : Nat), (∀ r ∈ rs, r.length ≤ 3 ∧ ∀ x, some x ∈ r → x < n) → k + rs.length ≤ 20 → ∀ z ∈ linesFrom k rs, z.length ≤ 20
  | [], _, _, _, z, hz => by cases hz
  | r :: rs, k, h, hk, z, hz => by
    rw [List.length_cons] at hk
    obtain ⟨h1, h2⟩ := h r List.mem_cons_self
    rcases List.mem_cons.mp hz with rfl | hz
    · exact rowLine_len (by omega) hn h2 h1
    · exact linesFrom_all hn rs (k + 1) (fun r' hr' => h r' (List.mem_cons_of_mem _ hr')) (by omega) z hz
theorem linesM_all {m : Mac} (h : m.Ok) (h6 : m.tab.length ≤ 6) : ∀ z ∈ linesM m, z.length ≤ 35 := by
  intro z hz
  rcases List.mem_cons.mp hz with rfl | hz
  · exact endsLine_len h h6
  · have := linesFrom_all (n := m.tab.length) (by omega) m.tab 0 (fun r hr => ⟨h.len r hr, h.lt r hr⟩) (by omega) z hz
    omega
theorem parts_lc {r : Row} (hr : r.length ≤ 3) : ((List.range 3).filter fun l => (r.getD l none).isSome).map (fun l => D.str (partS l ((r.getD l none).getD 0))) = (partsWf 0 r).map D.str := by
  refine row_cases (P := fun r => ((List.range 3).filter fun l => (r.getD l none).isSome).map (fun l => D.str (partS l ((r.getD l none).getD 0))) = (partsWf 0 r).map D.str) ?_ ?_ ?_ ?_ hr
  · rfl
  · rintro (_ | a) <;> rfl
  · rintro (_ | a) (_ | b) <;> rfl
  · rintro (_ | a) (_ | b) (_ | c) <;> rfl
theorem let_range : letV.map D.v = (List.range 3).map fun l => D.str (letS l) := rfl
theorem getD_mem {r : Row} {l x : Nat} (h : r.getD l none = some x) : some x ∈ r := by
  rw [List.getD_eq_getElem?_getD] at h
  cases e : r[l]? with
  | none => rw [e] at h; cases h
  | some o =>
    rw [e] at h
    have : o = some x := h
    rw [← this]
    exact List.mem_of_getElem? e
def spWriteM (Cm Cr : Addr) : Prm := fun ds L KK KE => ∃ m : Mac, ds = [macD Cm Cr m] ∧ m.Ok ∧ m.tab.length ≤ 6 ∧ L = [] ∧ KK (.str (Txt.join "\n" (linesM m))) []
theorem ok_write {f Cm Cr : Addr} {fd : FuncData} (FF : Fun K "write_machine" "write_machine" s_write_machine f fd) (B : Bi mg) (gL : GTup K mg "LETTERS" letV) (cM : Cls K Cm) (g1 : Mth P w K mg base Cm "rows" ["self"] (spRows Cm Cr) 1) (g2 : Mth P w K mg base Cm "ends" ["self"] (spEndsM Cm Cr) 1) : Def P w K mg base 2 f fd ["machine"] (spWriteM Cm Cr) := by
  refine def_ok FF sc_write_machine ?_ ?_
  · rintro ds L KK KE ⟨m, rfl, _⟩
    rfl
  · rintro ds L KK KE ⟨m, rfl, h, h6, rfl, hk⟩ H0 F0
    wtm_at "bg"
    have hll := last_len h
    refine run_set (by wtm_at "loc") (by wtm_at "mem") (ev_lst (ea_cons (ev_joinL (h := ?_) (k := fun hh => ev_join hh))))
    wtm_at "lw"
    refine ev_lc [("end", 5)] rfl (by kernel_rfl) (ei_tup ?_)
    wtm_at "lw"
    refine calls0 ⟨m, rfl, rfl, ?_⟩
    refine ⟨_, rfl, ?_⟩
    refine lc_all m.last nD (fun n => .str (natS n)) rfl (sz_lt (by omega)) (fun _ h => (nomatch h)) ?_ ?_
    · intro F1 Dl e acc he
      refine tn_name (i := 5) (by wtm_at "loc") rfl (List.mem_singleton.mpr rfl) ?_
      wtm_at "wz"
      wtm_at "go"
      have := h.ends e he
      refine cv_strI (log_small (by omega) (by omega)) ⟨rfl, List.Sublist.refl _⟩
    · intro Dl
      refine op_catF .frz (.own (.head _)) ?_ ?_
      · rw [List.length_map]
        exact sz_of (show 1 + m.last.length ≤ 1000000 by omega)
      have e0 : [D.str "ends"] ++ m.last.map (fun n => D.str (natS n)) = (("ends" : Str) :: m.last.map natS).map D.str := by
        rw [List.map_cons, List.map_map]
        rfl
      rw [e0]
      refine ⟨_, .lst .frz, ?_, ?_, (by show (1 : Nat) ≤ 1000; decide), ?_⟩
      · intro z hz
        rcases List.mem_cons.mp hz with rfl | hz
        · decide
        · obtain ⟨e, he, rfl⟩ := List.mem_map.mp hz
          have := natS_len (n := e) (by have := h.ends e he; omega)
          omega
      · rw [List.length_cons, List.length_map]
        omega
      refine ea_nil ⟨Nat.le_of_ble_eq_true rfl, fun pr => ?_⟩
      refine ⟨_, by wtm_at "pt", ?_⟩
      refine run_drop (L' := [(pr, .lst ([endsLine m].map D.str))]) ((List.nil_sublist _).cons_cons _) ?_
      refine run_for rfl rfl (ei_enumT (by wtm_at "gl") (by wtm_at "bi") ?_)
      wtm_at "gk"
      refine calls0 ⟨m, rfl, by omega, rfl, ?_⟩
      refine ⟨_, rfl, ?_⟩
      refine ⟨fun i G' L' => ∃ a b c : Option D, G' = [some (macD Cm Cr m), some (.ref pr), a, b, c, none, none] ∧ i ≤ m.tab.length ∧ L' = [(pr, .lst ((endsLine m :: linesFrom 0 (m.tab.take i)).map D.str))], ⟨_, _, _, rfl, Nat.zero_le _, rfl⟩, fun _ _ _ _ _ h => (nomatch h), ?_, ?_⟩
      · rintro F1 i d G' L' hd ⟨a, b, c, rfl, hi, rfl⟩
        obtain ⟨x, hx, rfl⟩ := enum_get hd
        obtain ⟨r, hr, rfl, hrm, hlt, htk⟩ := take_map hx
        have hr3 := h.len r hrm
        have hrx := h.lt r hrm
        refine tgt_two rfl (tgt_name (by wtm_at "loc") (by wtm_at "pt") (tgt_name (by wtm_at "loc") (by wtm_at "pt") ?_))
        refine run_setlc [("letter", 6)] rfl (by kernel_rfl) (by wtm_at "mem") (by kernel_rfl) (ei_tup ?_) rfl rfl rfl
        wtm_at "ev"
        refine ⟨_, rfl, ?_⟩
        refine lc_map (List.range 3) (fun l => .str (letS l)) (fun l => .str (partS l ((r.getD l none).getD 0))) (fun l => (r.getD l none).isSome) let_range (sz_lt (by decide)) (fun _ h => (nomatch h)) ?_ ?_
        · intro F2 Dl l acc hl
          have hl3 := List.mem_range.mp hl
          refine tn_name (i := 6) (by wtm_at "loc") rfl (List.mem_singleton.mpr rfl) ?_
          wtm_at "wz"
          show TL.Tst _ _ _ _ _
          wtm_at "go"
          refine op_inK (k := lkey l) rfl .frz ⟨_, rfl, ?_, List.Sublist.refl _, fun hs => ?_⟩
          · rw [valD_map, valV_row hr3 hl3]
            cases r.getD l none <;> rfl
          · obtain ⟨x, hx⟩ := Option.isSome_iff_exists.mp hs
            have hx20 : x < 20 := by
              have := hrx x (getD_mem hx)
              omega
            have n1 := letS_len l
            have n2 := natS_len (n := x) (by omega)
            refine ev_joined3 (ev_fmt ?_)
            wtm_at "ev"
            refine ⟨letS l, .inl ⟨rfl, by rw [n1]; decide⟩, _, rfl, ?_, ?_⟩
            · rw [app_len, n1]
              decide
            refine ev_str ⟨_, rfl, ?_, ev_fmt ?_⟩
            · rw [app_len, app_len, n1]
              decide
            wtm_at "ev"
            wtm_at "ev"
            wtm_at "ev"
            refine ix_K (k := lkey l) rfl .frz (by rw [valD_map, valV_row hr3 hl3, hx]; rfl) ?_
            refine ⟨natS x, .inr ⟨_, rfl, log_small (by omega) (by omega), rfl⟩, _, rfl, ?_, ?_, List.Sublist.refl _⟩
            · have := part_len l (x := x) (by omega)
              exact Nat.le_trans this (by decide)
            · rw [hx]
              rfl
        · intro Dl
          rw [parts_lc hr3]
          refine ⟨_, by wtm_at "pt", ?_⟩
          refine run_expr ?_
          refine ev_append ?_
          wtm_at "ev"
          refine ⟨pr, _, rfl, .tail _ (.head _), ?_⟩
          refine ev_joinL (h := ?_) (k := fun hh => ev_join hh)
          wtm_at "lw"
          refine cv_strI (log_small (by omega) (by omega)) ?_
          wtm_at "lw"
          refine op_catF .frz (.own (.head _)) ?_ ?_
          · rw [List.length_map]
            have := parts_len r 0
            exact sz_of (show 1 + (partsWf 0 r).length ≤ 1000000 by omega)
          have e0 : [D.str (natS i)] ++ (partsWf 0 r).map D.str = (natS i :: partsWf 0 r).map D.str := rfl
          rw [e0]
          refine ⟨_, .lst .frz, ?_, ?_, (by show (1 : Nat) ≤ 1000; decide), ?_⟩
          · intro z hz
            rcases List.mem_cons.mp hz with rfl | hz
            · have := natS_len (n := i) (by omega)
              omega
            · have := parts_all r m.tab.length (by omega) hrx 0 z hz
              omega
          · have := parts_len r 0
            rw [List.length_cons]
            omega
          refine ⟨_, _, .there .here, ?_, ?_⟩
          · rw [List.length_map, List.length_cons, linesFrom_len, List.length_take]
            exact sz_lt (show min i m.tab.length + 1 ≤ 1000000 by omega)
          · refine run_drop (L' := [(pr, _)]) (List.sublist_cons_self _ _) ?_
            refine run_nil ⟨_, _, _, rfl, hlt, ?_⟩
            rw [htk, linesFrom_app, List.length_take, Nat.min_eq_left hi, Nat.zero_add, ← List.cons_append, List.map_append]
            rfl
      · rintro G' L' ⟨a, b, c, rfl, hi, rfl⟩
        have hle : (enumD (m.tab.map rowD)).length = m.tab.length := by
          unfold enumD
          simp
        rw [hle, List.take_length]
        refine run_ret0 (ev_joinL (h := ?_) (k := fun hh => ev_join hh))
        wtm_at "go"
        refine ⟨linesM m, .lst (.own (.head _)), ?_, ?_, (by show (1 : Nat) ≤ 1000; decide), hk⟩
        · intro z hz
          have := linesM_all h h6 z hz
          omega
        · unfold linesM
          rw [List.length_cons, linesFrom_len]
          omega
end
end Rk06

open PySem L2 TL
namespace Rk06
section
variable {P : Program} {w : World} {K : PySem.W.Frag} {mg : Str → Option Value} {base : Heap}
/-! data that are alike -/
inductive Plain : Nat → D → Prop
  | fl {n : Nat} {x : V} : scalV x = true → okV x = true → Plain n (.v x)
  | tup {n : Nat} {ds : List D} : (∀ d ∈ ds, Plain n d) → ds.length < 1000 → Plain (n + 1) (.tup ds)
  | lst {n : Nat} {ds : List D} : (∀ d ∈ ds, Plain n d) → ds.length < 1000 → Plain (n + 1) (.lst ds)
  | dK {n : Nat} {kvs : List (Key × D)} : (∀ kv ∈ kvs, Plain n kv.2) → kvs.length < 1000 → (∀ kv ∈ kvs, okV (kV kv.1) = true) → Plain (n + 1) (.dK kvs)
def spLike (n : Nat) : Prm := fun ds L KK KE => ∃ x : D, ds = [x, x] ∧ Plain n x ∧ L = [] ∧ KK (.bl true) []
theorem valD_mem {kvs : List (Key × D)} {kv : Key × D} (h : kv ∈ kvs) : ∃ d, valD kvs kv.1 = some d ∧ (kv.1, d) ∈ kvs := by
  unfold valD
  cases e : kvs.find? fun a => decide (a.1 = kv.1) with
  | none => exact absurd (List.find?_eq_none.mp e kv h) (by simp)
  | some b =>
    have h1 := List.mem_of_find?_eq_some e
    have h2 : b.1 = kv.1 := by simpa using List.find?_some e
    refine ⟨b.2, rfl, ?_⟩
    rw [← h2]
    exact h1
theorem plain_tail {n : Nat} {KK : D → Led → Prop} {T : EX → List (Option D) → Led → Prop} {H0 F0 : Hp} {ds : List D} {x : D} (B : Bi mg)
    (g : Glob P w K mg base "_law_like" ["_law_actual", "_law_due"] (spLike n) (n + 1)) (hx : IsSq [] x ds) (hp : ∀ d ∈ ds, Plain n d) (hl : ds.length < 1000) (hk : KK (.bl true) [])
    (hi : ∀ {M : Mode} {G : List (Option D)} {K2 : D → Led → Prop} (j : Nat) {d : D}, ds[j]? = some d → K2 d [] → IxV M G [] x (.int (j : Nat)) K2) :
    Run ⟨ctxOf P w K mg base ["_law_actual", "_law_due", "_law_k", "_law_key"] s__law_like (n + 1), H0, F0, T⟩ [some x, some x, none, none] [] ((defBody s__law_like).drop 6) ⟨fun _ L' => KK .non L', KK, fun _ _ => False, fun _ _ => False⟩ := by
  refine run_for rfl rfl (ei_rng1 (by wtm_at "gl") (by wtm_at "bi") ?_)
  wtm_at "ev"
  wtm_at "ev"
  wtm_at "ev"
  wtm_at "ev"
  refine cv_lenQ hx ?_
  refine ⟨_, rfl, by omega, by omega, ?_⟩
  refine for_map (List.range ds.length) (fun k => nD k) (rng0 _) (fun i G' L' => ∃ a : Option D, G' = [some x, some x, a, none] ∧ L' = []) ⟨_, rfl, rfl⟩ (fun _ _ _ _ _ h => (nomatch h)) ?_ ?_
  · rintro F1 i y G' L' hy hlt ⟨a, rfl, rfl⟩
    rw [List.length_range] at hlt
    obtain ⟨hlt3, ey⟩ := List.getElem?_eq_some_iff.mp hy
    rw [List.getElem_range] at ey
    subst ey
    refine tgt_name (by wtm_at "loc") (by wtm_at "pt") ?_
    have hd : ds[i]? = some ds[i] := List.getElem?_eq_getElem hlt
    wtm_at "go"
    refine ev_call g rfl (Nat.le_refl _) (by wtm_at "gl") ?_
    wtm_at "go"
    refine hi i hd ?_
    wtm_at "go"
    refine hi i hd ?_
    wtm_at "go"
    refine calls0 ⟨_, rfl, hp _ (List.getElem_mem hlt), rfl, ?_⟩
    wtm_at "go"
    first | exact ⟨_, rfl, rfl⟩ | rfl
  · rintro G' L' ⟨a, rfl, rfl⟩
    wtm_at "go"
theorem ok_like {f : Addr} {fd : FuncData} (FF : Fun K "_law_like" "_law_like" s__law_like f fd) (B : Bi mg) (gm : mg "_law_like" = some (.ref f)) (gk : PySem.W.keepIn K (.ref f) = true) (gb : Binds K fd ["_law_actual", "_law_due"] []) :
    ∀ n : Nat, Def P w K mg base (n + 1) f fd ["_law_actual", "_law_due"] (spLike n) := by
  have flat : ∀ {H0 F0 : Hp} {x : V} {k : Nat} {KK : D → Led → Prop} {T : EX → List (Option D) → Led → Prop}, scalV x = true → KK (.bl true) [] →
      Run ⟨ctxOf P w K mg base ["_law_actual", "_law_due", "_law_k", "_law_key"] s__law_like k, H0, F0, T⟩ [some (.v x), some (.v x), none, none] [] (defBody s__law_like) ⟨fun _ L' => KK .non L', KK, fun _ _ => False, fun _ _ => False⟩ := by
    intro H0 F0 x k KK T hx hk
    rcases scal_cases hx with ⟨i, rfl⟩ | ⟨b, rfl⟩ | ⟨z, rfl⟩ | rfl
    all_goals wtm_at "go"
    all_goals first | refine op_eqB ?_ | skip
    all_goals (show KK _ [])
    all_goals first | exact hk | simpa using hk
  intro n
  induction n with
  | zero =>
    refine def_ok FF sc__law_like ?_ ?_
    · rintro ds L KK KE ⟨x, rfl, _⟩
      rfl
    · rintro ds L KK KE ⟨x, rfl, hp, rfl, hk⟩ H0 F0
      wtm_at "bg"
      cases hp with
      | fl h1 h2 => exact flat h1 hk
  | succ n ih =>
    have g : Glob P w K mg base "_law_like" ["_law_actual", "_law_due"] (spLike n) (n + 1) := ⟨_, _, ih, gm, gk, gb⟩
    refine def_ok FF sc__law_like ?_ ?_
    · rintro ds L KK KE ⟨x, rfl, _⟩
      rfl
    · rintro ds L KK KE ⟨x, rfl, hp, rfl, hk⟩ H0 F0
      wtm_at "bg"
      cases hp with
      | fl h1 h2 => exact flat h1 hk
      | @tup _ ds hp hl =>
        wtm_at "gn"
        · rename_i hb
          simp at hb
        · exact plain_tail B g .tup hp hl hk fun j d hd hk2 => ix_T (at_nat rfl hd) hk2
      | @lst _ ds hp hl =>
        wtm_at "gn"
        · rename_i hb
          simp at hb
        · exact plain_tail B g (.lst .frz) hp hl hk fun j d hd hk2 => ix_L .frz (at_nat rfl hd) hk2
      | @dK _ kvs hp hl hok =>
        have e : keysD kvs = (kvs.map fun kv => kV kv.1).map D.v := by
          unfold keysD
          rw [List.map_map]
          rfl
        have hz : ∀ z ∈ kvs.map (fun kv => kV kv.1), okV z = true := by
          intro z hz
          obtain ⟨kv, hkv, rfl⟩ := List.mem_map.mp hz
          exact hok kv hkv
        wtm_at "gn"
        refine cv_listD rfl .frz fun p1 => ?_
        wtm_at "gn"
        refine cv_listD rfl .frz fun p2 => ?_
        rw [e]
        refine op_neSame rfl (.own (.tail _ (.head _))) (.own (.head _)) hz ?_
        wtm_at "gn"
        refine run_ret0 ?_
        wtm_at "ev"
        wtm_at "ev"
        refine ev_lcK [("_law_key", 3)] rfl (by kernel_rfl) (path_name (by wtm_at "lk") (by wtm_at "vis")) ?_
        intro H1 F1
        rw [e]
        refine lc_all (kvs.map fun kv => kV kv.1) D.v (fun _ => .bl true) rfl (sz_lt (by rw [List.length_map]; omega)) (fun _ h => (nomatch h)) ?_ ?_
        · intro F2 Dl z acc hz2
          obtain ⟨kv, hkv, rfl⟩ := List.mem_map.mp hz2
          obtain ⟨d, hd1, hd2⟩ := valD_mem hkv
          refine tn_name (i := 3) (by wtm_at "loc") rfl (List.mem_singleton.mpr rfl) ?_
          wtm_at "wz"
          refine ev_call g rfl (Nat.le_refl _) (by wtm_at "gl") ?_
          wtm_at "go"
          refine ix_K rfl .frz hd1 ?_
          wtm_at "go"
          refine ix_K rfl .frz hd1 ?_
          wtm_at "go"
          exact calls0 ⟨_, rfl, hp _ hd2, rfl, rfl, List.Sublist.refl _⟩
        · intro Dl
          wtm_at "go"
          have e2 : ((kvs.map fun kv => kV kv.1).all fun _ => true) = true := by simp
          rw [e2]
          exact hk
end
end Rk06

open PySem L2 TL
namespace Rk06
section
variable {P : Program} {w : World} {K : PySem.W.Frag} {mg : Str → Option Value} {base : Heap}
/-! what is written is read -/
def cellsWf : Nat → Row → List Str
  | _, [] => []
  | i, some x :: r => letS i :: natS x :: cellsWf (i + 1) r
  | i, none :: r => cellsWf (i + 1) r
theorem str_ext {a b : Str} (h : tl a = tl b) : a = b := by
  cases a
  cases b
  congr 1
  exact Array.ext' h
theorem joinL_cons (S : List Nat) : ∀ (p : List Nat) (ps : List (List Nat)), TL.joinL S (p :: ps) = p ++ (ps.map fun q => S ++ q).flatten
  | p, [] => by
    show p = p ++ _
    simp
  | p, q :: r => by
    have e : TL.joinL S (p :: q :: r) = p ++ (S ++ TL.joinL S (q :: r)) := rfl
    rw [e, joinL_cons S q r]
    simp
theorem tl_joinS (z : Str) (ls : List Str) : tl (Txt.join " " (z :: ls)) = tl z ++ (ls.map fun q => tl " " ++ tl q).flatten := by
  rw [join_eq, tl_join, List.map_cons, joinL_cons, List.map_map]
  rfl
theorem tl_empty : tl Str.empty = [] := rfl
theorem join_parts (z : Str) (r : Row) (i : Nat) : Txt.join " " (z :: partsWf i r) = Txt.join " " (z :: cellsWf i r) := by
  refine str_ext ?_
  rw [tl_joinS, tl_joinS]
  congr 1
  induction r generalizing i with
  | nil => rfl
  | cons o r ih =>
    cases o with
    | none => exact ih (i + 1)
    | some x =>
      show (List.map _ (partS i x :: partsWf (i + 1) r)).flatten = (List.map _ (letS i :: natS x :: cellsWf (i + 1) r)).flatten
      simp only [List.map_cons, List.flatten_cons]
      rw [ih (i + 1)]
      unfold partS
      rw [tl_append, tl_append, tl_append, tl_empty]
      simp
theorem rowLine_cells (k : Nat) (r : Row) : rowLine k r = Txt.join " " (natS k :: cellsWf 0 r) := join_parts _ r 0
def sig (z : Str) : Bool := !(z.cps.toList.contains 32) && !(z.cps.toList.contains 10) && decide (z.length ≤ 4)
theorem sig_nat {n : Nat} (h : n ≤ 20) : sig (natS n) = true := by
  have f : ∀ i : Fin 21, sig (natS i.val) = true := by decide +kernel
  exact f ⟨n, by omega⟩
theorem sig_let (l : Nat) : sig (letS l) = true := by
  have f : sig "a" = true ∧ sig "b" = true ∧ sig "c" = true := by decide +kernel
  match l with
  | 0 => exact f.1
  | 1 => exact f.2.1
  | n + 2 => exact f.2.2
theorem sig_cells (r : Row) {n : Nat} (hn : n ≤ 20) (h : ∀ x, some x ∈ r → x < n) : ∀ i : Nat, ∀ z ∈ cellsWf i r, sig z = true := by
  induction r with
  | nil => intro i z hz; cases hz
  | cons o r ih =>
    intro i z hz
    have ih' := ih fun x hx => h x (List.mem_cons_of_mem _ hx)
    cases o with
    | none => exact ih' (i + 1) z hz
    | some x =>
      rcases List.mem_cons.mp hz with rfl | hz
      · exact sig_let i
      · rcases List.mem_cons.mp hz with rfl | hz
        · exact sig_nat (by have := h x List.mem_cons_self; omega)
        · exact ih' (i + 1) z hz
theorem cells_len (r : Row) : ∀ i : Nat, (cellsWf i r).length ≤ 2 * r.length := by
  induction r with
  | nil => intro i; exact Nat.le_refl _
  | cons o r ih =>
    intro i
    have h := ih (i + 1)
    rw [List.length_cons]
    cases o with
    | none =>
      show (cellsWf (i + 1) r).length ≤ _
      omega
    | some x =>
      show (cellsWf (i + 1) r).length + 1 + 1 ≤ _
      omega
theorem sig_split {ws : List Str} (hne : ws ≠ []) (h : ∀ z ∈ ws, sig z = true) : Txt.split (Txt.join " " ws) " " = ws := by
  refine split_sp hne fun z hz => ?_
  have := h z hz
  unfold sig at this
  simp only [Bool.and_eq_true, Bool.not_eq_true'] at this
  exact this.1.1
theorem sig_len {z : Str} (h : sig z = true) : z.length ≤ 4 := by
  unfold sig at h
  simp only [Bool.and_eq_true, decide_eq_true_eq] at h
  exact h.2
theorem sig_nl {z : Str} (h : sig z = true) : 10 ∉ tl z := by
  unfold sig at h
  simp only [Bool.and_eq_true, Bool.not_eq_true'] at h
  intro hm
  have := h.1.2
  rw [← Bool.not_eq_true] at this
  exact this (by simpa using hm)
theorem pickL_le {α : Type} (xs : List α) (lo st : Int) (n : Nat) (h : ∀ m : Nat, m ≤ n → (pickL (List.replicate m ()) lo st).length ≤ 900) (hx : xs.length ≤ n) : (pickL xs lo st).length ≤ 900 := by
  have e : (pickL xs lo st).length = (pickL (xs.map fun _ => ()) lo st).length := by rw [pickL_map, List.length_map]
  rw [e, List.map_const']
  exact h _ hx
theorem sig_line {w : Str} {ws : List Str} (h : ∀ z ∈ w :: ws, sig z = true) (hl : ws.length ≤ 12) : nlOk (Txt.join " " (w :: ws)) = true := by
  have sp := sig_split (List.cons_ne_nil w ws) h
  have ln := joinS_len (w :: ws) fun z hz => sig_len (h z hz)
  rw [List.length_cons] at ln
  have pl : ∀ lo st : Int, (lo = 1 ∨ lo = 2) → st = 2 → (pickL (w :: ws) lo st).length ≤ 900 := by
    intro lo st h1 h2
    refine pickL_le _ _ _ 13 ?_ (by rw [List.length_cons]; omega)
    subst h2
    have f : ∀ m : Fin 14, (pickL (List.replicate m.val ()) 1 2).length ≤ 900 ∧ (pickL (List.replicate m.val ()) 2 2).length ≤ 900 := by decide +kernel
    intro m hm
    rcases h1 with rfl | rfl
    · exact (f ⟨m, by omega⟩).1
    · exact (f ⟨m, by omega⟩).2
  unfold nlOk rowWords wordsOk
  rw [sp]
  simp only [Bool.and_eq_true, Bool.not_eq_true', decide_eq_true_eq, List.all_eq_true]
  refine ⟨⟨?_, by omega⟩, ⟨⟨⟨⟨⟨by omega, by rw [List.length_cons]; omega⟩, by rw [List.length_cons]; omega⟩, fun z hz => ?_⟩, pl 1 2 (.inl rfl) rfl⟩, pl 2 2 (.inr rfl) rfl⟩⟩
  · have nm : 10 ∉ tl (Txt.join " " (w :: ws)) := by
      rw [tl_joinS]
      intro hm
      rcases List.mem_append.mp hm with hm | hm
      · exact sig_nl (h w List.mem_cons_self) hm
      · obtain ⟨l, hl, hml⟩ := List.mem_flatten.mp hm
        obtain ⟨z, hz, rfl⟩ := List.mem_map.mp hl
        rcases List.mem_append.mp hml with hm2 | hm2
        · exact absurd hm2 (by decide +kernel)
        · exact sig_nl (h z (List.mem_cons_of_mem _ hz)) hm2
    rw [← Bool.not_eq_true]
    intro hc
    exact nm (by simpa using hc)
  · have := sig_len (h z hz)
    omega
theorem num_nat {n : Nat} (h : n ≤ 20) : numOf (natS n) = some ((n : Nat) : Int) := by
  have f : ∀ i : Fin 21, numOf (natS i.val) = some ((i.val : Nat) : Int) := by decide +kernel
  exact f ⟨n, by omega⟩
def ents : Nat → Row → List (Nat × Nat)
  | _, [] => []
  | i, some x :: r => (i, x) :: ents (i + 1) r
  | i, none :: r => ents (i + 1) r
theorem ents_cells : ∀ (r : Row) (i : Nat), cellsWf i r = ((ents i r).map fun e => [letS e.1, natS e.2]).flatten
  | [], _ => rfl
  | some x :: r, i => by
    show letS i :: natS x :: cellsWf (i + 1) r = _
    rw [ents_cells r (i + 1)]
    rfl
  | none :: r, i => ents_cells r (i + 1)
theorem ents_row : ∀ (r : Row) (i : Nat), rowKf i r = (ents i r).map fun e => (lkey e.1, nV e.2)
  | [], _ => rfl
  | some x :: r, i => by
    show (lkey i, _) :: rowKf (i + 1) r = _
    rw [ents_row r (i + 1)]
    rfl
  | none :: r, i => ents_row r (i + 1)
theorem ents_ok {n : Nat} : ∀ (r : Row) (i : Nat), (∀ x, some x ∈ r → x < n) → (ents i r).length ≤ r.length ∧ (∀ e ∈ ents i r, i ≤ e.1 ∧ e.1 < i + r.length ∧ e.2 < n) ∧ (ents i r).Pairwise fun a b => a.1 < b.1
  | [], _, _ => ⟨Nat.le_refl _, (fun _ h => nomatch h), .nil⟩
  | some x :: r, i, h => by
    obtain ⟨h1, h2, h3⟩ := ents_ok r (i + 1) fun y hy => h y (List.mem_cons_of_mem _ hy)
    refine ⟨Nat.succ_le_succ h1, fun e he => ?_, List.pairwise_cons.mpr ⟨fun e he => (h2 e he).1, h3⟩⟩
    rw [List.length_cons]
    rcases List.mem_cons.mp he with rfl | he
    · exact ⟨Nat.le_refl _, by omega, h x List.mem_cons_self⟩
    · have := h2 e he
      omega
  | none :: r, i, h => by
    obtain ⟨h1, h2, h3⟩ := ents_ok r (i + 1) fun y hy => h y (List.mem_cons_of_mem _ hy)
    refine ⟨Nat.le_succ_of_le h1, fun e he => ?_, h3⟩
    rw [List.length_cons]
    have := h2 e he
    omega
theorem let_facts : (∀ i : Fin 3, isLet (letS i.val) = true) ∧ ∀ i j : Fin 3, i.val < j.val → ltS (letS i.val) (letS j.val) = true := by decide +kernel
theorem lkey_ne {i j : Nat} (hi : i < 3) (hj : j < 3) (h : i < j) : decide (lkey i = lkey j) = false := by
  have := lkey_dec ⟨i, hi⟩ ⟨j, hj⟩
  simp only at this
  rw [this]
  exact decide_eq_false (by omega)
theorem merge_nodup (l : List (Key × V)) (h : (l.map (·.1)).Nodup) : mergeK [] l = l := by
  have e := disp_merge l
  rw [dispE_nodup (by rw [List.map_map]; exact h)] at e
  have inj : ∀ a b : List (Key × V), (a.map fun kv => (kv.1, D.v kv.2)) = (b.map fun kv => (kv.1, D.v kv.2)) → a = b := by
    intro a
    induction a with
    | nil =>
      intro b hb
      cases b with
      | nil => rfl
      | cons y b => simp at hb
    | cons x a ih =>
      intro b hb
      cases b with
      | nil => simp at hb
      | cons y b =>
        rw [List.map_cons, List.map_cons] at hb
        injection hb with h1 h2
        injection h1 with h3 h4
        injection h4 with h5
        rw [ih b h2]
        congr 1
        exact Prod.ext h3 h5
  exact (inj _ _ e).symm
theorem rowOf_line {k many : Nat} {r : Row} (hk : k ≤ 20) (hm : many ≤ 20) (hr : r.length ≤ 3) (hx : ∀ x, some x ∈ r → x < many) : rowOf (rowLine k r) ((k : Nat) : Int) ((many : Nat) : Int) = some (rowK r) := by
  have sg : ∀ z ∈ natS k :: cellsWf 0 r, sig z = true := by
    intro z hz
    rcases List.mem_cons.mp hz with rfl | hz
    · exact sig_nat hk
    · exact sig_cells r hm hx 0 z hz
  unfold rowOf
  rw [rowLine_cells, sig_split (List.cons_ne_nil _ _) sg]
  clear sg
  obtain ⟨e1, e2, e3⟩ := ents_ok r 0 hx
  have hrow : rowK r = _ := ents_row r 0
  rw [ents_cells, hrow]
  generalize ents 0 r = es at e1 e2 e3
  have h3 : ∀ e ∈ es, e.1 < 3 := fun e he => by have := e2 e he; omega
  have hn : ∀ e ∈ es, e.2 < many := fun e he => (e2 e he).2.2
  have q1 : pickL (natS k :: (es.map fun e => [letS e.1, natS e.2]).flatten) 1 2 = es.map fun e => letS e.1 := by
    match es, e1 with
    | [], _ => kernel_rfl
    | [_], _ => kernel_rfl
    | [_, _], _ => kernel_rfl
    | [_, _, _], _ => kernel_rfl
    | _ :: _ :: _ :: _ :: _, h =>
      simp at h
      omega
  have q2 : pickL (natS k :: (es.map fun e => [letS e.1, natS e.2]).flatten) 2 2 = es.map fun e => natS e.2 := by
    match es, e1 with
    | [], _ => kernel_rfl
    | [_], _ => kernel_rfl
    | [_, _], _ => kernel_rfl
    | [_, _, _], _ => kernel_rfl
    | _ :: _ :: _ :: _ :: _, h =>
      simp at h
      omega
  have q3 : (es.map fun e => natS e.2).map numOf = es.map fun e => some ((e.2 : Nat) : Int) := by
    rw [List.map_map]
    refine List.map_congr_left fun e he => num_nat ?_
    have := hn e he
    omega
  have q4 : (es.map fun e => some ((e.2 : Nat) : Int)).map (fun o => o.getD 0) = es.map fun e => ((e.2 : Nat) : Int) := by
    rw [List.map_map]
    rfl
  have t1 : (es.map fun e => some ((e.2 : Nat) : Int)).all (fun o => o.isSome) = true := by simp
  have t2 : (es.map fun e => letS e.1).all isLet = true := by
    rw [List.all_map]
    refine List.all_eq_true.mpr fun e he => ?_
    exact let_facts.1 ⟨e.1, h3 e he⟩
  have t3 : risesB ltS (es.map fun e => letS e.1) = true := by
    clear q1 q2 q3 q4 t1 t2 e1 e2 hn hrow
    induction es with
    | nil => rfl
    | cons a es ih =>
      cases es with
      | nil => rfl
      | cons b es =>
        show (ltS (letS a.1) (letS b.1) && risesB ltS ((b :: es).map fun e => letS e.1)) = true
        rw [ih (List.Pairwise.of_cons e3) fun e he => h3 e (List.mem_cons_of_mem _ he), Bool.and_true]
        exact let_facts.2 ⟨a.1, h3 a List.mem_cons_self⟩ ⟨b.1, h3 b (List.mem_cons_of_mem _ List.mem_cons_self)⟩ (List.rel_of_pairwise_cons e3 List.mem_cons_self)
  have t4 : (es.map fun e => ((e.2 : Nat) : Int)).any (fun t => decide (((many : Nat) : Int) ≤ t)) = false := by
    rw [List.any_map, List.any_eq_false]
    intro e he
    have := hn e he
    simp
    omega
  have t5 : ((es.map fun e => letS e.1).map (Sum.inr : Str → Key)).zip ((es.map fun e => ((e.2 : Nat) : Int)).map V.int) = es.map fun e => (lkey e.1, nV e.2) := by
    rw [List.map_map, List.map_map, List.zip_map']
    rfl
  have t6 : mergeK [] (es.map fun e => (lkey e.1, nV e.2)) = es.map fun e => (lkey e.1, nV e.2) := by
    refine merge_nodup _ ?_
    rw [List.map_map]
    refine List.pairwise_map.mpr (e3.imp_of_mem fun {a b} ha hb hab => ?_)
    have := lkey_ne (h3 a ha) (h3 b hb) hab
    exact of_decide_eq_false this
  simp only [q1, q2, q3, q4, t1, t2, t3, t4, t5, t6, List.length_map, List.getD_cons_zero, decide_true, Bool.and_true, Bool.true_and, Bool.not_false, if_true]
theorem line_nl {k many : Nat} {r : Row} (hk : k ≤ 20) (hm : many ≤ 20) (hr : r.length ≤ 3) (hx : ∀ x, some x ∈ r → x < many) : nlOk (rowLine k r) = true := by
  rw [rowLine_cells]
  refine sig_line (fun z hz => ?_) (by have := cells_len r 0; omega)
  rcases List.mem_cons.mp hz with rfl | hz
  · exact sig_nat hk
  · exact sig_cells r hm hx 0 z hz
theorem sig_ends : sig "ends" = true := by decide +kernel
theorem ends_sig {m : Mac} (h : m.Ok) (h6 : m.tab.length ≤ 20) : ∀ z ∈ (("ends" : Str) :: m.last.map natS), sig z = true := by
  intro z hz
  rcases List.mem_cons.mp hz with rfl | hz
  · exact sig_ends
  · obtain ⟨e, he, rfl⟩ := List.mem_map.mp hz
    exact sig_nat (by have := h.ends e he; omega)
theorem ends_nl {m : Mac} (h : m.Ok) (h6 : m.tab.length ≤ 6) : nlOk (endsLine m) = true := by
  refine sig_line (ends_sig h (by omega)) ?_
  have := last_len h
  rw [List.length_map]
  omega
theorem risesB_pw : ∀ l : List Nat, l.Pairwise (· < ·) → risesB ltI (l.map fun n => ((n : Nat) : Int)) = true
  | [], _ => rfl
  | [_], _ => rfl
  | a :: b :: r, h => by
    show (decide (((a : Nat) : Int) < ((b : Nat) : Int)) && risesB ltI ((b :: r).map fun n => ((n : Nat) : Int))) = true
    rw [risesB_pw (b :: r) (List.Pairwise.of_cons h), Bool.and_true]
    have := List.rel_of_pairwise_cons h (List.mem_cons_self (a := b))
    exact decide_eq_true (by omega)
theorem endsOf_line {m : Mac} (h : m.Ok) (h6 : m.tab.length ≤ 6) : endsOf (endsLine m) ((m.tab.length : Nat) : Int) = some (m.last.map fun n => ((n : Nat) : Int)) := by
  unfold endsOf endsLine
  rw [sig_split (List.cons_ne_nil _ _) (ends_sig h (by omega))]
  have q3 : (m.last.map natS).map numOf = m.last.map fun e => some ((e : Nat) : Int) := by
    rw [List.map_map]
    refine List.map_congr_left fun e he => num_nat ?_
    have := h.ends e he
    omega
  have q4 : (m.last.map fun e => some ((e : Nat) : Int)).map (fun o => o.getD 0) = m.last.map fun e => ((e : Nat) : Int) := by
    rw [List.map_map]
    rfl
  have t1 : (m.last.map fun e => some ((e : Nat) : Int)).all (fun o => o.isSome) = true := by simp
  have t4 : (m.last.map fun e => ((e : Nat) : Int)).any (fun t => decide (((m.tab.length : Nat) : Int) ≤ t)) = false := by
    rw [List.any_map, List.any_eq_false]
    intro e he
    have := h.ends e he
    simp
    omega
  have t5 : decide ((("ends" : Str) :: m.last.map natS).getD 0 Str.empty = isEnds) = true := decide_eq_true rfl
  simp only [List.drop_succ_cons, List.drop_zero, q3, q4, t1, t4, t5, risesB_pw _ h.up, Bool.and_true, Bool.true_and, Bool.not_false, if_true]
theorem readRows_line {many : Nat} (hm : many ≤ 20) : ∀ (rs : List Row) (k : Nat) (acc : RowL), (∀ r ∈ rs, r.length ≤ 3 ∧ ∀ x, some x ∈ r → x < many) → k + rs.length ≤ 6 → readRows ((many : Nat) : Int) ((k : Nat) : Int) (linesFrom k rs) acc = .inr (acc ++ rs.map rowK)
  | [], k, acc, _, _ => by
    show Sum.inr acc = Sum.inr (acc ++ [])
    rw [List.append_nil]
  | r :: rs, k, acc, h, hk => by
    rw [List.length_cons] at hk
    obtain ⟨h1, h2⟩ := h r List.mem_cons_self
    show (match (if decide (((k : Nat) : Int) < 6) then rowOf (rowLine k r) ((k : Nat) : Int) ((many : Nat) : Int) else none) with | none => _ | some row => readRows ((many : Nat) : Int) (((k : Nat) : Int) + 1) (linesFrom (k + 1) rs) (acc ++ [row])) = _
    rw [if_pos (decide_eq_true (by omega)), rowOf_line (by omega) hm h1 h2]
    have e := readRows_line hm rs (k + 1) (acc ++ [rowK r]) (fun q hq => h q (List.mem_cons_of_mem _ hq)) (by omega)
    have ek : ((k + 1 : Nat) : Int) = ((k : Nat) : Int) + 1 := by omega
    rw [ek] at e
    show readRows _ _ _ _ = _
    rw [e, List.append_assoc]
    rfl
theorem readL_mac {m : Mac} (h : m.Ok) (h6 : m.tab.length ≤ 6) : readL (linesM m) = .inr (m.tab.map rowK, m.last.map fun n => ((n : Nat) : Int)) := by
  have len : (linesM m).length = m.tab.length + 1 := by
    unfold linesM
    rw [List.length_cons, linesFrom_len]
  have hp := h.pos
  unfold readL
  rw [len]
  have e1 : min (((m.tab.length + 1 : Nat) : Int) - 1) 6 = ((m.tab.length : Nat) : Int) := by omega
  have e2 : max ((m.tab.length : Nat) : Int) 1 = ((m.tab.length : Nat) : Int) := by omega
  rw [e1, e2]
  show (match endsOf (endsLine m) ((m.tab.length : Nat) : Int) with | none => _ | some es => _) = _
  rw [endsOf_line h h6]
  have e3 := readRows_line (many := m.tab.length) (by omega) m.tab 0 [] (fun r hr => ⟨h.len r hr, h.lt r hr⟩) (by omega)
  show (match readRows ((m.tab.length : Nat) : Int) ((0 : Nat) : Int) (linesFrom 0 m.tab) [] with | .inl n => _ | .inr [] => _ | .inr (r :: rs) => _) = _
  rw [e3, List.nil_append]
  cases e : m.tab with
  | nil => rw [e] at hp; cases hp
  | cons r rs => rfl
theorem lines_nlM {m : Mac} (h : m.Ok) (h6 : m.tab.length ≤ 6) : ∀ l ∈ linesM m, nlOk l = true := by
  have go : ∀ (rs : List Row) (k : Nat), (∀ r ∈ rs, r.length ≤ 3 ∧ ∀ x, some x ∈ r → x < m.tab.length) → k + rs.length ≤ 20 → ∀ z ∈ linesFrom k rs, nlOk z = true := by
    intro rs
    induction rs with
    | nil => intro k _ _ z hz; cases hz
    | cons r rs ih =>
      intro k hrs hk z hz
      rw [List.length_cons] at hk
      obtain ⟨h1, h2⟩ := hrs r List.mem_cons_self
      rcases List.mem_cons.mp hz with rfl | hz
      · exact line_nl (by omega) (by omega : m.tab.length ≤ 20) h1 h2
      · exact ih (k + 1) (fun q hq => hrs q (List.mem_cons_of_mem _ hq)) (by omega) z hz
  intro z hz
  rcases List.mem_cons.mp hz with rfl | hz
  · exact ends_nl h h6
  · exact go m.tab 0 (fun r hr => ⟨h.len r hr, h.lt r hr⟩) (by omega) z hz
theorem plain_mac (m : Mac) (h : ∀ r ∈ m.tab, r.length ≤ 3) (h6 : m.tab.length ≤ 6) (hl : m.last.length ≤ 6) : Plain 2 (.tup (m.tab.map rowD)) ∧ Plain 2 (.tup (m.last.map nD)) := by
  refine ⟨.tup (fun d hd => ?_) (by rw [List.length_map]; omega), .tup (fun d hd => ?_) (by rw [List.length_map]; omega)⟩
  · obtain ⟨r, hr, rfl⟩ := List.mem_map.mp hd
    have h1 : (rowK r).length ≤ r.length := row_len r 0
    have h2 := h r hr
    refine .dK (fun kv hkv => ?_) (by rw [List.length_map]; omega) fun kv hkv => ?_
    · obtain ⟨q, hq, rfl⟩ := List.mem_map.mp hkv
      rw [show rowK r = _ from ents_row r 0] at hq
      obtain ⟨e, he, rfl⟩ := List.mem_map.mp hq
      exact .fl rfl rfl
    · obtain ⟨q, hq, rfl⟩ := List.mem_map.mp hkv
      rw [show rowK r = _ from ents_row r 0] at hq
      obtain ⟨e, he, rfl⟩ := List.mem_map.mp hq
      show PyData.canLay0 (.str (letS e.1)) = true
      match e.1 with
      | 0 => decide +kernel
      | 1 => decide +kernel
      | n + 2 => exact (by decide +kernel : PyData.canLay0 (.str "c") = true)
  · obtain ⟨n, hn, rfl⟩ := List.mem_map.mp hd
    exact .fl rfl rfl
theorem cells_app : ∀ (r s : Row) (i : Nat), cellsWf i (r ++ s) = cellsWf i r ++ cellsWf (i + r.length) s
  | [], s, i => rfl
  | some x :: r, s, i => by
    show letS i :: natS x :: cellsWf (i + 1) (r ++ s) = letS i :: natS x :: (cellsWf (i + 1) r ++ _)
    rw [cells_app r s (i + 1), List.length_cons, Nat.add_right_comm, Nat.add_assoc]
  | none :: r, s, i => by
    show cellsWf (i + 1) (r ++ s) = cellsWf (i + 1) r ++ _
    rw [cells_app r s (i + 1), List.length_cons, Nat.add_right_comm, Nat.add_assoc]
end
end Rk06

open PySem L2 TL
namespace Rk06
section
variable {P : Program} {w : World} {K : PySem.W.Frag} {mg : Str → Option Value} {base : Heap}
def spLaw : Prm := fun ds L KK KE => ∃ ns : List Int, ds = [.sq (ns.map D.int)] ∧ ns.length ≤ 63 ∧ L = [] ∧ KK (.bl true) []
theorem ok_law {f Cm Cr CL : Addr} {fd : FuncData} (FF : Fun K "law" "law" s_law f fd) (B : Bi mg) (g1 : Glob P w K mg base "_law_begin" ["_law_script"] spBegin 1) (g2 : Glob P w K mg base "_law_draw" ["_law_draws", "_law_size"] spDraw 1)
    (g3 : Glob P w K mg base "_law_machine" ["_law_draws", "_law_many", "_law_letters"] spLMach 2) (g4 : Glob P w K mg base "_law_make" ["_law_machine_here"] (spMake Cm Cr) 6) (g5 : Glob P w K mg base "write_machine" ["machine"] (spWriteM Cm Cr) 2) (g6 : Glob P w K mg base "read_machine" ["text"] (spRead Cm Cr CL) 6)
    (g7 : Glob P w K mg base "_law_like" ["_law_actual", "_law_due"] (spLike 2) 3) (cM : Cls K Cm) (m1 : Mth P w K mg base Cm "rows" ["self"] (spRows Cm Cr) 1) (m2 : Mth P w K mg base Cm "ends" ["self"] (spEndsM Cm Cr) 1) : Def P w K mg base 7 f fd ["_law_script"] spLaw := by
  refine def_ok FF sc_law ?_ ?_
  · rintro ds L KK KE ⟨z, rfl, _⟩
    rfl
  · rintro ds L KK KE ⟨ns, rfl, hn, rfl, hk⟩ H0 F0
    wtm_at "bg"
    wtm_at "lw"
    refine calls0 ⟨ns, rfl, hn, rfl, fun p => ?_⟩
    wtm_at "lw"
    refine calls_1 (draw_sp ns p _ _ _ 6 (by decide) (by decide) (by decide) (by decide) fun r pos wv s hr0 hr1 hp hw => ?_)
    obtain ⟨many, hm⟩ : ∃ m : Nat, 1 + r = (m : Int) := ⟨(1 + r).toNat, by omega⟩
    wtm_at "lw"
    rw [hm]
    refine calls_1 ⟨p, ns, pos, wv, s, many, 3, rfl, .inr rfl, rfl, hp, hw, by omega, by omega, fun m q pos wv s hd hp hw => ?_⟩
    refine ⟨_, by wtm_at "pt", ?_⟩
    refine run_ifQ (fun G' L' => ∃ (m : Mac) (pos wv s : Int), m.Ok ∧ m.tab.length ≤ 6 ∧ (∀ r ∈ m.tab, r.length = 3) ∧ G' = [some (.sq (ns.map D.int)), some (.ref p), some (.ref q), none, none, none, none, none, none, none] ∧ L' = [(q, .lst (lawD m)), (p, .lst (cellD ns pos wv s))]) ?_ ?_
    · wtm_at "go"
      refine calls_2 (draw_sp ns p _ _ _ 5 hp hw (by decide) (by decide) fun r2 pos2 wv2 s2 hr20 hr21 hp2 hw2 => ?_)
      wtm_at "go"
      · refine run_asg (ev_lstF ?_)
        wtm_at "ev"
        refine ⟨Nat.zero_le _, tgt_sub ?_⟩
        wtm_at "go"
        refine ⟨q, _, _, 1, _, rfl, rfl, rfl, .here, ?_⟩
        refine run_nil ⟨⟨m.tab, []⟩, pos2, wv2, s2, ⟨hd.ok.pos, hd.ok.len, hd.ok.lt, (fun _ h => nomatch h), .nil⟩, by show m.tab.length ≤ 6; have := hd.many; omega, hd.wide, rfl, rfl⟩
      · exact ⟨m, pos2, wv2, s2, hd.ok, by have := hd.many; omega, hd.wide, rfl, rfl⟩
    · rintro G' L' ⟨m, pos, wv, s, hok, h6, hw3, rfl, rfl⟩
      refine run_frz (x := "_law_machine_here") (by wtm_at "lk") .here (by wtm_at "pt") ?_
      refine run_drop (List.nil_sublist _) ?_
      show TL.Run _ [some (.sq (ns.map D.int)), some (.ref p), some (.lst (lawD m)), none, none, none, none, none, none, none] [] _ _
      have hll := last_len hok
      have hjs : ∀ l ∈ linesM m, l.length ≤ 1000 := fun l hl => by
        have := linesM_all hok h6 l hl
        omega
      have hjl : (linesM m).length ≤ 1000 := by
        unfold linesM
        rw [List.length_cons, linesFrom_len]
        omega
      refine run_set (by wtm_at "loc") (by wtm_at "mem") (ev_lst (ea_cons (ev_joinL (h := ?_) (k := fun hh => ev_join hh))))
      wtm_at "lw"
      refine ev_lc [("_law_end", 9)] rfl (by kernel_rfl) (ei_lst ?_)
      wtm_at "lw"
      refine ix_L .frz (at_nat (j := 1) rfl rfl) ?_
      refine ⟨_, .frz, ?_⟩
      refine lc_all m.last nD (fun n => .str (natS n)) rfl (sz_lt (by omega)) (fun _ h => (nomatch h)) ?_ ?_
      · intro F1 Dl e acc he
        refine tn_name (i := 9) (by wtm_at "loc") rfl (List.mem_singleton.mpr rfl) ?_
        wtm_at "wz"
        wtm_at "go"
        have := hok.ends e he
        refine cv_strI (log_small (by omega) (by omega)) ⟨rfl, List.Sublist.refl _⟩
      · intro Dl
        refine op_catF .frz (.own (.head _)) ?_ ?_
        · rw [List.length_map]
          exact sz_of (show 1 + m.last.length ≤ 1000000 by omega)
        have e0 : [D.str "ends"] ++ m.last.map (fun n => D.str (natS n)) = (("ends" : Str) :: m.last.map natS).map D.str := by
          rw [List.map_cons, List.map_map]
          rfl
        rw [e0]
        refine ⟨_, .lst .frz, ?_, ?_, (by show (1 : Nat) ≤ 1000; decide), ?_⟩
        · intro z hz
          have := sig_len (ends_sig hok (by omega) z hz)
          omega
        · rw [List.length_cons, List.length_map]
          omega
        refine ea_nil ⟨Nat.le_of_ble_eq_true rfl, fun pr => ?_⟩
        refine ⟨_, by wtm_at "pt", ?_⟩
        refine run_drop (L' := [(pr, .lst ([endsLine m].map D.str))]) ((List.nil_sublist _).cons_cons _) ?_
        refine run_for rfl rfl (ei_rng1 (by wtm_at "gl") (by wtm_at "bi") ?_)
        wtm_at "ev"
        wtm_at "ev"
        wtm_at "ev"
        wtm_at "ev"
        wtm_at "ev"
        refine ix_L .frz (at_nat (j := 0) rfl rfl) ?_
        wtm_at "ev"
        refine cv_lenQ (.lst .frz) ?_
        rw [List.length_map]
        refine ⟨_, rfl, by omega, by omega, ?_⟩
        refine for_map (List.range m.tab.length) (fun k => nD k) (rng0 _) (fun i G' L' => ∃ a b c : Option D, G' = [some (.sq (ns.map D.int)), some (.ref p), some (.lst (lawD m)), some (.ref pr), a, b, c, none, none, none] ∧ i ≤ m.tab.length ∧ L' = [(pr, .lst ((endsLine m :: linesFrom 0 (m.tab.take i)).map D.str))]) ⟨_, _, _, rfl, Nat.zero_le _, rfl⟩ (fun _ _ _ _ _ h => (nomatch h)) ?_ ?_
        · rintro F1 i x G' L' hx hlt ⟨a, b, c, rfl, hi, rfl⟩
          rw [List.length_range] at hlt
          obtain ⟨hlt3, ey⟩ := List.getElem?_eq_some_iff.mp hx
          rw [List.getElem_range] at ey
          subst ey
          have hgr : m.tab[i]? = some m.tab[i] := List.getElem?_eq_getElem hlt
          generalize hr : m.tab[i] = r at hgr
          have hrm := List.mem_of_getElem? hgr
          have htk : m.tab.take (i + 1) = m.tab.take i ++ [r] := by
            rw [List.take_succ, hgr]
            rfl
          have hr3 := hw3 r hrm
          have hrx := hok.lt r hrm
          have hixr : (m.tab.map rowD)[i]? = some (rowD r) := by rw [List.getElem?_map, hgr]; rfl
          refine tgt_name (by wtm_at "loc") (by wtm_at "pt") ?_
          refine run_set (by wtm_at "loc") (by wtm_at "mem") (ev_lstF ?_)
          wtm_at "ev"
          wtm_at "ev"
          wtm_at "ev"
          wtm_at "ev"
          wtm_at "ev"
          refine cv_strI (log_small (by omega) (by omega)) ?_
          wtm_at "ev"
          refine ⟨Nat.le_of_ble_eq_true rfl, _, by wtm_at "pt", ?_⟩
          refine run_for rfl rfl (ei_lst (ev_lstF ?_))
          wtm_at "go"
          · exact Nat.le_of_ble_eq_true rfl
          refine ⟨_, .frz, ?_⟩
          refine for_map (List.range 3) (fun l => .str (letS l)) rfl (fun l G' L' => ∃ c : Option D, G' = [some (.sq (ns.map D.int)), some (.ref p), some (.lst (lawD m)), some (.ref pr), some (nD i), some (.lst ((natS i :: cellsWf 0 (r.take l)).map D.str)), c, none, none, none] ∧ L' = [(pr, .lst ((endsLine m :: linesFrom 0 (m.tab.take i)).map D.str))]) ⟨_, rfl, rfl⟩ (fun _ _ _ _ _ h => (nomatch h)) ?_ ?_
          · rintro F2 l y G' L' hy hltl ⟨c, rfl, rfl⟩
            rw [List.length_range] at hltl
            obtain ⟨_, ey⟩ := List.getElem?_eq_some_iff.mp hy
            rw [List.getElem_range] at ey
            subst ey
            have hgl : r[l]? = some r[l] := List.getElem?_eq_getElem (by omega)
            have hgd : r.getD l none = r[l] := by rw [List.getD_eq_getElem?_getD, hgl]; rfl
            generalize ho : r[l] = o at hgl hgd
            have htl : r.take (l + 1) = r.take l ++ [o] := by
              rw [List.take_succ, hgl]
              rfl
            have hlen : (r.take l).length = l := by rw [List.length_take]; omega
            have hcap : cellsWf 0 (r.take (l + 1)) = cellsWf 0 (r.take l) ++ cellsWf l [o] := by
              rw [htl, cells_app, hlen, Nat.zero_add]
            refine tgt_name (by wtm_at "loc") (by wtm_at "pt") ?_
            wtm_at "go"
            refine ix_L .frz (at_nat (j := 0) rfl rfl) ?_
            wtm_at "go"
            refine ix_L .frz (at_nat (j := i) rfl hixr) ?_
            refine op_inK (k := lkey l) rfl .frz ?_
            have hv : valD ((rowK r).map fun kv => (kv.1, D.v kv.2)) (lkey l) = o.map nD := by
              rw [valD_map, valV_row (by omega) hltl, hgd]
              cases o <;> rfl
            rw [hv]
            cases o with
            | none =>
              refine ⟨_, rfl, fun h => (nomatch h), fun _ => ?_⟩
              refine run_nil (run_nil ⟨some (.str (letS l)), ?_, rfl⟩)
              rw [hcap]
              show _ = [_, _, _, _, _, some (D.lst ((natS i :: (cellsWf 0 (r.take l) ++ [])).map D.str)), _, _, _, _]
              rw [List.append_nil]
            | some x =>
              have hx6 : x < m.tab.length := hrx x (List.mem_of_getElem? hgl)
              refine ⟨_, rfl, fun _ => ?_, fun h => (nomatch h)⟩
              refine run_set (by wtm_at "loc") (by wtm_at "mem") ?_
              wtm_at "ev"
              wtm_at "ev"
              refine ev_lstF ?_
              wtm_at "go"
              refine ix_L .frz (at_nat (j := 0) rfl rfl) ?_
              wtm_at "go"
              refine ix_L .frz (at_nat (j := i) rfl hixr) ?_
              wtm_at "go"
              refine ix_K (k := lkey l) rfl .frz hv ?_
              wtm_at "go"
              refine cv_strI (log_small (by omega) (by omega)) ?_
              wtm_at "go"
              · exact Nat.le_of_ble_eq_true rfl
              have hcl := cells_len (r.take l) 0
              refine op_catF .frz .frz (by rw [List.length_map, List.length_cons]; exact sz_of (show (cellsWf 0 (r.take l)).length + 1 + 2 ≤ 1000000 by omega)) ?_
              refine ⟨_, by wtm_at "pt", ?_⟩
              refine run_nil (run_nil ⟨some (.str (letS l)), ?_, rfl⟩)
              rw [hcap]
              show _ = [_, _, _, _, _, some (D.lst ((natS i :: (cellsWf 0 (r.take l) ++ [letS l, natS x])).map D.str)), _, _, _, _]
              rw [← List.cons_append, List.map_append]
              rfl
          · rintro G' L' ⟨c, rfl, rfl⟩
            have e3 : r.take (List.range 3).length = r := List.take_of_length_le (by rw [List.length_range]; omega)
            rw [e3]
            refine run_expr (ev_append ?_)
            wtm_at "ev"
            refine ⟨pr, _, rfl, .head _, ?_⟩
            refine ev_joinL (h := ?_) (k := fun hh => ev_join hh)
            wtm_at "lw"
            have sg : ∀ z ∈ natS i :: cellsWf 0 r, sig z = true := by
              intro z hz
              rcases List.mem_cons.mp hz with rfl | hz
              · exact sig_nat (by omega)
              · exact sig_cells r (n := m.tab.length) (by omega) hrx 0 z hz
            refine ⟨natS i :: cellsWf 0 r, .lst .frz, ?_, ?_, (by show (1 : Nat) ≤ 1000; decide), ?_⟩
            · intro z hz
              have := sig_len (sg z hz)
              omega
            · have := cells_len r 0
              rw [List.length_cons]
              omega
            refine ⟨_, _, .here, ?_, ?_⟩
            · rw [List.length_map, List.length_cons, linesFrom_len, List.length_take]
              exact sz_lt (show min i m.tab.length + 1 ≤ 1000000 by omega)
            · refine run_nil ⟨_, _, _, rfl, hlt, ?_⟩
              rw [htk, linesFrom_app, List.length_take, Nat.min_eq_left hi, Nat.zero_add, ← List.cons_append, List.map_append, ← rowLine_cells]
              rfl
        · rintro G' L' ⟨a, b, c, rfl, hi, rfl⟩
          rw [List.length_range, List.take_length]
          refine run_frz (x := "_law_lines") (by wtm_at "lk") .here (by wtm_at "pt") ?_
          show TL.Run _ [some (.sq (ns.map D.int)), some (.ref p), some (.lst (lawD m)), some (.lst ((linesM m).map D.str)), a, b, c, none, none, none] [] _ _
          wtm_at "gn"
          refine calls0 ⟨m, rfl, hok, h6, rfl, ?_⟩
          wtm_at "gn"
          refine calls0 ⟨m, rfl, hok, h6, rfl, ?_⟩
          refine ev_joinL (h := ?_) (k := fun hh => ev_join hh)
          wtm_at "gn"
          refine ⟨linesM m, .lst .frz, hjs, hjl, (by show (1 : Nat) ≤ 1000; decide), ?_⟩
          refine op_neS ?_
          rw [decide_eq_true rfl]
          refine ⟨_, rfl, fun h => (nomatch h), fun _ => ?_⟩
          refine run_nil ?_
          refine run_set (by wtm_at "loc") (by wtm_at "mem") ?_
          wtm_at "ev"
          refine ea_cons (ev_joinL (h := ?_) (k := fun hh => ev_join hh))
          wtm_at "gn"
          refine ⟨linesM m, .lst .frz, hjs, hjl, (by show (1 : Nat) ≤ 1000; decide), ?_⟩
          wtm_at "gn"
          have nl := lines_nlM hok h6
          have hlen : (linesM m).length = m.tab.length + 1 := by
            unfold linesM
            rw [List.length_cons, linesFrom_len]
          have hrd : readM (Txt.join "\n" (linesM m)) = .inr (m.tab.map rowK, m.last.map fun n => ((n : Nat) : Int)) := by
            exact (read_nl (ls := linesM m) (List.cons_ne_nil _ _) nl).trans (readL_mac hok h6)
          refine calls0 ⟨_, rfl, text_nl (List.cons_ne_nil _ _) (by omega) nl, rfl, fun n hne => ?_, fun rs es he => ?_⟩
          · rw [hrd] at hne
            cases hne
          · rw [hrd] at he
            cases he
            have hmd : machD Cm Cr (m.tab.map rowK) (m.last.map fun n => ((n : Nat) : Int)) = macD Cm Cr m := by
              unfold machD
              have e := rdr_mac Cr hok.len
              have e2 : ((m.last.map fun n => ((n : Nat) : Int)).map V.int) = m.last.map nV := by
                rw [List.map_map]
                rfl
              rw [e2, e]
            refine ⟨ok_rowsOk hok (by omega), by rw [List.length_map]; omega, ?_, by rw [List.length_map]; exact h6, ?_⟩
            · have e2 : ((m.last.map fun n => ((n : Nat) : Int)).map V.int) = m.last.map nV := by
                rw [List.map_map]
                rfl
              rw [e2]
              exact ok_isMach hok
            rw [hmd]
            refine ⟨_, by wtm_at "pt", ?_⟩
            obtain ⟨pl1, pl2⟩ := plain_mac m hok.len h6 (by omega)
            wtm_at "go"
            refine calls0 ⟨m, rfl, by omega, rfl, ?_⟩
            wtm_at "go"
            refine ix_L .frz (at_nat (j := 0) rfl rfl) ?_
            wtm_at "go"
            refine calls0 ⟨_, rfl, pl1, rfl, ?_⟩
            wtm_at "go"
            refine calls0 ⟨m, rfl, rfl, ?_⟩
            wtm_at "go"
            refine ix_L .frz (at_nat (j := 1) rfl rfl) ?_
            wtm_at "go"
            refine calls0 ⟨_, rfl, pl2, rfl, ?_⟩
            exact hk
end
end Rk06

open PySem L2 TL
namespace Rk06
section
variable {P : Program} {w : World} {K : PySem.W.Frag} {mg : Str → Option Value} {base : Heap}
theorem exm_self {K : PySem.W.Frag} {S : Addr} (h1 : PySem.W.subIn K (.ref S) (.type "BaseException") = some true) (h2 : PySem.W.isClsIn K S = true) (h3 : PySem.W.typeIn K (.ref S) = some (.type "type")) (h4 : PySem.W.subIn K (.ref S) (.ref S) = some true) :
    PySem.W.exmOne K (.ref S) (.ref S) = some true := by
  have e2 : ((PySem.W.clsIn K S).isSome && PySem.W.typeIn K (.ref S) == some (.type "type")) = true := by
    rw [show (PySem.W.clsIn K S).isSome = true from h2, h3] <;> rfl
  unfold PySem.W.exmOne PySem.W.kitCls
  simp only [h1, e2, h4]
  rfl
theorem kit_self {K : PySem.W.Frag} {C : Addr} : PySem.W.kitOne K (.ref C) (.ref C) = some true := by
  unfold PySem.W.kitOne
  simp
theorem kit_f {K : PySem.W.Frag} {C : Addr} {t : Value} {b : Bool} (h1 : PySem.W.isClsIn K C = true) (h2 : PySem.W.typeIn K (.ref C) = some (.type "type")) (h3 : PySem.W.subIn K t (.ref C) = some b) (h : (t == .ref C) = false) : PySem.W.kitOne K t (.ref C) = some b := by
  have e2 : ((PySem.W.clsIn K C).isSome && PySem.W.typeIn K (.ref C) == some (.type "type")) = true := by
    rw [show (PySem.W.clsIn K C).isSome = true from h1, h2] <;> rfl
  unfold PySem.W.kitOne PySem.W.kitCls
  simp only [h, e2, h3]
  rfl
theorem all_mk {l : PySem.W.OpenLaw} {w : World} {K : PySem.W.Frag} {h : Heap} {mg : Str → Option Value} {fa fiswhole fisletter fisrow fismachine fnumberof frises fendsin frowin freadmachine fwritemachine flawbegin flawdraw flawmachine flawmake flawlike flaw CReader CMachine fReader fMachine fMachinerows fMachineends CBadMachine CBadLine fBadLine pLETTERS : Addr} (X : K.In h) (G : h.Ns mainGlobals mg) (hfa : mg "law" = some (.ref fa))
    {odiswhole aniswhole : Option Addr} {sliswhole : Array (Option Value)} {ociswhole kViswhole dciswhole pmiswhole cdiswhole ctiswhole : Value}
    {odisletter anisletter : Option Addr} {slisletter : Array (Option Value)} {ocisletter kVisletter dcisletter pmisletter cdisletter ctisletter : Value}
    {odisrow anisrow : Option Addr} {slisrow : Array (Option Value)} {ocisrow kVisrow dcisrow pmisrow cdisrow ctisrow : Value}
    {odismachine anismachine : Option Addr} {slismachine : Array (Option Value)} {ocismachine kVismachine dcismachine pmismachine cdismachine ctismachine : Value}
    {odnumberof annumberof : Option Addr} {slnumberof : Array (Option Value)} {ocnumberof kVnumberof dcnumberof pmnumberof cdnumberof ctnumberof : Value}
    {odrises anrises : Option Addr} {slrises : Array (Option Value)} {ocrises kVrises dcrises pmrises cdrises ctrises : Value}
    {odendsin anendsin : Option Addr} {slendsin : Array (Option Value)} {ocendsin kVendsin dcendsin pmendsin cdendsin ctendsin : Value}
    {odrowin anrowin : Option Addr} {slrowin : Array (Option Value)} {ocrowin kVrowin dcrowin pmrowin cdrowin ctrowin : Value}
    {odreadmachine anreadmachine : Option Addr} {slreadmachine : Array (Option Value)} {ocreadmachine kVreadmachine dcreadmachine pmreadmachine cdreadmachine ctreadmachine : Value}
    {odwritemachine anwritemachine : Option Addr} {slwritemachine : Array (Option Value)} {ocwritemachine kVwritemachine dcwritemachine pmwritemachine cdwritemachine ctwritemachine : Value}
    {odlawbegin anlawbegin : Option Addr} {sllawbegin : Array (Option Value)} {oclawbegin kVlawbegin dclawbegin pmlawbegin cdlawbegin ctlawbegin : Value}
    {odlawdraw anlawdraw : Option Addr} {sllawdraw : Array (Option Value)} {oclawdraw kVlawdraw dclawdraw pmlawdraw cdlawdraw ctlawdraw : Value}
    {odlawmachine anlawmachine : Option Addr} {sllawmachine : Array (Option Value)} {oclawmachine kVlawmachine dclawmachine pmlawmachine cdlawmachine ctlawmachine : Value}
    {odlawmake anlawmake : Option Addr} {sllawmake : Array (Option Value)} {oclawmake kVlawmake dclawmake pmlawmake cdlawmake ctlawmake : Value}
    {odlawlike anlawlike : Option Addr} {sllawlike : Array (Option Value)} {oclawlike kVlawlike dclawlike pmlawlike cdlawlike ctlawlike : Value}
    {odlaw anlaw : Option Addr} {sllaw : Array (Option Value)} {oclaw kVlaw dclaw pmlaw cdlaw ctlaw : Value}
    {odReader anReader : Option Addr} {slReader : Array (Option Value)} {ocReader kVReader dcReader pmReader cdReader ctReader : Value}
    {odMachine anMachine : Option Addr} {slMachine : Array (Option Value)} {ocMachine kVMachine dcMachine pmMachine cdMachine ctMachine : Value}
    {odMachinerows anMachinerows : Option Addr} {slMachinerows : Array (Option Value)} {ocMachinerows kVMachinerows dcMachinerows pmMachinerows cdMachinerows ctMachinerows : Value}
    {odMachineends anMachineends : Option Addr} {slMachineends : Array (Option Value)} {ocMachineends kVMachineends dcMachineends pmMachineends cdMachineends ctMachineends : Value}
    {nmBadLine qnBadLine : Str} {NBadLine : Addr} {bsBadLine bmBadLine : List Value} {snBadLine suBadLine abBadLine coBadLine ddBadLine m0BadLine m1BadLine m2BadLine m3BadLine m5BadLine : _}
    {odBadLine anBadLine : Option Addr} {slBadLine : Array (Option Value)} {ocBadLine kVBadLine dcBadLine pmBadLine cdBadLine ctBadLine : Value}
    {tkFIGURES : Tok}
    {tkMOSTROWS : Tok}
    {dpLETTERS : Option Addr} {itLETTERS : Array Value} {nnLETTERS : Nat} {sqLETTERS : Array (Option Value)}
    (aiswhole : PySem.W.nsIn K mainGlobals "is_whole" = some (some (.ref fiswhole)))
    (liswhole : K.lookup fiswhole = some ⟨ociswhole, odiswhole, .func (PySem.W.fnOf "is_whole" "is_whole" (defArgs s_is_whole) (defBody s_is_whole) (defScope s_is_whole) .none kViswhole dciswhole pmiswhole aniswhole cdiswhole ctiswhole), sliswhole⟩)
    (ciswhole : PySem.W.codeIn K cdiswhole "is_whole" = true)
    (kiswhole : PySem.W.keepIn K (.ref fiswhole) = true)
    (aisletter : PySem.W.nsIn K mainGlobals "is_letter" = some (some (.ref fisletter)))
    (lisletter : K.lookup fisletter = some ⟨ocisletter, odisletter, .func (PySem.W.fnOf "is_letter" "is_letter" (defArgs s_is_letter) (defBody s_is_letter) (defScope s_is_letter) .none kVisletter dcisletter pmisletter anisletter cdisletter ctisletter), slisletter⟩)
    (cisletter : PySem.W.codeIn K cdisletter "is_letter" = true)
    (kisletter : PySem.W.keepIn K (.ref fisletter) = true)
    (aisrow : PySem.W.nsIn K mainGlobals "is_row" = some (some (.ref fisrow)))
    (lisrow : K.lookup fisrow = some ⟨ocisrow, odisrow, .func (PySem.W.fnOf "is_row" "is_row" (defArgs s_is_row) (defBody s_is_row) (defScope s_is_row) .none kVisrow dcisrow pmisrow anisrow cdisrow ctisrow), slisrow⟩)
    (cisrow : PySem.W.codeIn K cdisrow "is_row" = true)
    (kisrow : PySem.W.keepIn K (.ref fisrow) = true)
    (aismachine : PySem.W.nsIn K mainGlobals "is_machine" = some (some (.ref fismachine)))
    (lismachine : K.lookup fismachine = some ⟨ocismachine, odismachine, .func (PySem.W.fnOf "is_machine" "is_machine" (defArgs s_is_machine) (defBody s_is_machine) (defScope s_is_machine) .none kVismachine dcismachine pmismachine anismachine cdismachine ctismachine), slismachine⟩)
    (cismachine : PySem.W.codeIn K cdismachine "is_machine" = true)
    (kismachine : PySem.W.keepIn K (.ref fismachine) = true)
    (anumberof : PySem.W.nsIn K mainGlobals "number_of" = some (some (.ref fnumberof)))
    (lnumberof : K.lookup fnumberof = some ⟨ocnumberof, odnumberof, .func (PySem.W.fnOf "number_of" "number_of" (defArgs s_number_of) (defBody s_number_of) (defScope s_number_of) .none kVnumberof dcnumberof pmnumberof annumberof cdnumberof ctnumberof), slnumberof⟩)
    (cnumberof : PySem.W.codeIn K cdnumberof "number_of" = true)
    (knumberof : PySem.W.keepIn K (.ref fnumberof) = true)
    (arises : PySem.W.nsIn K mainGlobals "rises" = some (some (.ref frises)))
    (lrises : K.lookup frises = some ⟨ocrises, odrises, .func (PySem.W.fnOf "rises" "rises" (defArgs s_rises) (defBody s_rises) (defScope s_rises) .none kVrises dcrises pmrises anrises cdrises ctrises), slrises⟩)
    (crises : PySem.W.codeIn K cdrises "rises" = true)
    (krises : PySem.W.keepIn K (.ref frises) = true)
    (aendsin : PySem.W.nsIn K mainGlobals "ends_in" = some (some (.ref fendsin)))
    (lendsin : K.lookup fendsin = some ⟨ocendsin, odendsin, .func (PySem.W.fnOf "ends_in" "ends_in" (defArgs s_ends_in) (defBody s_ends_in) (defScope s_ends_in) .none kVendsin dcendsin pmendsin anendsin cdendsin ctendsin), slendsin⟩)
    (cendsin : PySem.W.codeIn K cdendsin "ends_in" = true)
    (kendsin : PySem.W.keepIn K (.ref fendsin) = true)
    (arowin : PySem.W.nsIn K mainGlobals "row_in" = some (some (.ref frowin)))
    (lrowin : K.lookup frowin = some ⟨ocrowin, odrowin, .func (PySem.W.fnOf "row_in" "row_in" (defArgs s_row_in) (defBody s_row_in) (defScope s_row_in) .none kVrowin dcrowin pmrowin anrowin cdrowin ctrowin), slrowin⟩)
    (crowin : PySem.W.codeIn K cdrowin "row_in" = true)
    (krowin : PySem.W.keepIn K (.ref frowin) = true)
    (areadmachine : PySem.W.nsIn K mainGlobals "read_machine" = some (some (.ref freadmachine)))
    (lreadmachine : K.lookup freadmachine = some ⟨ocreadmachine, odreadmachine, .func (PySem.W.fnOf "read_machine" "read_machine" (defArgs s_read_machine) (defBody s_read_machine) (defScope s_read_machine) .none kVreadmachine dcreadmachine pmreadmachine anreadmachine cdreadmachine ctreadmachine), slreadmachine⟩)
    (creadmachine : PySem.W.codeIn K cdreadmachine "read_machine" = true)
    (kreadmachine : PySem.W.keepIn K (.ref freadmachine) = true)
    (awritemachine : PySem.W.nsIn K mainGlobals "write_machine" = some (some (.ref fwritemachine)))
    (lwritemachine : K.lookup fwritemachine = some ⟨ocwritemachine, odwritemachine, .func (PySem.W.fnOf "write_machine" "write_machine" (defArgs s_write_machine) (defBody s_write_machine) (defScope s_write_machine) .none kVwritemachine dcwritemachine pmwritemachine anwritemachine cdwritemachine ctwritemachine), slwritemachine⟩)
    (cwritemachine : PySem.W.codeIn K cdwritemachine "write_machine" = true)
    (kwritemachine : PySem.W.keepIn K (.ref fwritemachine) = true)
    (alawbegin : PySem.W.nsIn K mainGlobals "_law_begin" = some (some (.ref flawbegin)))
    (llawbegin : K.lookup flawbegin = some ⟨oclawbegin, odlawbegin, .func (PySem.W.fnOf "_law_begin" "_law_begin" (defArgs s__law_begin) (defBody s__law_begin) (defScope s__law_begin) .none kVlawbegin dclawbegin pmlawbegin anlawbegin cdlawbegin ctlawbegin), sllawbegin⟩)
    (clawbegin : PySem.W.codeIn K cdlawbegin "_law_begin" = true)
    (klawbegin : PySem.W.keepIn K (.ref flawbegin) = true)
    (alawdraw : PySem.W.nsIn K mainGlobals "_law_draw" = some (some (.ref flawdraw)))
    (llawdraw : K.lookup flawdraw = some ⟨oclawdraw, odlawdraw, .func (PySem.W.fnOf "_law_draw" "_law_draw" (defArgs s__law_draw) (defBody s__law_draw) (defScope s__law_draw) .none kVlawdraw dclawdraw pmlawdraw anlawdraw cdlawdraw ctlawdraw), sllawdraw⟩)
    (clawdraw : PySem.W.codeIn K cdlawdraw "_law_draw" = true)
    (klawdraw : PySem.W.keepIn K (.ref flawdraw) = true)
    (alawmachine : PySem.W.nsIn K mainGlobals "_law_machine" = some (some (.ref flawmachine)))
    (llawmachine : K.lookup flawmachine = some ⟨oclawmachine, odlawmachine, .func (PySem.W.fnOf "_law_machine" "_law_machine" (defArgs s__law_machine) (defBody s__law_machine) (defScope s__law_machine) .none kVlawmachine dclawmachine pmlawmachine anlawmachine cdlawmachine ctlawmachine), sllawmachine⟩)
    (clawmachine : PySem.W.codeIn K cdlawmachine "_law_machine" = true)
    (klawmachine : PySem.W.keepIn K (.ref flawmachine) = true)
    (alawmake : PySem.W.nsIn K mainGlobals "_law_make" = some (some (.ref flawmake)))
    (llawmake : K.lookup flawmake = some ⟨oclawmake, odlawmake, .func (PySem.W.fnOf "_law_make" "_law_make" (defArgs s__law_make) (defBody s__law_make) (defScope s__law_make) .none kVlawmake dclawmake pmlawmake anlawmake cdlawmake ctlawmake), sllawmake⟩)
    (clawmake : PySem.W.codeIn K cdlawmake "_law_make" = true)
    (klawmake : PySem.W.keepIn K (.ref flawmake) = true)
    (alawlike : PySem.W.nsIn K mainGlobals "_law_like" = some (some (.ref flawlike)))
    (llawlike : K.lookup flawlike = some ⟨oclawlike, odlawlike, .func (PySem.W.fnOf "_law_like" "_law_like" (defArgs s__law_like) (defBody s__law_like) (defScope s__law_like) .none kVlawlike dclawlike pmlawlike anlawlike cdlawlike ctlawlike), sllawlike⟩)
    (clawlike : PySem.W.codeIn K cdlawlike "_law_like" = true)
    (klawlike : PySem.W.keepIn K (.ref flawlike) = true)
    (alaw : PySem.W.nsIn K mainGlobals "law" = some (some (.ref flaw)))
    (llaw : K.lookup flaw = some ⟨oclaw, odlaw, .func (PySem.W.fnOf "law" "law" (defArgs s_law) (defBody s_law) (defScope s_law) .none kVlaw dclaw pmlaw anlaw cdlaw ctlaw), sllaw⟩)
    (claw : PySem.W.codeIn K cdlaw "law" = true)
    (klaw : PySem.W.keepIn K (.ref flaw) = true)
    (aCReader : PySem.W.nsIn K mainGlobals "Reader" = some (some (.ref CReader)))
    (pgReader : PySem.W.plainGet K CReader Str.empty = true)
    (hdReader : PySem.W.hasDictIn K CReader = true)
    (poReader : PySem.W.plainOver K CReader = true)
    (saReader : PySem.W.findIn K (.ref CReader) "__setattr__" = some (some (.builtin "object.__setattr__")))
    (nReadertable : PySem.W.findIn K (.ref CReader) "table" = some none)
    (nReaderlast : PySem.W.findIn K (.ref CReader) "last" = some none)
    (chaReader : PySem.W.findIn K (.ref CReader) "__class__" = some (some (.builtin "object.__class__")))
    (chmReader : PySem.W.mroIn K CReader (.type "object") = some true)
    (icReader : PySem.W.isClsIn K CReader = true)
    (tyReader : PySem.W.typeIn K (.ref CReader) = some (.type "type"))
    (aCMachine : PySem.W.nsIn K mainGlobals "Machine" = some (some (.ref CMachine)))
    (pgMachine : PySem.W.plainGet K CMachine Str.empty = true)
    (hdMachine : PySem.W.hasDictIn K CMachine = true)
    (poMachine : PySem.W.plainOver K CMachine = true)
    (saMachine : PySem.W.findIn K (.ref CMachine) "__setattr__" = some (some (.builtin "object.__setattr__")))
    (nMachineinner : PySem.W.findIn K (.ref CMachine) "inner" = some none)
    (chn : PySem.W.specialIn K (.builtin "object.__class__") "__get__" = some (some (.builtin "getset_descriptor.__get__")))
    (cht : PySem.W.takesIn K (.builtin "object.__class__") = some true)
    (wtupleReader : PySem.W.subIn K (.type "tuple") (.ref CReader) = some false)
    (wNoneTypeReader : PySem.W.subIn K (.type "NoneType") (.ref CReader) = some false)
    (wlistReader : PySem.W.subIn K (.type "list") (.ref CReader) = some false)
    (inReader : PySem.W.findIn K (.ref CReader) "__init__" = some (some (.ref fReader)))
    (jfReader : PySem.W.isFn K (.ref fReader) = true)
    (mkReader : PySem.W.makesIn K CReader = true)
    (kcReader : PySem.W.keepIn K (.ref CReader) = true)
    (lReader : K.lookup fReader = some ⟨ocReader, odReader, .func (PySem.W.fnOf "__init__" "Reader.__init__" (defArgs s_Reader_init) (defBody s_Reader_init) (defScope s_Reader_init) .none kVReader dcReader pmReader anReader cdReader ctReader), slReader⟩)
    (cReader : PySem.W.codeIn K cdReader "Reader.__init__" = true)
    (kReader : PySem.W.keepIn K (.ref fReader) = true)
    (inMachine : PySem.W.findIn K (.ref CMachine) "__init__" = some (some (.ref fMachine)))
    (jfMachine : PySem.W.isFn K (.ref fMachine) = true)
    (mkMachine : PySem.W.makesIn K CMachine = true)
    (kcMachine : PySem.W.keepIn K (.ref CMachine) = true)
    (lMachine : K.lookup fMachine = some ⟨ocMachine, odMachine, .func (PySem.W.fnOf "__init__" "Machine.__init__" (defArgs s_Machine_init) (defBody s_Machine_init) (defScope s_Machine_init) .none kVMachine dcMachine pmMachine anMachine cdMachine ctMachine), slMachine⟩)
    (cMachine : PySem.W.codeIn K cdMachine "Machine.__init__" = true)
    (kMachine : PySem.W.keepIn K (.ref fMachine) = true)
    (miMachinerows : PySem.W.findIn K (.ref CMachine) "rows" = some (some (.ref fMachinerows)))
    (mjMachinerows : PySem.W.isFn K (.ref fMachinerows) = true)
    (lMachinerows : K.lookup fMachinerows = some ⟨ocMachinerows, odMachinerows, .func (PySem.W.fnOf "rows" "Machine.rows" (defArgs s_Machine_rows) (defBody s_Machine_rows) (defScope s_Machine_rows) .none kVMachinerows dcMachinerows pmMachinerows anMachinerows cdMachinerows ctMachinerows), slMachinerows⟩)
    (cMachinerows : PySem.W.codeIn K cdMachinerows "Machine.rows" = true)
    (kMachinerows : PySem.W.keepIn K (.ref fMachinerows) = true)
    (miMachineends : PySem.W.findIn K (.ref CMachine) "ends" = some (some (.ref fMachineends)))
    (mjMachineends : PySem.W.isFn K (.ref fMachineends) = true)
    (lMachineends : K.lookup fMachineends = some ⟨ocMachineends, odMachineends, .func (PySem.W.fnOf "ends" "Machine.ends" (defArgs s_Machine_ends) (defBody s_Machine_ends) (defScope s_Machine_ends) .none kVMachineends dcMachineends pmMachineends anMachineends cdMachineends ctMachineends), slMachineends⟩)
    (cMachineends : PySem.W.codeIn K cdMachineends "Machine.ends" = true)
    (kMachineends : PySem.W.keepIn K (.ref fMachineends) = true)
    (aCBadMachine : PySem.W.nsIn K mainGlobals "BadMachine" = some (some (.ref CBadMachine)))
    (aCBadLine : PySem.W.nsIn K mainGlobals "BadLine" = some (some (.ref CBadLine)))
    (xcBadMachine : PySem.W.excIn K CBadMachine [.type "ValueError", .type "Exception", .type "BaseException", .type "object"] "ValueError.__new__" = true)
    (kpBadMachine : PySem.W.keepIn K (.ref CBadMachine) = true)
    (sbBadMachine : PySem.W.subIn K (.ref CBadMachine) (.type "BaseException") = some true)
    (tyBadMachine : PySem.W.typeIn K (.ref CBadMachine) = some (.type "type"))
    (kpBadLine : PySem.W.keepIn K (.ref CBadLine) = true)
    (sbBadLine : PySem.W.subIn K (.ref CBadLine) (.type "BaseException") = some true)
    (tyBadLine : PySem.W.typeIn K (.ref CBadLine) = some (.type "type"))
    (xlBadLine : K.lookup CBadLine = some (excClassObj nmBadLine qnBadLine CBadLine NBadLine bsBadLine bmBadLine true snBadLine suBadLine abBadLine coBadLine ddBadLine m0BadLine m1BadLine m2BadLine m3BadLine m5BadLine "ValueError.__new__"))
    (bmBadLine : PySem.HandSPX.refsVE bmBadLine = true)
    (saeBadLine : PySem.W.findIn K (.ref CBadLine) "__setattr__" = some (some (.builtin "object.__setattr__")))
    (inBadLine : PySem.W.findIn K (.ref CBadLine) "__init__" = some (some (.ref fBadLine)))
    (tfBadLine : PySem.W.typeIn K (.ref fBadLine) = some (.type "function"))
    (lBadLine : K.lookup fBadLine = some ⟨ocBadLine, odBadLine, .func (PySem.W.fnOf "__init__" "BadLine.__init__" (defArgs s_BadLine_init) (defBody s_BadLine_init) (defScope s_BadLine_init) .none kVBadLine dcBadLine pmBadLine anBadLine cdBadLine ctBadLine), slBadLine⟩)
    (cBadLine : PySem.W.codeIn K cdBadLine "BadLine.__init__" = true)
    (kBadLine : PySem.W.keepIn K (.ref fBadLine) = true)
    (nlBadLine : PySem.W.findIn K (.ref CBadLine) "line" = some none)
    (vFIGURES : PySem.W.nsIn K mainGlobals "FIGURES" = some (some (.str figs tkFIGURES)))
    (vMOSTROWS : PySem.W.nsIn K mainGlobals "MOST_ROWS" = some (some (.int 6 tkMOSTROWS)))
    (vLETTERS : PySem.W.nsIn K mainGlobals "LETTERS" = some (some (.ref pLETTERS)))
    (lLETTERS : K.lookup pLETTERS = some ⟨.type "tuple", dpLETTERS, .seq itLETTERS nnLETTERS, sqLETTERS⟩)
    (rLETTERS : Vals letV itLETTERS.toList)
    (zlen : PySem.W.nsIn K mainGlobals "len" = some none)
    (zisinstance : PySem.W.nsIn K mainGlobals "isinstance" = some none)
    (zrange : PySem.W.nsIn K mainGlobals "range" = some none)
    (zint : PySem.W.nsIn K mainGlobals "int" = some none)
    (zstr : PySem.W.nsIn K mainGlobals "str" = some none)
    (zall : PySem.W.nsIn K mainGlobals "all" = some none)
    (zany : PySem.W.nsIn K mainGlobals "any" = some none)
    (zmin : PySem.W.nsIn K mainGlobals "min" = some none)
    (zmax : PySem.W.nsIn K mainGlobals "max" = some none)
    (ztuple : PySem.W.nsIn K mainGlobals "tuple" = some none)
    (zlist : PySem.W.nsIn K mainGlobals "list" = some none)
    (zdict : PySem.W.nsIn K mainGlobals "dict" = some none)
    (zzip : PySem.W.nsIn K mainGlobals "zip" = some none)
    (zenumerate : PySem.W.nsIn K mainGlobals "enumerate" = some none)
    (zsum : PySem.W.nsIn K mainGlobals "sum" = some none)
    (zsorted : PySem.W.nsIn K mainGlobals "sorted" = some none)
    (zbool : PySem.W.nsIn K mainGlobals "bool" = some none)
    : ∃ fd : FuncData, (∀ (s : Shared) (v : Value), BindsTo s fd ⟨[v], []⟩ [("_law_script", v)]) ∧ ∀ base : Heap, K.In base → base.Ns mainGlobals mg → FnOk l.prog w K mg base (L2.CX l.prog w) 7 fa fd ["_law_script"] (TSp K spLaw) := by
  have e := hfa.symm.trans (PySem.W.mg_of X G alaw)
  cases e
  have B : Bi mg := ⟨fun {x} hx => by
    have hm : x ∈ biNames := mem_of hx
    simp only [biNames, List.mem_cons, List.not_mem_nil, or_false] at hm
    rcases hm with rfl | rfl | rfl | rfl | rfl | rfl | rfl | rfl | rfl | rfl | rfl | rfl | rfl | rfl | rfl | rfl | rfl
    · exact PySem.W.mg_none_of X G zlen
    · exact PySem.W.mg_none_of X G zisinstance
    · exact PySem.W.mg_none_of X G zrange
    · exact PySem.W.mg_none_of X G zint
    · exact PySem.W.mg_none_of X G zstr
    · exact PySem.W.mg_none_of X G zall
    · exact PySem.W.mg_none_of X G zany
    · exact PySem.W.mg_none_of X G zmin
    · exact PySem.W.mg_none_of X G zmax
    · exact PySem.W.mg_none_of X G ztuple
    · exact PySem.W.mg_none_of X G zlist
    · exact PySem.W.mg_none_of X G zdict
    · exact PySem.W.mg_none_of X G zzip
    · exact PySem.W.mg_none_of X G zenumerate
    · exact PySem.W.mg_none_of X G zsum
    · exact PySem.W.mg_none_of X G zsorted
    · exact PySem.W.mg_none_of X G zbool⟩
  have gFIGURES : GVal mg "FIGURES" (.str figs) := ⟨_, PySem.W.mg_of X G vFIGURES, ⟨_, rfl⟩⟩
  have gMOSTROWS : GVal mg "MOST_ROWS" (.int 6) := ⟨_, PySem.W.mg_of X G vMOSTROWS, ⟨_, rfl⟩⟩
  have gLETTERS : GTup K mg "LETTERS" letV := ⟨pLETTERS, PySem.W.mg_of X G vLETTERS, fun F => .inr ⟨_, itLETTERS, nnLETTERS, lLETTERS, rfl, rfl, (by rw [← Array.length_toList, ← Paired.length rLETTERS]; decide), rLETTERS⟩⟩
  have clReader : Cls K CReader := ⟨pgReader, hdReader, poReader, saReader⟩
  have gCReader : GVal mg "Reader" (.ref CReader) := ⟨_, PySem.W.mg_of X G aCReader, rfl⟩
  have noReadertable : NoAttr K CReader "table" := nReadertable
  have noReaderlast : NoAttr K CReader "last" := nReaderlast
  have ciReader : ClsI K CReader := ⟨clReader, chaReader, chn, cht, chmReader⟩
  have clMachine : Cls K CMachine := ⟨pgMachine, hdMachine, poMachine, saMachine⟩
  have gCMachine : GVal mg "Machine" (.ref CMachine) := ⟨_, PySem.W.mg_of X G aCMachine, rfl⟩
  have noMachineinner : NoAttr K CMachine "inner" := nMachineinner
  have eBadMachine : ExcC K mg "BadMachine" CBadMachine := ⟨xcBadMachine, PySem.W.mg_of X G aCBadMachine, kpBadMachine, sbBadMachine, tyBadMachine⟩
  have FBadLine := fun_mk (st := s_BadLine_init) lBadLine cBadLine kBadLine
  have oBadLine : OexC K CBadLine := ⟨⟨_, _, _, _, _, _, _, _, _, _, _, _, _, _, _, xlBadLine, bmBadLine⟩, saeBadLine, sbBadLine, tyBadLine, kpBadLine⟩
  have Fiswhole := fun_mk (st := s_is_whole) liswhole ciswhole kiswhole
  have Fisletter := fun_mk (st := s_is_letter) lisletter cisletter kisletter
  have Fisrow := fun_mk (st := s_is_row) lisrow cisrow kisrow
  have Fismachine := fun_mk (st := s_is_machine) lismachine cismachine kismachine
  have FReader := fun_mk (st := s_Reader_init) lReader cReader kReader
  have FMachine := fun_mk (st := s_Machine_init) lMachine cMachine kMachine
  have FMachinerows := fun_mk (st := s_Machine_rows) lMachinerows cMachinerows kMachinerows
  have FMachineends := fun_mk (st := s_Machine_ends) lMachineends cMachineends kMachineends
  have Fnumberof := fun_mk (st := s_number_of) lnumberof cnumberof knumberof
  have Frises := fun_mk (st := s_rises) lrises crises krises
  have Fendsin := fun_mk (st := s_ends_in) lendsin cendsin kendsin
  have Frowin := fun_mk (st := s_row_in) lrowin crowin krowin
  have Freadmachine := fun_mk (st := s_read_machine) lreadmachine creadmachine kreadmachine
  have Fwritemachine := fun_mk (st := s_write_machine) lwritemachine cwritemachine kwritemachine
  have Flawbegin := fun_mk (st := s__law_begin) llawbegin clawbegin klawbegin
  have Flawdraw := fun_mk (st := s__law_draw) llawdraw clawdraw klawdraw
  have Flawmachine := fun_mk (st := s__law_machine) llawmachine clawmachine klawmachine
  have Flawmake := fun_mk (st := s__law_make) llawmake clawmake klawmake
  have Flawlike := fun_mk (st := s__law_like) llawlike clawlike klawlike
  have Flaw := fun_mk (st := s_law) llaw claw klaw
  refine ⟨PySem.W.fnOf "law" "law" (defArgs s_law) (defBody s_law) (defScope s_law) .none kVlaw dclaw pmlaw anlaw cdlaw ctlaw, fun s v => .of_eq rfl, fun base _ _ => ?_⟩
  have eLBadLine : ExcL l.prog w K mg base "BadLine" CBadLine "line" 1 := ⟨oBadLine, ⟨_, _, _, inBadLine, tfBadLine, low_ok FBadLine sc_BadLine_init oBadLine nlBadLine rfl (vis_of (by kernel_rfl)) (vis_of (by kernel_rfl)), FBadLine.binds (ps := ["self", "line"]) fun _ _ _ _ _ _ us hl => match us, hl with | [_, _], _ => rfl⟩, PySem.W.mg_of X G aCBadLine⟩
  have g_is_whole : Glob l.prog w K mg base "is_whole" ["thing", "least", "most"] spWhole 1 := ⟨_, _, ok_whole Fiswhole B, PySem.W.mg_of X G aiswhole, kiswhole, Fiswhole.binds (ps := ["thing", "least", "most"]) fun _ _ _ _ _ _ us hl => match us, hl with | [_, _, _], _ => rfl⟩
  have g_is_letter : Glob l.prog w K mg base "is_letter" ["thing"] spLetter 1 := ⟨_, _, ok_letter Fisletter B gLETTERS, PySem.W.mg_of X G aisletter, kisletter, Fisletter.binds (ps := ["thing"]) fun _ _ _ _ _ _ us hl => match us, hl with | [_], _ => rfl⟩
  have g_is_row : Glob l.prog w K mg base "is_row" ["thing", "many"] spRow 2 := ⟨_, _, ok_row Fisrow B g_is_letter g_is_whole, PySem.W.mg_of X G aisrow, kisrow, Fisrow.binds (ps := ["thing", "many"]) fun _ _ _ _ _ _ us hl => match us, hl with | [_, _], _ => rfl⟩
  have g_is_machine : Glob l.prog w K mg base "is_machine" ["rows", "ends"] spMach 3 := ⟨_, _, ok_machine Fismachine B g_is_row g_is_whole, PySem.W.mg_of X G aismachine, kismachine, Fismachine.binds (ps := ["rows", "ends"]) fun _ _ _ _ _ _ us hl => match us, hl with | [_, _], _ => rfl⟩
  have g_Reader : Cla l.prog w K mg base "Reader" CReader ["self", "rows", "ends"] (spRInit CReader) 1 := ⟨⟨_, _, ok_reader_init FReader B gLETTERS clReader noReadertable noReaderlast, PySem.W.mg_of X G aCReader, ⟨mkReader, inReader, jfReader, kcReader⟩, FReader.binds (ps := ["self", "rows", "ends"]) fun _ _ _ _ _ _ us hl => match us, hl with | [_, _, _], _ => rfl⟩, kcReader⟩
  have g_Machine : Cla l.prog w K mg base "Machine" CMachine ["self", "rows", "ends"] (spMInit CMachine CReader CBadMachine) 4 := ⟨⟨_, _, ok_machine_init FMachine B gCReader gMOSTROWS clMachine noMachineinner (kit_f icReader tyReader wtupleReader rfl) (kit_f icReader tyReader wNoneTypeReader rfl) (kit_f icReader tyReader wlistReader rfl) kit_self ciReader eBadMachine g_is_machine g_Reader, PySem.W.mg_of X G aCMachine, ⟨mkMachine, inMachine, jfMachine, kcMachine⟩, FMachine.binds (ps := ["self", "rows", "ends"]) fun _ _ _ _ _ _ us hl => match us, hl with | [_, _, _], _ => rfl⟩, kcMachine⟩
  have m_Machinerows : Mth l.prog w K mg base CMachine "rows" ["self"] (spRows CMachine CReader) 1 := ⟨_, _, ok_rows FMachinerows B clMachine clReader noMachineinner noReadertable, ⟨miMachinerows, mjMachinerows, kMachinerows⟩, FMachinerows.binds (ps := ["self"]) fun _ _ _ _ _ _ us hl => match us, hl with | [_], _ => rfl⟩
  have m_Machineends : Mth l.prog w K mg base CMachine "ends" ["self"] (spEndsM CMachine CReader) 1 := ⟨_, _, ok_endsm FMachineends B clMachine clReader noMachineinner noReaderlast, ⟨miMachineends, mjMachineends, kMachineends⟩, FMachineends.binds (ps := ["self"]) fun _ _ _ _ _ _ us hl => match us, hl with | [_], _ => rfl⟩
  have g_number_of : Glob l.prog w K mg base "number_of" ["word"] spNumber 1 := ⟨_, _, ok_number Fnumberof B gFIGURES, PySem.W.mg_of X G anumberof, knumberof, Fnumberof.binds (ps := ["word"]) fun _ _ _ _ _ _ us hl => match us, hl with | [_], _ => rfl⟩
  have g_rises : Glob l.prog w K mg base "rises" ["numbers"] spRises 1 := ⟨_, _, ok_rises Frises B, PySem.W.mg_of X G arises, krises, Frises.binds (ps := ["numbers"]) fun _ _ _ _ _ _ us hl => match us, hl with | [_], _ => rfl⟩
  have g_ends_in : Glob l.prog w K mg base "ends_in" ["line", "many"] (spEnds CBadLine) 3 := ⟨_, _, ok_ends Fendsin B g_number_of g_rises eLBadLine, PySem.W.mg_of X G aendsin, kendsin, Fendsin.binds (ps := ["line", "many"]) fun _ _ _ _ _ _ us hl => match us, hl with | [_, _], _ => rfl⟩
  have g_row_in : Glob l.prog w K mg base "row_in" ["line", "number", "many"] spRowIn 2 := ⟨_, _, ok_row_in Frowin B gLETTERS g_number_of g_rises, PySem.W.mg_of X G arowin, krowin, Frowin.binds (ps := ["line", "number", "many"]) fun _ _ _ _ _ _ us hl => match us, hl with | [_, _, _], _ => rfl⟩
  have g_read_machine : Glob l.prog w K mg base "read_machine" ["text"] (spRead CMachine CReader CBadLine) 6 := ⟨_, _, ok_read Freadmachine B gMOSTROWS g_ends_in g_row_in g_Machine eLBadLine, PySem.W.mg_of X G areadmachine, kreadmachine, Freadmachine.binds (ps := ["text"]) fun _ _ _ _ _ _ us hl => match us, hl with | [_], _ => rfl⟩
  have g_write_machine : Glob l.prog w K mg base "write_machine" ["machine"] (spWriteM CMachine CReader) 2 := ⟨_, _, ok_write Fwritemachine B gLETTERS clMachine m_Machinerows m_Machineends, PySem.W.mg_of X G awritemachine, kwritemachine, Fwritemachine.binds (ps := ["machine"]) fun _ _ _ _ _ _ us hl => match us, hl with | [_], _ => rfl⟩
  have g__law_begin : Glob l.prog w K mg base "_law_begin" ["_law_script"] spBegin 1 := ⟨_, _, ok_begin Flawbegin B, PySem.W.mg_of X G alawbegin, klawbegin, Flawbegin.binds (ps := ["_law_script"]) fun _ _ _ _ _ _ us hl => match us, hl with | [_], _ => rfl⟩
  have g__law_draw : Glob l.prog w K mg base "_law_draw" ["_law_draws", "_law_size"] spDraw 1 := ⟨_, _, ok_draw Flawdraw B, PySem.W.mg_of X G alawdraw, klawdraw, Flawdraw.binds (ps := ["_law_draws", "_law_size"]) fun _ _ _ _ _ _ us hl => match us, hl with | [_, _], _ => rfl⟩
  have g__law_machine : Glob l.prog w K mg base "_law_machine" ["_law_draws", "_law_many", "_law_letters"] spLMach 2 := ⟨_, _, ok_lmach Flawmachine B g__law_draw, PySem.W.mg_of X G alawmachine, klawmachine, Flawmachine.binds (ps := ["_law_draws", "_law_many", "_law_letters"]) fun _ _ _ _ _ _ us hl => match us, hl with | [_, _, _], _ => rfl⟩
  have g__law_make : Glob l.prog w K mg base "_law_make" ["_law_machine_here"] (spMake CMachine CReader) 6 := ⟨_, _, ok_make Flawmake B g_Machine, PySem.W.mg_of X G alawmake, klawmake, Flawmake.binds (ps := ["_law_machine_here"]) fun _ _ _ _ _ _ us hl => match us, hl with | [_], _ => rfl⟩
  have reclawlike := ok_like (P := l.prog) (w := w) (base := base) Flawlike B (PySem.W.mg_of X G alawlike) klawlike (Flawlike.binds (ps := ["_law_actual", "_law_due"]) fun _ _ _ _ _ _ us hl => match us, hl with | [_, _], _ => rfl)
  have g__law_like : Glob l.prog w K mg base "_law_like" ["_law_actual", "_law_due"] (spLike 2) 3 := ⟨_, _, reclawlike 2, PySem.W.mg_of X G alawlike, klawlike, Flawlike.binds (ps := ["_law_actual", "_law_due"]) fun _ _ _ _ _ _ us hl => match us, hl with | [_, _], _ => rfl⟩
  exact ok_law Flaw B g__law_begin g__law_draw g__law_machine g__law_make g_write_machine g_read_machine g__law_like clMachine m_Machinerows m_Machineends
end
end Rk06

open PySem L2 TL
namespace Rk06
section
variable {P : Program} {w : World} {K : PySem.W.Frag} {mg : Str → Option Value} {base : Heap}
theorem walk {l : PySem.W.OpenLaw} {q : Program} {loose : List Str} {XP : (Str → Option Value) → Heap → Prop} {YP : World → Heap → Prop} {d : DefRec} {K : Params → PySem.W.Frag} (hn : l.most = some 63) (hdf : d.params.defaults = [])
    (hY : ∀ (w : World) (h : Heap), YP w h → (K w.params).In h)
    (F : ∀ (w : World) (mg : Str → Option Value) (fa : Addr) (h : Heap), (K w.params).In h → h.Ns mainGlobals mg → mg d.name = some (.ref fa) →
      ∃ fd : FuncData, (∀ (s : Shared) (u : Value), BindsTo s fd ⟨[u], []⟩ [("_law_script", u)]) ∧ ∀ base : Heap, (K w.params).In base → base.Ns mainGlobals mg → FnOk l.prog w (K w.params) mg base (L2.CX l.prog w) 7 fa fd ["_law_script"] (TSp (K w.params) spLaw)) :
    PySem.W.WalkO q loose XP YP l.row.toRowW d [] (fun f vs => PySem.call f vs) := by
  refine L2.walk_of (n := 63) (k := 7) (x := "_law_script") (CX := fun w => L2.CX l.prog w) (sp := fun w => TSp (K w.params) spLaw) hn (by decide) hdf ⟨rfl, by decide, by decide⟩ hY F (fun w H a ns hl _ hS => ?_) ?_
  · have e : (ns.map V.int).map D.v = ns.map D.int := by
      rw [List.map_map]
      rfl
    refine ⟨H, H, [.sq (ns.map D.int)], [], fun d _ => d = .bl true, fun _ _ => False, .cons (.sq hS ?_) .nil, ⟨Same.refl _, Same.refl _, Same.refl _, fun _ _ _ h => h, fun _ h => (nomatch h), List.nodup_nil, .nil⟩, ⟨ns, rfl, hl, rfl, rfl⟩, fun d L' v F' H' k _ r => ?_, fun _ _ _ _ _ _ h => h.elim⟩
    · rw [← e]
      exact RepA.of_flats _
    · subst k
      exact r.flat
  · intro w H s e s' h
    obtain ⟨_, _, _, _, _, _, _, _, _, _, _, _, z⟩ := h
    exact z
end
end Rk06

open PySem PySem.W PyProof.Rows in
set_option maxRecDepth 100000 in
set_option maxHeartbeats 0 in
theorem PySem.Challenge.cw_repairscost_k06_texts_there_and_back_holds : PySem.Challenge.rw_repairscost_k06_texts_there_and_back.Holds := by
  w_on; o_law; k_head; (case hw => w_witness2)
  k_fill
  refine Rk06.walk (l := PySem.Challenge.rw_repairscost_k06_texts_there_and_back) rfl rfl (fun w h Y => PySem.W.kIn_of Y) ?F
  case F =>
    intro w mg fa h KX G hmg
    refine' Rk06.all_mk KX G hmg ?aiswhole ?liswhole ?ciswhole ?kiswhole ?aisletter ?lisletter ?cisletter ?kisletter ?aisrow ?lisrow ?cisrow ?kisrow ?aismachine ?lismachine ?cismachine ?kismachine ?anumberof ?lnumberof ?cnumberof ?knumberof ?arises ?lrises ?crises ?krises ?aendsin ?lendsin ?cendsin ?kendsin ?arowin ?lrowin ?crowin ?krowin ?areadmachine ?lreadmachine ?creadmachine ?kreadmachine ?awritemachine ?lwritemachine ?cwritemachine ?kwritemachine ?alawbegin ?llawbegin ?clawbegin ?klawbegin ?alawdraw ?llawdraw ?clawdraw ?klawdraw ?alawmachine ?llawmachine ?clawmachine ?klawmachine ?alawmake ?llawmake ?clawmake ?klawmake ?alawlike ?llawlike ?clawlike ?klawlike ?alaw ?llaw ?claw ?klaw ?aCReader ?pgReader ?hdReader ?poReader ?saReader ?nReadertable ?nReaderlast ?chaReader ?chmReader ?icReader ?tyReader ?aCMachine ?pgMachine ?hdMachine ?poMachine ?saMachine ?nMachineinner ?chn ?cht ?wtupleReader ?wNoneTypeReader ?wlistReader ?inReader ?jfReader ?mkReader ?kcReader ?lReader ?cReader ?kReader ?inMachine ?jfMachine ?mkMachine ?kcMachine ?lMachine ?cMachine ?kMachine ?miMachinerows ?mjMachinerows ?lMachinerows ?cMachinerows ?kMachinerows ?miMachineends ?mjMachineends ?lMachineends ?cMachineends ?kMachineends ?aCBadMachine ?aCBadLine ?xcBadMachine ?kpBadMachine ?sbBadMachine ?tyBadMachine ?kpBadLine ?sbBadLine ?tyBadLine ?xlBadLine ?bmBadLine ?saeBadLine ?inBadLine ?tfBadLine ?lBadLine ?cBadLine ?kBadLine ?nlBadLine ?vFIGURES ?vMOSTROWS ?vLETTERS ?lLETTERS ?rLETTERS ?zlen ?zisinstance ?zrange ?zint ?zstr ?zall ?zany ?zmin ?zmax ?ztuple ?zlist ?zdict ?zzip ?zenumerate ?zsum ?zsorted ?zbool
    (case aiswhole => k_is)
    (case liswhole => k_is)
    (case ciswhole => k_is)
    (case kiswhole => k_is)
    (case aisletter => k_is)
    (case lisletter => k_is)
    (case cisletter => k_is)
    (case kisletter => k_is)
    (case aisrow => k_is)
    (case lisrow => k_is)
    (case cisrow => k_is)
    (case kisrow => k_is)
    (case aismachine => k_is)
    (case lismachine => k_is)
    (case cismachine => k_is)
    (case kismachine => k_is)
    (case anumberof => k_is)
    (case lnumberof => k_is)
    (case cnumberof => k_is)
    (case knumberof => k_is)
    (case arises => k_is)
    (case lrises => k_is)
    (case crises => k_is)
    (case krises => k_is)
    (case aendsin => k_is)
    (case lendsin => k_is)
    (case cendsin => k_is)
    (case kendsin => k_is)
    (case arowin => k_is)
    (case lrowin => k_is)
    (case crowin => k_is)
    (case krowin => k_is)
    (case areadmachine => k_is)
    (case lreadmachine => k_is)
    (case creadmachine => k_is)
    (case kreadmachine => k_is)
    (case awritemachine => k_is)
    (case lwritemachine => k_is)
    (case cwritemachine => k_is)
    (case kwritemachine => k_is)
    (case alawbegin => k_is)
    (case llawbegin => k_is)
    (case clawbegin => k_is)
    (case klawbegin => k_is)
    (case alawdraw => k_is)
    (case llawdraw => k_is)
    (case clawdraw => k_is)
    (case klawdraw => k_is)
    (case alawmachine => k_is)
    (case llawmachine => k_is)
    (case clawmachine => k_is)
    (case klawmachine => k_is)
    (case alawmake => k_is)
    (case llawmake => k_is)
    (case clawmake => k_is)
    (case klawmake => k_is)
    (case alawlike => k_is)
    (case llawlike => k_is)
    (case clawlike => k_is)
    (case klawlike => k_is)
    (case alaw => k_is)
    (case llaw => k_is)
    (case claw => k_is)
    (case klaw => k_is)
    (case aCReader => k_is)
    (case pgReader => k_is)
    (case hdReader => k_is)
    (case poReader => k_is)
    (case saReader => k_is)
    (case nReadertable => k_is)
    (case nReaderlast => k_is)
    (case chaReader => k_is)
    (case chmReader => k_is)
    (case icReader => k_is)
    (case tyReader => k_is)
    (case aCMachine => k_is)
    (case pgMachine => k_is)
    (case hdMachine => k_is)
    (case poMachine => k_is)
    (case saMachine => k_is)
    (case nMachineinner => k_is)
    (case chn => k_is)
    (case cht => k_is)
    (case wtupleReader => k_is)
    (case wNoneTypeReader => k_is)
    (case wlistReader => k_is)
    (case inReader => k_is)
    (case jfReader => k_is)
    (case mkReader => k_is)
    (case kcReader => k_is)
    (case lReader => k_is)
    (case cReader => k_is)
    (case kReader => k_is)
    (case inMachine => k_is)
    (case jfMachine => k_is)
    (case mkMachine => k_is)
    (case kcMachine => k_is)
    (case lMachine => k_is)
    (case cMachine => k_is)
    (case kMachine => k_is)
    (case miMachinerows => k_is)
    (case mjMachinerows => k_is)
    (case lMachinerows => k_is)
    (case cMachinerows => k_is)
    (case kMachinerows => k_is)
    (case miMachineends => k_is)
    (case mjMachineends => k_is)
    (case lMachineends => k_is)
    (case cMachineends => k_is)
    (case kMachineends => k_is)
    (case aCBadMachine => k_is)
    (case aCBadLine => k_is)
    (case xcBadMachine => k_exc)
    (case kpBadMachine => k_is)
    (case sbBadMachine => k_is)
    (case tyBadMachine => k_is)
    (case kpBadLine => k_is)
    (case sbBadLine => k_is)
    (case tyBadLine => k_is)
    (case xlBadLine => k_is)
    (case bmBadLine => rfl)
    (case saeBadLine => k_is)
    (case inBadLine => k_is)
    (case tfBadLine => k_is)
    (case lBadLine => k_is)
    (case cBadLine => k_is)
    (case kBadLine => k_is)
    (case nlBadLine => k_is)
    (case vFIGURES => k_is)
    (case vMOSTROWS => k_is)
    (case vLETTERS => k_is)
    (case lLETTERS => k_is)
    (case rLETTERS => exact .cons ⟨_, rfl⟩ (.cons ⟨_, rfl⟩ (.cons ⟨_, rfl⟩ (.nil))))
    (case zlen => k_is)
    (case zisinstance => k_is)
    (case zrange => k_is)
    (case zint => k_is)
    (case zstr => k_is)
    (case zall => k_is)
    (case zany => k_is)
    (case zmin => k_is)
    (case zmax => k_is)
    (case ztuple => k_is)
    (case zlist => k_is)
    (case zdict => k_is)
    (case zzip => k_is)
    (case zenumerate => k_is)
    (case zsum => k_is)
    (case zsorted => k_is)
    (case zbool => k_is)

