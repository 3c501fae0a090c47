import PyProof.Rows.All
import Wide.All
import OpenK.AllK
import Wide.FinOn
import HandS.Base
import HandS.Call
import HandS.List
import HandS.Comp
import HandS.Ends
import HandS.Dict
import HandS.Iter
import HandS.Text
import HandS.More
import HandS.Words
import HandS.WordsExc
import HandS.Exc
import HandS.ExcOwn
import HandS.TryOnly
import HandS.Flow
import HandS.Star
import HandS.IsInst
import HandS.Property
import HandS.Defaults
import HandS.Deep
import HandS.Conv
import HandS.Zip
import HandS.TupAny
import HandS.Wide
import HandS.WideBits
import HandS.TupLen
import HandS.SortOrd
import HandS.Style
import HandS.Lambda
import HandS.ExcSuper
import HandS.ExcIs
import HandS.ExcValue
import HandS.TupMul
import HandS.RaiseMore
import KE.SortData
import KE.GoesEnum
import KE.GoesMore
import HandS.Strs
import HandS.Head0
import HandS.Head1
import HandS.Head2
import HandS.HeadEnd
import HandS.HeadHook1
import HandS.HeadHook2
import HandS.HeadHook3
import HandS.HeadHook4
import PySem.Challenge.RW_forkways_k67_what_is_best_asked
set_option Elab.async false
set_option linter.all false
set_option maxRecDepth 100000
set_option maxHeartbeats 2000000
namespace MM
open PySem PySem.Spec PyProof.Rows L2
abbrev Stt := List (Option V)
/-! ## pure data and the store -/
inductive D where
  | non | bl (b : Bool) | int (i : Int) | str (x : Str) | tup (xs : List D) | lst (xs : List D) | dct (ks vs : List D) | dcT (ks vs : List D)
  | obj (C : Str) (ns : List Str) (vs : List D) | ty (n : String) | cls (C : Str) | loc (n : Nat) | scr (xs : List Int) | clo (n : Nat) | exc (C : Str) (vs : List D)
instance : Inhabited D := ⟨.non⟩
inductive Cell where
  | lst (xs : List D) | dct (ks vs : List D) | dcT (ks vs : List D) | ins (C : Str) (ns : List Str) (vs : List D)
abbrev Sto := List Cell
abbrev Loc := List (Option D)
/-- an exception: its class, its one field (where it has one) -/
structure EV where
  cls : Str
  fld : Option (Str × D)
inductive Out (α : Type) where
  | ok (a : α) (S : Sto) | exc (e : EV) (S : Sto) | stuck
/-- the type of what comes of a thing to go on with: simp stays out of that thing -/
abbrev Tgd {τ : Type} (_ : τ) (X : Type u) : Type u := X
def Out.bind {α β : Type} (r : Out α) (k : α → Sto → Out β) : Tgd k (Out β) := match r with
  | .ok a S => k a S
  | .exc e S => .exc e S
  | .stuck => .stuck
@[simp] theorem bind_ok {α β : Type} (a : α) (S : Sto) (k : α → Sto → Out β) : (Out.ok a S).bind k = k a S := rfl
@[simp] theorem bind_exc {α β : Type} (e : EV) (S : Sto) (k : α → Sto → Out β) : (Out.exc e S : Out α).bind k = .exc e S := rfl
@[simp] theorem bind_stuck {α β : Type} (k : α → Sto → Out β) : (Out.stuck : Out α).bind k = .stuck := rfl
abbrev ME := Loc → Sto → Out D
abbrev MT := Loc → Sto → Out Bool
abbrev MA := Loc → Sto → Out (List D)
inductive Fl where
  | nx (L : Loc) | rt (v : D) | bk (L : Loc) | ct (L : Loc)
abbrev MB := Loc → Sto → Out Fl
abbrev FnM := List D → Sto → Out D
/-! ## what stands for what -/
/-- objects that no step but a cell's own writes or locks -/
def stab : HO → Prop
  | .lst _ => True
  | .ins _ _ _ => True
  | .ext _ => True
  | .tup _ => True
  | _ => False
def pl : HO → Prop
  | .tbl _ => False
  | .frz _ _ => False
  | _ => True
/-- the addresses of the cells; of lists that a comprehension is making; what stands at some address meanwhile -/
structure Mem where
  c : List Addr
  z : List Addr
  p : List (Addr × HO)
def Mem.has (M : Mem) (a : Addr) : Prop := a ∈ M.c ∨ a ∈ M.z
def Mem.app (M : Mem) (N : List Addr) : Mem := ⟨M.c ++ N, M.z, M.p⟩
def Mem.hot (M : Mem) (a : Addr) (u : HO) : Mem := ⟨M.c, a :: M.z, (a, u) :: M.p⟩
def Mem.pin (M : Mem) (a : Addr) (u : HO) : Mem := ⟨M.c, M.z, (a, u) :: M.p⟩
theorem Mem.has_app {M : Mem} {N : List Addr} {a : Addr} : (M.app N).has a ↔ M.has a ∨ a ∈ N := by
  unfold Mem.has Mem.app
  simp only [List.mem_append]
  constructor
  · rintro ((h | h) | h)
    · exact .inl (.inl h)
    · exact .inr h
    · exact .inl (.inr h)
  · rintro ((h | h) | h)
    · exact .inl (.inl h)
    · exact .inr h
    · exact .inl (.inr h)
theorem Mem.app_nil (M : Mem) : M.app [] = M := by
  unfold Mem.app
  rw [List.append_nil]
theorem Mem.app_app (M : Mem) (N N2 : List Addr) : (M.app N).app N2 = M.app (N ++ N2) := by
  unfold Mem.app
  simp
structure Step (H : Hp) (M : Mem) (H' : Hp) (M' : Mem) : Prop where
  ext : ∀ a u, ¬ M.has a → pl u → Rd H a u → Rd H' a u
  raw : ∀ a u, ¬ M.has a → stab u → H a = some u → H' a = some u
  dom : ∀ a, H' a = none → H a = none
  pre : ∃ N, M' = M.app N ∧ ∀ b ∈ N, H b = none
theorem Step.refl (H : Hp) (M : Mem) : Step H M H M := ⟨fun _ _ _ _ h => h, fun _ _ _ _ h => h, fun _ h => h, [], M.app_nil.symm, by simp⟩
theorem Step.nin {H H' : Hp} {M M' : Mem} (s : Step H M H' M') {a : Addr} (h : ¬ M.has a) (ha : H a ≠ none) : ¬ M'.has a := by
  obtain ⟨N, e, hN⟩ := s.pre
  rw [e, Mem.has_app]
  rintro (h1 | h1)
  · exact h h1
  · exact ha (hN a h1)
theorem rd_ne {H : Hp} {a : Addr} {u : HO} (h : Rd H a u) : H a ≠ none := by
  rcases h with h | ⟨o, h⟩ <;> rw [h] <;> exact fun z => nomatch z
theorem some_ne {H : Hp} {a : Addr} {u : HO} (h : H a = some u) : H a ≠ none := by rw [h]; exact fun z => nomatch z
theorem Step.trans {H H1 H2 : Hp} {M M1 M2 : Mem} (s : Step H M H1 M1) (t : Step H1 M1 H2 M2) : Step H M H2 M2 where
  ext := fun a u ha hu h => t.ext a u (s.nin ha (rd_ne h)) hu (s.ext a u ha hu h)
  raw := fun a u ha hu h => t.raw a u (s.nin ha (some_ne h)) hu (s.raw a u ha hu h)
  dom := fun a h => s.dom a (t.dom a h)
  pre := by
    obtain ⟨N, e, hN⟩ := s.pre
    obtain ⟨N2, e2, hN2⟩ := t.pre
    refine ⟨N ++ N2, by rw [e2, e, Mem.app_app], fun b hb => ?_⟩
    rcases List.mem_append.mp hb with h | h
    · exact hN b h
    · exact s.dom b (hN2 b h)
theorem Step.sub {H H' : Hp} {M M' : Mem} (s : Step H M H' M') {n : Nat} {a : Addr} (h : M.c[n]? = some a) : M'.c[n]? = some a := by
  obtain ⟨N, e, _⟩ := s.pre
  rw [e]
  show (M.c ++ N)[n]? = some a
  rw [List.getElem?_append_left (List.getElem?_eq_some_iff.mp h).1]
  exact h
theorem rd_up {H : Hp} {p a : Addr} {o u : HO} (ne : a ≠ p) (h : Rd H a u) : Rd (upd H p o) a u := by
  rcases h with h | ⟨w, h⟩
  · exact .inl (by rw [upd_ne ne]; exact h)
  · exact .inr ⟨w, by rw [upd_ne ne]; exact h⟩
theorem dom_up {H : Hp} {p : Addr} {o : HO} {a : Addr} (h : upd H p o a = none) : H a = none := by
  by_cases e : a = p
  · rw [e, upd_same] at h; cases h
  · rw [upd_ne e] at h; exact h
/-- a new object that is no cell -/
theorem Step.new {H : Hp} {M : Mem} {p : Addr} {o : HO} (hp : H p = none) : Step H M (upd H p o) M where
  ext := fun a u _ _ h => rd_up (fun e => by rw [e] at h; exact rd_ne h hp) h
  raw := fun a u _ _ h => by rw [upd_ne (ne_of_none h hp)]; exact h
  dom := fun a h => dom_up h
  pre := ⟨[], M.app_nil.symm, by simp⟩
/-- a new cell -/
theorem Step.newC {H : Hp} {M : Mem} {p : Addr} {o : HO} (hp : H p = none) : Step H M (upd H p o) (M.app [p]) :=
  let s := Step.new (M := M) (o := o) hp
  ⟨s.ext, s.raw, s.dom, [p], rfl, by simpa using hp⟩
/-- a cell is written -/
theorem Step.wr {H : Hp} {M : Mem} {p : Addr} {o : HO} (hm : M.has p) : Step H M (upd H p o) M where
  ext := fun a u ha _ h => rd_up (fun e => ha (by rw [e]; exact hm)) h
  raw := fun a u ha _ h => by rw [upd_ne (fun e => ha (by rw [e]; exact hm))]; exact h
  dom := fun a h => dom_up h
  pre := ⟨[], M.app_nil.symm, by simp⟩
/-- a dict is locked -/
theorem Step.lock {H : Hp} {M : Mem} {d : Addr} {u : HO} {od : Obj} (h : H d = some u) (hs : ¬ stab u) (hf : ∀ o v, u ≠ .frz o v) : Step H M (upd H d (.frz od u)) M where
  ext := fun a w _ _ q => by
    by_cases e : a = d
    · rw [e] at q ⊢
      rcases q with q | ⟨o, q⟩
      · rw [h] at q
        exact .inr ⟨od, by rw [upd_same, Option.some.inj q]⟩
      · rw [h] at q
        exact absurd (Option.some.inj q) (hf o w)
    · exact rd_up e q
  raw := fun a w _ hw q => by rw [upd_ne (fun e => by rw [e, h] at q; rw [Option.some.inj q] at hs; exact hs hw)]; exact q
  dom := fun a h => dom_up h
  pre := ⟨[], M.app_nil.symm, by simp⟩
/-- what a def's end leaves of its cells -/
theorem Step.cut {H H' : Hp} {M : Mem} {N : List Addr} (s : Step H M H' (M.app N)) : Step H M H' M :=
  ⟨s.ext, s.raw, s.dom, [], M.app_nil.symm, by simp⟩
/-- what stood for something still does -/
structure Tr (H : Hp) (M : Mem) (H' : Hp) (M' : Mem) : Prop where
  ext : ∀ a u, ¬ M.has a → pl u → Rd H a u → Rd H' a u
  raw : ∀ a u, ¬ M.has a → stab u → H a = some u → H' a = some u
  dom : ∀ a, H' a = none → H a = none
  nin : ∀ a, ¬ M.has a → H a ≠ none → ¬ M'.has a
  sub : ∀ (n : Nat) (a : Addr), M.c[n]? = some a → M'.c[n]? = some a
theorem Step.tr {H H' : Hp} {M M' : Mem} (s : Step H M H' M') : Tr H M H' M' := ⟨s.ext, s.raw, s.dom, fun _ h => s.nin h, fun _ _ h => s.sub h⟩
theorem Tr.trans {H H1 H2 : Hp} {M M1 M2 : Mem} (s : Tr H M H1 M1) (t : Tr H1 M1 H2 M2) : Tr H M H2 M2 where
  ext := fun a u ha hu h => t.ext a u (s.nin a ha (rd_ne h)) hu (s.ext a u ha hu h)
  raw := fun a u ha hu h => t.raw a u (s.nin a ha (some_ne h)) hu (s.raw a u ha hu h)
  dom := fun a h => s.dom a (t.dom a h)
  nin := fun a ha h => t.nin a (s.nin a ha h) (fun z => h (s.dom a z))
  sub := fun n a h => t.sub n a (s.sub n a h)
theorem Step.pin {H H' : Hp} {M M' : Mem} (s : Step H M H' M') : M'.p = M.p := by
  obtain ⟨N, e, _⟩ := s.pre
  rw [e]
  rfl
structure Gam where
  K : PySem.W.Frag
  cls : Str → Option Addr
  X : Hp → Mem → D → V → Prop
  Xs : ∀ H M H' M' d v, Tr H M H' M' → X H M d v → X H' M' d v
/-- a written tuple of the top -/
def KTup (K : PySem.W.Frag) (a : Addr) (vs : List V) : Prop := ∃ (o : Obj) (its : Array Value) (n : Nat), K.lookup a = some o ∧ o.cls = .type "tuple" ∧ o.data = .seq its n ∧ its.size ≤ sizeLine ∧ Vals vs its.toList
/-- a written list of the top -/
def KLst (K : PySem.W.Frag) (a : Addr) (vs : List V) : Prop := ∃ (o : Obj) (its : Array Value) (n : Nat), K.lookup a = some o ∧ o.cls = .type "list" ∧ o.dict = none ∧ o.data = .seq its n ∧ its.size ≤ sizeLine ∧ Vals vs its.toList
def keyD : Key → D
  | .inl i => .int i
  | .inr x => .str x
mutual
inductive Rep (G : Gam) (H : Hp) (M : Mem) : D → V → Prop
  | non : Rep G H M .non .non
  | bl (b : Bool) : Rep G H M (.bl b) (.bl b)
  | int (i : Int) : Rep G H M (.int i) (.int i)
  | str (x : Str) : Rep G H M (.str x) (.str x)
  | tup {a : Addr} {xs : List D} {vs : List V} : ¬ M.has a → H a = some (.tup vs) → Reps G H M xs vs → Rep G H M (.tup xs) (.ref a)
  | tupK {a : Addr} {xs : List D} {vs : List V} : KTup G.K a vs → Reps G H M xs vs → Rep G H M (.tup xs) (.ref a)
  | lst {a : Addr} {xs : List D} {vs : List V} : ¬ M.has a → H a = some (.lst vs) → Reps G H M xs vs → Rep G H M (.lst xs) (.ref a)
  | scr {a : Addr} {xs : List Int} : ¬ M.has a → Rd H a (.lst (xs.map V.int)) → Rep G H M (.scr xs) (.ref a)
  | scrK {a : Addr} {xs : List Int} : KLst G.K a (xs.map V.int) → Rep G H M (.scr xs) (.ref a)
  | dctK {a : Addr} {kvs : List (Key × V)} {ks vs : List D} : ¬ M.has a → Rd H a (.dK kvs) → ks = kvs.map (fun p => keyD p.1) → Reps G H M vs (kvs.map (·.2)) → Rep G H M (.dct ks vs) (.ref a)
  | dctT {a : Addr} {kvs : List (List Key × V)} {ks vs : List D} : ¬ M.has a → Rd H a (.dT kvs) → ks = kvs.map (fun p => .tup (p.1.map keyD)) → Reps G H M vs (kvs.map (·.2)) → Rep G H M (.dcT ks vs) (.ref a)
  | obj {C : Str} {a c dx : Addr} {fs : List (Str × V)} {ns : List Str} {vs : List D} : ¬ M.has a → G.cls C = some c → H a = some (.ins c dx fs) → ns = fs.map (·.1) → Reps G H M vs (fs.map (·.2)) → Rep G H M (.obj C ns vs) (.ref a)
  | ty (n : String) : Rep G H M (.ty n) (.ty n)
  | cls {C : Str} {c : Addr} : G.cls C = some c → Rep G H M (.cls C) (.ref c)
  | loc {n : Nat} {a : Addr} : M.c[n]? = some a → Rep G H M (.loc n) (.ref a)
  | ext {d : D} {v : V} : G.X H M d v → Rep G H M d v
inductive Reps (G : Gam) (H : Hp) (M : Mem) : List D → List V → Prop
  | nil : Reps G H M [] []
  | cons {d : D} {v : V} {ds : List D} {vs : List V} : Rep G H M d v → Reps G H M ds vs → Reps G H M (d :: ds) (v :: vs)
end
mutual
theorem Rep.tr {G : Gam} {H H' : Hp} {M M' : Mem} (s : Tr H M H' M') (d : D) (v : V) (h : Rep G H M d v) : Rep G H' M' d v := by
  cases h with
  | non => exact .non
  | bl b => exact .bl b
  | int i => exact .int i
  | str x => exact .str x
  | tup h1 h2 h3 => exact .tup (s.nin _ h1 (some_ne h2)) (s.raw _ _ h1 trivial h2) (Reps.tr s _ _ h3)
  | tupK h2 h3 => exact .tupK h2 (Reps.tr s _ _ h3)
  | lst h1 h2 h3 => exact .lst (s.nin _ h1 (some_ne h2)) (s.raw _ _ h1 trivial h2) (Reps.tr s _ _ h3)
  | scr h1 h2 => exact .scr (s.nin _ h1 (rd_ne h2)) (s.ext _ _ h1 trivial h2)
  | scrK h => exact .scrK h
  | dctK h1 h2 h3 h4 => exact .dctK (s.nin _ h1 (rd_ne h2)) (s.ext _ _ h1 trivial h2) h3 (Reps.tr s _ _ h4)
  | dctT h1 h2 h3 h4 => exact .dctT (s.nin _ h1 (rd_ne h2)) (s.ext _ _ h1 trivial h2) h3 (Reps.tr s _ _ h4)
  | obj h1 h2 h3 h4 h5 => exact .obj (s.nin _ h1 (some_ne h3)) h2 (s.raw _ _ h1 trivial h3) h4 (Reps.tr s _ _ h5)
  | ty n => exact .ty n
  | cls h => exact .cls h
  | loc h => exact .loc (s.sub _ _ h)
  | ext h => exact .ext (G.Xs _ _ _ _ _ _ s h)
termination_by sizeOf d
theorem Reps.tr {G : Gam} {H H' : Hp} {M M' : Mem} (s : Tr H M H' M') (ds : List D) (vs : List V) (h : Reps G H M ds vs) : Reps G H' M' ds vs := by
  cases h with
  | nil => exact .nil
  | cons h t => exact .cons (Rep.tr s _ _ h) (Reps.tr s _ _ t)
termination_by sizeOf ds
end
theorem Rep.mono {G : Gam} {H H' : Hp} {M M' : Mem} (s : Step H M H' M') (d : D) (v : V) (h : Rep G H M d v) : Rep G H' M' d v := Rep.tr s.tr d v h
theorem Reps.mono {G : Gam} {H H' : Hp} {M M' : Mem} (s : Step H M H' M') (ds : List D) (vs : List V) (h : Reps G H M ds vs) : Reps G H' M' ds vs := Reps.tr s.tr ds vs h
/-- back from under a lock -/
theorem Step.unlock {H : Hp} {M : Mem} {d : Addr} {u : HO} {od : Obj} (h : H d = some (.frz od u)) : Step H M (upd H d u) M where
  ext := fun a w _ hw q => by
    by_cases e : a = d
    · rw [e] at q ⊢
      rcases q with q | ⟨o, q⟩
      · rw [h] at q
        rw [← Option.some.inj q] at hw
        exact hw.elim
      · rw [h] at q
        injection q with q
        injection q with q1 q2
        exact .inl (by rw [upd_same, q2])
    · exact rd_up e q
  raw := fun a w _ hw q => by rw [upd_ne (fun e => by rw [e, h] at q; rw [← Option.some.inj q] at hw; exact hw)]; exact q
  dom := fun a h => dom_up h
  pre := ⟨[], M.app_nil.symm, by simp⟩
/-! ## the store -/
inductive RepC (G : Gam) (H : Hp) (M : Mem) : Cell → HO → Prop
  | lst {xs : List D} {vs : List V} : Reps G H M xs vs → RepC G H M (.lst xs) (.lst vs)
  | dctK {kvs : List (Key × V)} {ks vs : List D} : ks = kvs.map (fun p => keyD p.1) → Reps G H M vs (kvs.map (·.2)) → RepC G H M (.dct ks vs) (.dK kvs)
  | dctT {kvs : List (List Key × V)} {ks vs : List D} : ks = kvs.map (fun p => .tup (p.1.map keyD)) → Reps G H M vs (kvs.map (·.2)) → RepC G H M (.dcT ks vs) (.dT kvs)
  | ins {C : Str} {c dx : Addr} {fs : List (Str × V)} {ns : List Str} {vs : List D} : G.cls C = some c → ns = fs.map (·.1) → Reps G H M vs (fs.map (·.2)) → RepC G H M (.ins C ns vs) (.ins c dx fs)
theorem RepC.tr {G : Gam} {H H' : Hp} {M M' : Mem} (s : Tr H M H' M') {c : Cell} {o : HO} (h : RepC G H M c o) : RepC G H' M' c o := by
  cases h with
  | lst h => exact .lst (Reps.tr s _ _ h)
  | dctK h1 h2 => exact .dctK h1 (Reps.tr s _ _ h2)
  | dctT h1 h2 => exact .dctT h1 (Reps.tr s _ _ h2)
  | ins h1 h2 h3 => exact .ins h1 h2 (Reps.tr s _ _ h3)
theorem RepC.mono {G : Gam} {H H' : Hp} {M M' : Mem} (s : Step H M H' M') {c : Cell} {o : HO} (h : RepC G H M c o) : RepC G H' M' c o := h.tr s.tr
structure RepS (G : Gam) (H : Hp) (M : Mem) (S : Sto) : Prop where
  len : M.c.length = S.length
  nd : M.c.Nodup
  hz : ∀ a ∈ M.z, H a ≠ none
  dj : ∀ a ∈ M.z, ¬ a ∈ M.c
  pz : ∀ q ∈ M.p, H q.1 = some q.2
  pj : ∀ q ∈ M.p, ¬ q.1 ∈ M.c
  at_ : ∀ (n : Nat) (c : Cell), S[n]? = some c → ∃ a o, M.c[n]? = some a ∧ H a = some o ∧ RepC G H M c o
/-- the store stands while no cell is written -/
theorem RepS.to {G : Gam} {H H' : Hp} {M M' : Mem} {S : Sto} (r : RepS G H M S) (s : Tr H M H' M') (hc : M'.c = M.c) (k : ∀ a o, a ∈ M.c → H a = some o → H' a = some o) (hz : ∀ a ∈ M'.z, H' a ≠ none) (dj : ∀ a ∈ M'.z, ¬ a ∈ M.c) (pz : ∀ q ∈ M'.p, H' q.1 = some q.2) (pj : ∀ q ∈ M'.p, ¬ q.1 ∈ M.c) : RepS G H' M' S :=
  ⟨by rw [hc]; exact r.len, by rw [hc]; exact r.nd, hz, by rw [hc]; exact dj, pz, by rw [hc]; exact pj, fun n c e => by
    obtain ⟨a, o, h1, h2, h3⟩ := r.at_ n c e
    exact ⟨a, o, s.sub _ _ h1, k a o (List.mem_of_getElem? h1) h2, h3.tr s⟩⟩
theorem RepS.keep {G : Gam} {H H' : Hp} {M : Mem} {S : Sto} (r : RepS G H M S) (s : Step H M H' M) (k : ∀ a o, a ∈ M.c → H a = some o → H' a = some o) (pz : ∀ q ∈ M.p, H' q.1 = some q.2) : RepS G H' M S :=
  r.to s.tr rfl k (fun a ha e => r.hz a ha (s.dom a e)) r.dj pz r.pj
theorem RepS.live {G : Gam} {H : Hp} {M : Mem} {S : Sto} (r : RepS G H M S) {p : Addr} (hm : M.has p) : H p ≠ none := by
  rcases hm with hm | hm
  · obtain ⟨n, hn, e⟩ := List.mem_iff_getElem.mp hm
    have hs : n < S.length := by rw [← r.len]; exact hn
    obtain ⟨a, o, h1, h2, _⟩ := r.at_ n S[n] (by rw [List.getElem?_eq_getElem hs])
    rw [List.getElem?_eq_getElem hn, e] at h1
    cases h1
    exact some_ne h2
  · exact r.hz p hm
theorem RepS.fresh {G : Gam} {H : Hp} {M : Mem} {S : Sto} (r : RepS G H M S) {p : Addr} (hp : H p = none) : ¬ M.has p := fun hm => r.live hm hp
theorem RepS.new {G : Gam} {H : Hp} {M : Mem} {S : Sto} (r : RepS G H M S) {p : Addr} {o : HO} (hp : H p = none) : RepS G (upd H p o) M S :=
  r.keep (Step.new hp) (fun a u ha h => by rw [upd_ne (ne_of_none h hp)]; exact h) fun q hq => by rw [upd_ne (ne_of_none (r.pz q hq) hp)]; exact r.pz q hq
theorem RepS.newC {G : Gam} {H : Hp} {M : Mem} {S : Sto} (r : RepS G H M S) {p : Addr} {o : HO} {c : Cell} (hp : H p = none) (hc : RepC G (upd H p o) (M.app [p]) c o) : RepS G (upd H p o) (M.app [p]) (S ++ [c]) where
  len := by
    show (M.c ++ [p]).length = _
    simp [r.len]
  nd := by
    show (M.c ++ [p]).Nodup
    rw [List.nodup_append]
    refine ⟨r.nd, by simp, fun a ha b hb e => ?_⟩
    have e2 : b = p := by simpa using hb
    rw [e, e2] at ha
    exact r.fresh hp (.inl ha)
  hz := fun a ha e => r.hz a ha (dom_up e)
  dj := fun a ha h => by
    rcases List.mem_append.mp h with h | h
    · exact r.dj a ha h
    · rw [List.mem_singleton.mp h] at ha
      exact r.hz p ha hp
  pz := fun q hq => by rw [upd_ne (ne_of_none (r.pz q hq) hp)]; exact r.pz q hq
  pj := fun q hq h => by
    rcases List.mem_append.mp h with h | h
    · exact r.pj q hq h
    · have := r.pz q hq
      rw [List.mem_singleton.mp h, hp] at this
      cases this
  at_ := fun n d e => by
    show ∃ a u, (M.c ++ [p])[n]? = some a ∧ _ ∧ _
    by_cases h : n < S.length
    · rw [List.getElem?_append_left h] at e
      obtain ⟨a, u, h1, h2, h3⟩ := r.at_ n d e
      exact ⟨a, u, by rw [List.getElem?_append_left (by rw [r.len]; exact h)]; exact h1, by rw [upd_ne (ne_of_none h2 hp)]; exact h2, h3.mono (Step.newC hp)⟩
    · rw [List.getElem?_append_right (Nat.le_of_not_lt h)] at e
      have e0 : n - S.length = 0 := by
        have := (List.getElem?_eq_some_iff.mp e).1
        simp at this
        omega
      rw [e0] at e
      cases (show c = d by simpa using e)
      refine ⟨p, o, ?_, upd_same, hc⟩
      rw [List.getElem?_append_right (by rw [r.len]; exact Nat.le_of_not_lt h), r.len, e0]
      rfl
theorem RepS.last {G : Gam} {H : Hp} {M : Mem} {S : Sto} (r : RepS G H M S) {p : Addr} : (M.app [p]).c[S.length]? = some p := by
  show (M.c ++ [p])[S.length]? = some p
  rw [List.getElem?_append_right (by rw [r.len]; exact Nat.le_refl _), r.len, Nat.sub_self]
  rfl
theorem RepS.get {G : Gam} {H : Hp} {M : Mem} {S : Sto} (r : RepS G H M S) {n : Nat} {a : Addr} {c : Cell} (h : M.c[n]? = some a) (hc : S[n]? = some c) : ∃ o, H a = some o ∧ RepC G H M c o := by
  obtain ⟨a', o, h1, h2, h3⟩ := r.at_ n c hc
  rw [h] at h1; cases h1
  exact ⟨o, h2, h3⟩
theorem RepS.wr {G : Gam} {H : Hp} {M : Mem} {S : Sto} (r : RepS G H M S) {n : Nat} {a : Addr} {o : HO} {c : Cell} (h : M.c[n]? = some a) (hc : RepC G (upd H a o) M c o) : RepS G (upd H a o) M (S.set n c) where
  len := by simp [r.len]
  nd := r.nd
  hz := fun b hb e => r.hz b hb (dom_up e)
  dj := r.dj
  pz := fun q hq => by rw [upd_ne (fun e => r.pj q hq (by rw [e]; exact List.mem_of_getElem? h))]; exact r.pz q hq
  pj := r.pj
  at_ := fun m d e => by
    have hm : M.has a := .inl (List.mem_of_getElem? h)
    by_cases q : m = n
    · rw [q] at e ⊢
      have hl := (List.getElem?_eq_some_iff.mp e).1
      rw [List.length_set] at hl
      rw [List.getElem?_set_self hl] at e
      cases e
      exact ⟨a, o, h, upd_same, hc⟩
    · rw [List.getElem?_set_ne (Ne.symm q)] at e
      obtain ⟨b, u, h1, h2, h3⟩ := r.at_ m d e
      refine ⟨b, u, h1, ?_, h3.mono (Step.wr hm)⟩
      rw [upd_ne (fun z => q ?_)]
      · exact h2
      · rw [z] at h1
        exact nd_ix r.nd h1 h
/-! ## locals -/
structure RepL (G : Gam) (H : Hp) (M : Mem) (L : Loc) (σ : Stt) : Prop where
  len : L.length = σ.length
  at_ : ∀ (i : Nat) d, L[i]? = some (some d) → ∃ v, σ[i]? = some (some v) ∧ Rep G H M d v
theorem RepL.tr {G : Gam} {H H' : Hp} {M M' : Mem} (s : Tr H M H' M') {L : Loc} {σ : Stt} (h : RepL G H M L σ) : RepL G H' M' L σ :=
  ⟨h.len, fun i d e => by
    obtain ⟨v, h1, h2⟩ := h.at_ i d e
    exact ⟨v, h1, Rep.tr s _ _ h2⟩⟩
theorem RepL.mono {G : Gam} {H H' : Hp} {M M' : Mem} (s : Step H M H' M') {L : Loc} {σ : Stt} (h : RepL G H M L σ) : RepL G H' M' L σ := h.tr s.tr
theorem RepL.set {G : Gam} {H : Hp} {M : Mem} {L : Loc} {σ : Stt} (h : RepL G H M L σ) (i : Nat) {d : D} {v : V} (r : Rep G H M d v) : RepL G H M (L.set i (some d)) (σ.set i (some v)) where
  len := by simp [h.len]
  at_ := fun j e q => by
    by_cases hj : j = i
    · rw [hj] at q ⊢
      have hl := (List.getElem?_eq_some_iff.mp q).1
      rw [List.length_set] at hl
      rw [List.getElem?_set_self hl] at q
      cases q
      exact ⟨v, by rw [List.getElem?_set_self (by rw [← h.len]; exact hl)], r⟩
    · rw [List.getElem?_set_ne (Ne.symm hj)] at q
      obtain ⟨w, h1, h2⟩ := h.at_ j e q
      exact ⟨w, by rw [List.getElem?_set_ne (Ne.symm hj)]; exact h1, h2⟩
/-! ## readings -/
def RepX (G : Gam) (H : Hp) (M : Mem) (e : EV) (cls : Value) (dd : Option Addr) : Prop := ∃ c, G.cls e.cls = some c ∧ cls = .ref c ∧ match e.fld with
  | none => dd = none
  | some (f, d) => ∃ a v, dd = some a ∧ ¬ M.has a ∧ H a = some (.xd [(f, v)]) ∧ Rep G H M d v
def Fin {α : Type} (r : Out α) (P : α → Sto → Prop) (E : EV → Sto → Prop) : Prop := match r with
  | .ok a S => P a S
  | .exc e S => E e S
  | .stuck => False
abbrev PostX (G : Gam) (H : Hp) (M : Mem) (W : Value → Option Addr → Hp → Prop) : EV → Sto → Prop := fun e S' => ∀ cls dd H' M', Step H M H' M' → RepS G H' M' S' → RepX G H' M' e cls dd → W cls dd H'
abbrev PostV (G : Gam) (H : Hp) (M : Mem) (Q : VK) : D → Sto → Prop := fun d S' => ∀ v H' M', Step H M H' M' → RepS G H' M' S' → Rep G H' M' d v → Q v H'
abbrev PostB (G : Gam) (H : Hp) (M : Mem) (Q : Bool → Hp → Prop) : Bool → Sto → Prop := fun b S' => ∀ H' M', Step H M H' M' → RepS G H' M' S' → Q b H'
abbrev PostA (G : Gam) (H : Hp) (M : Mem) (Q : List V → Hp → Prop) : List D → Sto → Prop := fun ds S' => ∀ vs H' M', Step H M H' M' → RepS G H' M' S' → Reps G H' M' ds vs → Q vs H'
def tE (G : Gam) (W : WX) (m : ME) : TE := fun σ H Q => ∃ L S M, RepL G H M L σ ∧ RepS G H M S ∧ Fin (m L S) (PostV G H M Q) (PostX G H M fun c d H' => W c d σ H')
def tT (G : Gam) (W : WX) (m : MT) : TT := fun σ H Q => ∃ L S M, RepL G H M L σ ∧ RepS G H M S ∧ Fin (m L S) (PostB G H M Q) (PostX G H M fun c d H' => W c d σ H')
def tA (G : Gam) (W : WX) (m : MA) : TA := fun σ H Q => ∃ L S M, RepL G H M L σ ∧ RepS G H M S ∧ Fin (m L S) (PostA G H M Q) (PostX G H M fun c d H' => W c d σ H')
def PostF (G : Gam) (H : Hp) (M : Mem) (D' : Ends) : Fl → Sto → Prop := fun f S' => ∀ H' M', Step H M H' M' → RepS G H' M' S' → match f with
  | .nx L => ∀ σ', RepL G H' M' L σ' → D'.nx σ' H'
  | .bk L => ∀ σ', RepL G H' M' L σ' → D'.bk σ' H'
  | .ct L => ∀ σ', RepL G H' M' L σ' → D'.ct σ' H'
  | .rt d => ∀ v, Rep G H' M' d v → D'.rt v H'
/-- W's own slots: what is wanted of an exception out of a block may speak of the slots as they are then -/
def tB (G : Gam) (W : WX) (m : MB) : TS := fun D' σ H => ∃ L S M, RepL G H M L σ ∧ RepS G H M S ∧ Fin (m L S) (PostF G H M D') (PostX G H M fun c d H' => ∀ σ', W c d σ' H')
end MM
set_option linter.all false
set_option maxRecDepth 100000
set_option maxHeartbeats 2000000
namespace MM
open PySem PySem.Spec PyProof.Rows L2
theorem pe_imp {X : Cx} {e : Expr} {t t' : TE} (h : PE X e t) (hi : ∀ σ H Q, t' σ H Q → t σ H Q) : PE X e t' := ⟨fun pins s σ H Q I hw => h.run pins s σ H Q I (hi _ _ _ hw)⟩
theorem pt_imp {X : Cx} {e : Expr} {t t' : TT} (h : PT X e t) (hi : ∀ σ H Q, t' σ H Q → t σ H Q) : PT X e t' := ⟨fun pins s σ H Q I hw => h.run pins s σ H Q I (hi _ _ _ hw)⟩
theorem pw_imp {X : Cx} {e : Expr} {t t' : TT} (h : PW X e t) (hi : ∀ σ H Q, t' σ H Q → t σ H Q) : PW X e t' := ⟨fun wh pins s σ H Q I hw => h.run wh pins s σ H Q I (hi _ _ _ hw)⟩
theorem pa_imp {X : Cx} {es : List Expr} {t t' : TA} (h : PA X es t) (hi : ∀ σ H Q, t' σ H Q → t σ H Q) : PA X es t' := ⟨fun pos pins s σ H Q I hw => h.run pos pins s σ H Q I (hi _ _ _ hw)⟩
theorem ps_imp {X : Cx} {e : Stmt} {t t' : TS} (h : PS X e t) (hi : ∀ D σ H, t' D σ H → t D σ H) : PS X e t' := ⟨fun pins s σ H D I hw => h.run pins s σ H D I (hi _ _ _ hw)⟩
theorem pss_imp {X : Cx} {e : List Stmt} {t t' : TS} (h : PSs X e t) (hi : ∀ D σ H, t' D σ H → t D σ H) : PSs X e t' := ⟨fun pins s σ H D I hw => h.run pins s σ H D I (hi _ _ _ hw)⟩
/-! ## going on behind a part -/
section
variable {α : Type} {G : Gam} {W : WX} {L : Loc} {S : Sto} {M : Mem} {H : Hp} {σ : Stt} {P : α → Sto → Prop} {E : EV → Sto → Prop}
theorem then_e {ma : ME} {k : D → Sto → Out α} {Q : VK} (rl : RepL G H M L σ) (rs : RepS G H M S) (h : Fin ((ma L S).bind k) P E) (he : ∀ e S', E e S' → PostX G H M (fun c d H' => W c d σ H') e S')
    (hq : ∀ v H1 M1 d S1, Step H M H1 M1 → RepS G H1 M1 S1 → Rep G H1 M1 d v → RepL G H1 M1 L σ → Fin (k d S1) P E → Q v H1) : tE G W ma σ H Q := by
  refine ⟨L, S, M, rl, rs, ?_⟩
  cases e : ma L S with
  | ok d S1 =>
    rw [e] at h
    exact fun v H1 M1 st rs1 rp => hq v H1 M1 d S1 st rs1 rp (rl.mono st) h
  | exc x S1 =>
    rw [e] at h
    exact he x S1 h
  | stuck =>
    rw [e] at h
    exact h
theorem then_t {ma : MT} {k : Bool → Sto → Out α} {Q : Bool → Hp → Prop} (rl : RepL G H M L σ) (rs : RepS G H M S) (h : Fin ((ma L S).bind k) P E) (he : ∀ e S', E e S' → PostX G H M (fun c d H' => W c d σ H') e S')
    (hq : ∀ H1 M1 b S1, Step H M H1 M1 → RepS G H1 M1 S1 → RepL G H1 M1 L σ → Fin (k b S1) P E → Q b H1) : tT G W ma σ H Q := by
  refine ⟨L, S, M, rl, rs, ?_⟩
  cases e : ma L S with
  | ok d S1 =>
    rw [e] at h
    exact fun H1 M1 st rs1 => hq H1 M1 d S1 st rs1 (rl.mono st) h
  | exc x S1 =>
    rw [e] at h
    exact he x S1 h
  | stuck =>
    rw [e] at h
    exact h
theorem then_a {ma : MA} {k : List D → Sto → Out α} {Q : List V → Hp → Prop} (rl : RepL G H M L σ) (rs : RepS G H M S) (h : Fin ((ma L S).bind k) P E) (he : ∀ e S', E e S' → PostX G H M (fun c d H' => W c d σ H') e S')
    (hq : ∀ vs H1 M1 ds S1, Step H M H1 M1 → RepS G H1 M1 S1 → Reps G H1 M1 ds vs → RepL G H1 M1 L σ → Fin (k ds S1) P E → Q vs H1) : tA G W ma σ H Q := by
  refine ⟨L, S, M, rl, rs, ?_⟩
  cases e : ma L S with
  | ok d S1 =>
    rw [e] at h
    exact fun v H1 M1 st rs1 rp => hq v H1 M1 d S1 st rs1 rp (rl.mono st) h
  | exc x S1 =>
    rw [e] at h
    exact he x S1 h
  | stuck =>
    rw [e] at h
    exact h
theorem Fin.mono {r : Out α} {P P' : α → Sto → Prop} {E E' : EV → Sto → Prop} (h : Fin r P E) (hp : ∀ a S, P a S → P' a S) (he : ∀ e S, E e S → E' e S) : Fin r P' E' := by
  cases r with
  | ok a S => exact hp a S h
  | exc e S => exact he e S h
  | stuck => exact h
variable {H1 : Hp} {M1 : Mem}
theorem PostV.step {Q : VK} (st : Step H M H1 M1) (d : D) (S : Sto) (h : PostV G H M Q d S) : PostV G H1 M1 Q d S := fun v H' M' s rs rp => h v H' M' (st.trans s) rs rp
theorem PostB.step {Q : Bool → Hp → Prop} (st : Step H M H1 M1) (d : Bool) (S : Sto) (h : PostB G H M Q d S) : PostB G H1 M1 Q d S := fun H' M' s rs => h H' M' (st.trans s) rs
theorem PostA.step {Q : List V → Hp → Prop} (st : Step H M H1 M1) (d : List D) (S : Sto) (h : PostA G H M Q d S) : PostA G H1 M1 Q d S := fun v H' M' s rs rp => h v H' M' (st.trans s) rs rp
theorem PostX.step {Z : Value → Option Addr → Hp → Prop} (st : Step H M H1 M1) (e : EV) (S : Sto) (h : PostX G H M Z e S) : PostX G H1 M1 Z e S := fun c d H' M' s rs rp => h c d H' M' (st.trans s) rs rp
theorem PostF.step {D' : Ends} (st : Step H M H1 M1) (f : Fl) (S : Sto) (h : PostF G H M D' f S) : PostF G H1 M1 D' f S := fun H' M' s rs => h H' M' (st.trans s) rs
theorem tE_of {m : ME} {Q : VK} (rl : RepL G H M L σ) (rs : RepS G H M S) (h : Fin (m L S) (PostV G H M Q) (PostX G H M fun c d H' => W c d σ H')) : tE G W m σ H Q := ⟨L, S, M, rl, rs, h⟩
end
/-! ## names and constants -/
def mVar (i : Nat) : ME := fun L S => match L[i]? with
  | some (some d) => .ok d S
  | _ => .stuck
def mC (d : D) : ME := fun _ S => .ok d S
section
variable {X : Cx} {G : Gam} {W : WX} {e a b c : Expr} {es : List Expr} {pos p : Pos}
theorem e_var {i : Nat} {x : Str} (h : PE X (.Name x pos) (tVar i)) : PE X (.Name x pos) (tE G W (mVar i)) := pe_imp h fun σ H Q ⟨L, S, M, rl, rs, h⟩ => by
  unfold mVar at h
  cases q : L[i]? with
  | none => rw [q] at h; exact h.elim
  | some o =>
    cases o with
    | none => rw [q] at h; exact h.elim
    | some d =>
      rw [q] at h
      obtain ⟨v, h1, h2⟩ := rl.at_ i d q
      exact ⟨v, h1, h v H M (Step.refl H M) rs h2⟩
theorem e_c {d : D} {v : V} (h : PE X e (tC v)) (hr : ∀ H M, Rep G H M d v) : PE X e (tE G W (mC d)) := pe_imp h fun σ H Q ⟨L, S, M, rl, rs, h⟩ => h v H M (Step.refl H M) rs (hr H M)
theorem e_int {i j} : PE X (.Constant (.int i) j pos) (tE G W (mC (.int i))) := e_c pe_int fun _ _ => .int i
theorem e_bl {b j} : PE X (.Constant (.bool b) j pos) (tE G W (mC (.bl b))) := e_c pe_bl fun _ _ => .bl b
theorem e_non {j} : PE X (.Constant .none j pos) (tE G W (mC .non)) := e_c pe_non fun _ _ => .non
theorem e_str {x j} : PE X (.Constant (.str x) j pos) (tE G W (mC (.str x))) := e_c pe_str fun _ _ => .str x
/-! ## operators by values -/
/-- f, told of data, is what the rule r asks of values -/
def OpM (G : Gam) (f : D → D → Sto → Out D) (r : R2) : Prop := ∀ x y xv yv H M S Q, Rep G H M x xv → Rep G H M y yv → RepS G H M S → Fin (f x y S) (PostV G H M Q) (fun _ _ => False) → r xv yv H Q
/-- what raises nothing -/
def dry {α : Type} : Out α → Out α
  | .ok a S => .ok a S
  | _ => .stuck
@[simp] theorem dry_ok {α : Type} (a : α) (S : Sto) : dry (.ok a S) = .ok a S := rfl
@[simp] theorem dry_stuck {α : Type} : dry (.stuck : Out α) = .stuck := rfl
theorem fin_dry {α : Type} {r : Out α} {P : α → Sto → Prop} {E E' : EV → Sto → Prop} (h : Fin (dry r) P E) : Fin r P E' := by
  cases r with
  | ok a S => exact h
  | exc e S => exact h.elim
  | stuck => exact h
def mBin (f : D → D → Sto → Out D) (a b : ME) : ME := fun L S => (a L S).bind fun x S1 => (b L S1).bind fun y S2 => dry (f x y S2)
def noX (f : D → D → Sto → Out D) : Prop := ∀ x y S e S', f x y S ≠ .exc e S'
theorem fin_noX {α : Type} {r : Out α} {P : α → Sto → Prop} {E E' : EV → Sto → Prop} (hn : ∀ e S', r ≠ .exc e S') (h : Fin r P E) : Fin r P E' := by
  cases r with
  | ok a S => exact h
  | exc e S => exact (hn e S rfl).elim
  | stuck => exact h
theorem op_imp {f : D → D → Sto → Out D} {r : R2} {ma mb : ME} (hf : OpM G f r) {σ : Stt} {H : Hp} {Q : VK} (h : tE G W (mBin f ma mb) σ H Q) : tOp r (tE G W ma) (tE G W mb) σ H Q := by
  obtain ⟨L, S, M, rl, rs, h⟩ := h
  refine then_e rl rs h (fun _ _ z => z) fun x H1 M1 d S1 st rs1 rp rl1 h1 => ?_
  refine then_e rl1 rs1 h1 (fun e S' z => PostX.step st e S' z) fun y H2 M2 d2 S2 st2 rs2 rp2 rl2 h2 => ?_
  exact hf _ _ _ _ _ M2 S2 _ (Rep.mono st2 _ _ rp) rp2 rs2 (fin_dry (h2.mono (fun d S' z => PostV.step (st.trans st2) d S' z) (fun _ _ z => z)))
theorem e_bin {op : Operator} {f : D → D → Sto → Out D} {r : R2} {ma mb : ME} (ho : OpR X (binaryOp op) r) (hf : OpM G f r) (ha : PE X a (tE G W ma)) (hb : PE X b (tE G W mb)) : PE X (.BinOp a op b pos) (tE G W (mBin f ma mb)) :=
  pe_imp (pe_op ho ha hb) fun _ _ _ h => op_imp hf h
theorem e_cmp {op : CmpOp} {f : D → D → Sto → Out D} {r : R2} {ma mb : ME} (ho : OpR X (compareOp op) r) (hf : OpM G f r) (ha : PE X a (tE G W ma)) (hb : PE X b (tE G W mb)) (hm : behindInMarks op b = false) : PE X (.Compare a [op] [b] pos) (tE G W (mBin f ma mb)) :=
  pe_imp (pe_cmpR ho ha hb hm) fun _ _ _ h => op_imp hf h
/-- a value that is a bool, as a test -/
def asB : D → Sto → Out Bool
  | .bl b, S => .ok b S
  | _, _ => .stuck
def mTest (m : ME) : MT := fun L S => (m L S).bind asB
/-- extensions stand for no plain data -/
structure Gam.Ok (G : Gam) : Prop where
  ext : ∀ H M d v, G.X H M d v → match d with
    | .clo _ => ∃ a, v = .ref a
    | .exc _ _ => ∃ a, v = .ref a
    | _ => False
theorem Rep.bl_inv (ok : G.Ok) {H : Hp} {M : Mem} {b : Bool} {v : V} (h : Rep G H M (.bl b) v) : v = .bl b := by
  cases h with
  | bl => rfl
  | ext h => exact (ok.ext _ _ _ _ h).elim
theorem Rep.int_inv (ok : G.Ok) {H : Hp} {M : Mem} {i : Int} {v : V} (h : Rep G H M (.int i) v) : v = .int i := by
  cases h with
  | int => rfl
  | ext h => exact (ok.ext _ _ _ _ h).elim
theorem Rep.str_inv (ok : G.Ok) {H : Hp} {M : Mem} {x : Str} {v : V} (h : Rep G H M (.str x) v) : v = .str x := by
  cases h with
  | str => rfl
  | ext h => exact (ok.ext _ _ _ _ h).elim
theorem Rep.non_inv (ok : G.Ok) {H : Hp} {M : Mem} {v : V} (h : Rep G H M .non v) : v = .non := by
  cases h with
  | non => rfl
  | ext h => exact (ok.ext _ _ _ _ h).elim
theorem Rep.tup_inv (ok : G.Ok) {H : Hp} {M : Mem} {xs : List D} {v : V} (h : Rep G H M (.tup xs) v) : ∃ a vs, v = .ref a ∧ SqT G.K H a vs ∧ Reps G H M xs vs := by
  cases h with
  | tup h1 h2 h3 => exact ⟨_, _, rfl, .inl (.inl h2), h3⟩
  | tupK h2 h3 => exact ⟨_, _, rfl, .inr h2, h3⟩
  | ext h => exact (ok.ext _ _ _ _ h).elim
theorem Rep.lst_inv (ok : G.Ok) {H : Hp} {M : Mem} {xs : List D} {v : V} (h : Rep G H M (.lst xs) v) : ∃ a vs, v = .ref a ∧ ¬ M.has a ∧ H a = some (.lst vs) ∧ Reps G H M xs vs := by
  cases h with
  | lst h1 h2 h3 => exact ⟨_, _, rfl, h1, h2, h3⟩
  | ext h => exact (ok.ext _ _ _ _ h).elim
theorem Rep.loc_inv (ok : G.Ok) {H : Hp} {M : Mem} {n : Nat} {v : V} (h : Rep G H M (.loc n) v) : ∃ a, v = .ref a ∧ M.c[n]? = some a := by
  cases h with
  | loc h => exact ⟨_, rfl, h⟩
  | ext h => exact (ok.ext _ _ _ _ h).elim
/-- what holds of a test's value -/
theorem test_imp (ok : G.Ok) {m : ME} {σ : Stt} {H : Hp} {Q : Bool → Hp → Prop} (h : tT G W (mTest m) σ H Q) : tE G W m σ H fun v H1 => ∃ b, v = .bl b ∧ Q b H1 := by
  obtain ⟨L, S, M, rl, rs, h⟩ := h
  refine then_e rl rs h (fun _ _ z => z) fun x H1 M1 d S1 st rs1 rp rl1 h1 => ?_
  cases d with
  | bl b => exact ⟨b, rp.bl_inv ok, h1 H1 M1 st rs1⟩
  | _ => exact h1.elim
theorem t_val (ok : G.Ok) {m : ME} (h : PE X e (tE G W m)) (he : ∀ whole, isTrue e X.env whole = (do let v ← whole; standAt e.pos; holding [v] (truthy v)) := by intro _; rfl) : PT X e (tT G W (mTest m)) :=
  pt_imp (pt_val h he) fun _ _ _ hw => test_imp ok hw
theorem t_cmp (ok : G.Ok) {op : CmpOp} {f : D → D → Sto → Out D} {r : R2} {ma mb : ME} (ho : OpR X (compareOp op) r) (hf : OpM G f r) (ha : PE X a (tE G W ma)) (hb : PE X b (tE G W mb)) (hm : behindInMarks op b = false) :
    PT X (.Compare a [op] [b] pos) (tT G W (mTest (mBin f ma mb))) :=
  pt_imp (pt_cmpR ho ha hb hm) fun _ _ _ hw => op_imp hf (test_imp ok hw)
end
end MM
set_option linter.all false
set_option maxRecDepth 100000
set_option maxHeartbeats 2000000
namespace MM
open PySem PySem.Spec PyProof.Rows L2
/-! ## and, or, not, if -/
def mAndT (a b : MT) : MT := fun L S => (a L S).bind fun x S1 => if x = true then b L S1 else .ok false S1
def mOrT (a b : MT) : MT := fun L S => (a L S).bind fun x S1 => if x = true then .ok true S1 else b L S1
def mNotT (a : MT) : MT := fun L S => (a L S).bind fun x S1 => .ok (!x) S1
def mIf (c : MT) (a b : ME) : ME := fun L S => (c L S).bind fun x S1 => if x = true then a L S1 else b L S1
def mOfT (c : MT) : ME := fun L S => (c L S).bind fun x S1 => .ok (.bl x) S1
section
variable {X : Cx} {G : Gam} {W : WX} {e a b c : Expr} {es rest : List Expr} {pos p : Pos} {ta tb tc : MT} {ma mb : ME}
theorem t_and1 (ha : PT X a (tT G W ta)) : PW X (.BoolOp .And [a] pos) (tT G W ta) := pw_and1 ha
theorem t_or1 (ha : PT X a (tT G W ta)) : PW X (.BoolOp .Or [a] pos) (tT G W ta) := pw_or1 ha
theorem t_and (ha : PT X a (tT G W ta)) (hb : PW X (.BoolOp .And (b :: rest) pos) (tT G W tb)) : PW X (.BoolOp .And (a :: b :: rest) pos) (tT G W (mAndT ta tb)) := pw_imp (pw_and ha hb) fun σ H Q ⟨L, S, M, rl, rs, h⟩ => by
  refine then_t rl rs h (fun _ _ z => z) fun H1 M1 x S1 st rs1 rl1 h1 => ?_
  cases x with
  | true => exact ⟨L, S1, M1, rl1, rs1, h1.mono (fun d S z => PostB.step st d S z) (fun e S z => PostX.step st e S z)⟩
  | false => exact h1 H1 M1 st rs1
theorem t_or (ha : PT X a (tT G W ta)) (hb : PW X (.BoolOp .Or (b :: rest) pos) (tT G W tb)) : PW X (.BoolOp .Or (a :: b :: rest) pos) (tT G W (mOrT ta tb)) := pw_imp (pw_or ha hb) fun σ H Q ⟨L, S, M, rl, rs, h⟩ => by
  refine then_t rl rs h (fun _ _ z => z) fun H1 M1 x S1 st rs1 rl1 h1 => ?_
  cases x with
  | true => exact h1 H1 M1 st rs1
  | false => exact ⟨L, S1, M1, rl1, rs1, h1.mono (fun d S z => PostB.step st d S z) (fun e S z => PostX.step st e S z)⟩
theorem t_not (ha : PT X a (tT G W ta)) : PT X (.UnaryOp .Not a pos) (tT G W (mNotT ta)) := pt_imp (pt_not ha) fun σ H Q ⟨L, S, M, rl, rs, h⟩ =>
  then_t rl rs h (fun _ _ z => z) fun H1 M1 x S1 st rs1 rl1 h1 => h1 H1 M1 st rs1
theorem e_if (hc : PT X c (tT G W tc)) (ha : PE X a (tE G W ma)) (hb : PE X b (tE G W mb)) : PE X (.IfExp c a b pos) (tE G W (mIf tc ma mb)) := pe_imp (pe_ifExp hc ha hb) fun σ H Q ⟨L, S, M, rl, rs, h⟩ => by
  refine then_t rl rs h (fun _ _ z => z) fun H1 M1 x S1 st rs1 rl1 h1 => ?_
  cases x with
  | true => exact ⟨L, S1, M1, rl1, rs1, h1.mono (fun d S z => PostV.step st d S z) (fun e S z => PostX.step st e S z)⟩
  | false => exact ⟨L, S1, M1, rl1, rs1, h1.mono (fun d S z => PostV.step st d S z) (fun e S z => PostX.step st e S z)⟩
/-- as values: all but the last are bools -/
def mAndV (a b : ME) : ME := fun L S => (a L S).bind fun x S1 => match x with
  | .bl true => b L S1
  | .bl false => .ok (.bl false) S1
  | _ => .stuck
def mOrV (a b : ME) : ME := fun L S => (a L S).bind fun x S1 => match x with
  | .bl false => b L S1
  | .bl true => .ok (.bl true) S1
  | _ => .stuck
def mNotV (a : ME) : ME := fun L S => (a L S).bind fun x S1 => match x with
  | .bl y => .ok (.bl (!y)) S1
  | _ => .stuck
theorem e_one {op} (h : PE X a (tE G W ma)) : PE X (.BoolOp op [a] pos) (tE G W ma) := pe_one h
theorem e_and (ok : G.Ok) (ha : PE X a (tE G W ma)) (hb : PE X (.BoolOp .And (b :: rest) pos) (tE G W mb)) : PE X (.BoolOp .And (a :: b :: rest) pos) (tE G W (mAndV ma mb)) := pe_imp (pe_and ha hb) fun σ H Q ⟨L, S, M, rl, rs, h⟩ => by
  refine then_e rl rs h (fun _ _ z => z) fun v H1 M1 x S1 st rs1 rp rl1 h1 => ?_
  cases x with
  | bl y =>
    refine ⟨y, rp.bl_inv ok, ?_⟩
    cases y with
    | true => exact ⟨L, S1, M1, rl1, rs1, h1.mono (fun d S z => PostV.step st d S z) (fun e S z => PostX.step st e S z)⟩
    | false => exact h1 _ H1 M1 st rs1 (.bl false)
  | _ => exact h1.elim
theorem e_or (ok : G.Ok) (ha : PE X a (tE G W ma)) (hb : PE X (.BoolOp .Or (b :: rest) pos) (tE G W mb)) : PE X (.BoolOp .Or (a :: b :: rest) pos) (tE G W (mOrV ma mb)) := pe_imp (pe_or ha hb) fun σ H Q ⟨L, S, M, rl, rs, h⟩ => by
  refine then_e rl rs h (fun _ _ z => z) fun v H1 M1 x S1 st rs1 rp rl1 h1 => ?_
  cases x with
  | bl y =>
    refine ⟨y, rp.bl_inv ok, ?_⟩
    cases y with
    | false => exact ⟨L, S1, M1, rl1, rs1, h1.mono (fun d S z => PostV.step st d S z) (fun e S z => PostX.step st e S z)⟩
    | true => exact h1 _ H1 M1 st rs1 (.bl true)
  | _ => exact h1.elim
theorem e_not (ok : G.Ok) (ha : PE X a (tE G W ma)) : PE X (.UnaryOp .Not a pos) (tE G W (mNotV ma)) := pe_imp (pe_not ha) fun σ H Q ⟨L, S, M, rl, rs, h⟩ => by
  refine then_e rl rs h (fun _ _ z => z) fun v H1 M1 x S1 st rs1 rp rl1 h1 => ?_
  cases x with
  | bl y => exact ⟨y, rp.bl_inv ok, h1 _ H1 M1 st rs1 (.bl _)⟩
  | _ => exact h1.elim
/-! ## chains -/
def mChain (f g : D → D → Sto → Out D) (a b c : ME) : ME := fun L S => (a L S).bind fun x S1 => (b L S1).bind fun y S2 => (dry (f x y S2)).bind fun z S3 => match z with
  | .bl true => (c L S3).bind fun w S4 => dry (g y w S4)
  | .bl false => .ok (.bl false) S3
  | _ => .stuck
theorem chain_imp (ok : G.Ok) {f g : D → D → Sto → Out D} {r r' : R2} {mc : ME} (hf : OpM G f r) (hg : OpM G g r') {σ : Stt} {H : Hp} {Q : VK} (h : tE G W (mChain f g ma mb mc) σ H Q) : tChain r r' (tE G W ma) (tE G W mb) (tE G W mc) σ H Q := by
  obtain ⟨L, S, M, rl, rs, h⟩ := h
  refine then_e rl rs h (fun _ _ z => z) fun x H1 M1 d S1 st rs1 rp rl1 h1 => ?_
  refine then_e rl1 rs1 h1 (fun e S' z => PostX.step st e S' z) fun y H2 M2 d2 S2 st2 rs2 rp2 rl2 h2 => ?_
  have st02 := st.trans st2
  refine hf _ _ _ _ _ M2 S2 _ (Rep.mono st2 _ _ rp) rp2 rs2 ?_
  cases q : f d d2 S2 with
  | exc e S' => rw [q] at h2; exact h2.elim
  | stuck => rw [q] at h2; exact h2
  | ok z S3 =>
    rw [q] at h2
    intro v H3 M3 st3 rs3 rp3
    have st03 := st02.trans st3
    cases z with
    | bl k =>
      refine ⟨k, rp3.bl_inv ok, ?_⟩
      cases k with
      | false =>
        rw [if_neg (by decide)]
        exact h2 _ H3 M3 st03 rs3 (.bl false)
      | true =>
        rw [if_pos rfl]
        refine then_e (rl2.mono st3) rs3 h2 (fun e S' z => PostX.step st03 e S' z) fun w H4 M4 d4 S4 st4 rs4 rp4 rl4 h4 => ?_
        exact hg _ _ _ _ _ M4 S4 _ (Rep.mono (st3.trans st4) _ _ rp2) rp4 rs4 (fin_dry (h4.mono (fun d S' z => PostV.step (st03.trans st4) d S' z) (fun _ _ z => z)))
    | _ => exact h2.elim
theorem e_chain (ok : G.Ok) {op op' : CmpOp} {f g : D → D → Sto → Out D} {r r' : R2} {mc : ME} (ho : OpR X (compareOp op) r) (ho' : OpR X (compareOp op') r') (hf : OpM G f r) (hg : OpM G g r')
    (h : PE X (.Compare a [op, op'] [b, c] pos) (tChain r r' (tE G W ma) (tE G W mb) (tE G W mc))) : PE X (.Compare a [op, op'] [b, c] pos) (tE G W (mChain f g ma mb mc)) :=
  pe_imp h fun _ _ _ h => chain_imp ok hf hg h
theorem t_chain (ok : G.Ok) {op op' : CmpOp} {f g : D → D → Sto → Out D} {r r' : R2} {mc : ME} (ho : OpR X (compareOp op) r) (ho' : OpR X (compareOp op') r') (hf : OpM G f r) (hg : OpM G g r')
    (h : PT X (.Compare a [op, op'] [b, c] pos) (tTest (tChain r r' (tE G W ma) (tE G W mb) (tE G W mc)))) : PT X (.Compare a [op, op'] [b, c] pos) (tT G W (mTest (mChain f g ma mb mc))) :=
  pt_imp h fun _ _ _ h => chain_imp ok hf hg (test_imp ok h)
/-! ## arguments, displays -/
def mNil : MA := fun _ S => .ok [] S
def mCons (a : ME) (r : MA) : MA := fun L S => (a L S).bind fun x S1 => (r L S1).bind fun xs S2 => .ok (x :: xs) S2
theorem a_nil : PA X [] (tA G W mNil) := pa_imp pa_nil fun σ H Q ⟨L, S, M, rl, rs, h⟩ => h [] H M (Step.refl H M) rs .nil
theorem a_cons {mr : MA} (ha : PE X e (tE G W ma)) (hr : PA X es (tA G W mr)) (hs : starEach (e :: es) X.env = (false, eval e X.env) :: starEach es X.env := by rfl) : PA X (e :: es) (tA G W (mCons ma mr)) := pa_imp (pa_cons ha hr hs) fun σ H Q ⟨L, S, M, rl, rs, h⟩ => by
  refine then_e rl rs h (fun _ _ z => z) fun v H1 M1 x S1 st rs1 rp rl1 h1 => ?_
  refine then_a rl1 rs1 h1 (fun e S' z => PostX.step st e S' z) fun vs H2 M2 xs S2 st2 rs2 rps rl2 h2 => ?_
  exact h2 _ H2 M2 (st.trans st2) rs2 (.cons (Rep.mono st2 _ _ rp) rps)
theorem Reps.length {G : Gam} {H : Hp} {M : Mem} : ∀ {xs : List D} {vs : List V}, Reps G H M xs vs → xs.length = vs.length
  | [], [], _ => rfl
  | _ :: _, _ :: _, .cons _ t => congrArg Nat.succ t.length
/-- the items of a list or tuple, of a list that is a cell -/
def seqD (S : Sto) : D → Option (List D)
  | .tup xs => some xs
  | .lst xs => some xs
  | .loc n => match S[n]? with
    | some (.lst xs) => some xs
    | _ => none
  | _ => none
theorem seqD_ok (ok : G.Ok) {H : Hp} {M : Mem} {S : Sto} {d : D} {v : V} {xs : List D} (rs : RepS G H M S) (rp : Rep G H M d v) (h : seqD S d = some xs) : ∃ a vs, v = .ref a ∧ (SqT G.K H a vs ∨ SqL G.K H a vs) ∧ Reps G H M xs vs := by
  cases d with
  | tup ys =>
    cases h
    obtain ⟨a, vs, e, h1, h2⟩ := rp.tup_inv ok
    exact ⟨a, vs, e, .inl h1, h2⟩
  | lst ys =>
    cases h
    obtain ⟨a, vs, e, _, h1, h2⟩ := rp.lst_inv ok
    exact ⟨a, vs, e, .inr (.of h1), h2⟩
  | loc n =>
    obtain ⟨a, e, hm⟩ := rp.loc_inv ok
    have h : (match S[n]? with
      | some (Cell.lst xs) => some xs
      | _ => none) = some xs := h
    split at h
    · rename_i ys q
      cases h
      obtain ⟨o, h1, h2⟩ := rs.get hm q
      cases h2 with
      | lst h3 => exact ⟨a, _, e, .inr (.of h1), h3⟩
    · cases h
  | _ => cases h
def mStar (a : ME) (r : MA) : MA := fun L S => (a L S).bind fun x S1 => match seqD S1 x with
  | some xs => (r L S1).bind fun ys S2 => .ok (xs ++ ys) S2
  | none => .stuck
theorem Reps.app {G : Gam} {H : Hp} {M : Mem} : ∀ {xs ys : List D} {vs ws : List V}, Reps G H M xs vs → Reps G H M ys ws → Reps G H M (xs ++ ys) (vs ++ ws)
  | [], _, [], _, _, h => h
  | _ :: _, _, _ :: _, _, .cons r t, h => .cons r (t.app h)
theorem a_star (ok : G.Ok) (hK : G.K = X.K) {mr : MA} (h : PA X (.Starred e p :: es) (StX.tStar X.K (tE G W ma) (tA G W mr))) : PA X (.Starred e p :: es) (tA G W (mStar ma mr)) := pa_imp h fun σ H Q ⟨L, S, M, rl, rs, h⟩ => by
  refine then_e rl rs h (fun _ _ z => z) fun v H1 M1 x S1 st rs1 rp rl1 h1 => ?_
  cases q : seqD S1 x with
  | none => rw [q] at h1; exact h1.elim
  | some xs =>
    rw [q] at h1
    obtain ⟨a, vs, e, hsq, hr⟩ := seqD_ok ok rs1 rp q
    rw [hK] at hsq
    refine ⟨a, vs, e, hsq, then_a rl1 rs1 h1 (fun e S' z => PostX.step st e S' z) fun ws H2 M2 ys S2 st2 rs2 rps rl2 h2 => ?_⟩
    exact h2 _ H2 M2 (st.trans st2) rs2 ((Reps.mono st2 _ _ hr).app rps)
def lim : Nat := 1000000
theorem lim_ok {n : Nat} (h : n ≤ lim) : n ≤ sizeLine := Nat.le_trans h (by decide)
def mTup (r : MA) : ME := fun L S => (r L S).bind fun xs S1 => if xs.length ≤ lim then .ok (.tup xs) S1 else .stuck
def mLst (r : MA) : ME := fun L S => (r L S).bind fun xs S1 => if xs.length ≤ lim then .ok (.lst xs) S1 else .stuck
def mLstC (r : MA) : ME := fun L S => (r L S).bind fun xs S1 => if xs.length ≤ lim then .ok (.loc S1.length) (S1 ++ [.lst xs]) else .stuck
theorem tup_imp {mr : MA} {σ : Stt} {H : Hp} {Q : VK} (h : tE G W (mTup mr) σ H Q) : tTup (tA G W mr) σ H Q := by
  obtain ⟨L, S, M, rl, rs, h⟩ := h
  refine then_a rl rs h (fun _ _ z => z) fun vs H1 M1 xs S1 st rs1 rps rl1 h1 => ?_
  by_cases hl : xs.length ≤ lim
  · rw [if_pos hl] at h1
    refine ⟨by rw [← rps.length]; exact lim_ok hl, fun p hp => ?_⟩
    have sn := Step.new (M := M1) (o := .tup vs) hp
    exact h1 _ _ M1 (st.trans sn) (rs1.new hp) (.tup (rs1.fresh hp) upd_same (Reps.mono sn _ _ rps))
  · rw [if_neg hl] at h1; exact h1.elim
theorem e_tup {x1} {mr : MA} (h : PA X es (tA G W mr)) : PE X (.Tuple es x1 pos) (tE G W (mTup mr)) := pe_imp (pe_tup h) fun _ _ _ h => tup_imp h
theorem e_lst {mr : MA} (h : PA X es (tA G W mr)) : PE X (.List es pos) (tE G W (mLst mr)) := pe_imp (pe_lst h) fun σ H Q ⟨L, S, M, rl, rs, h⟩ => by
  refine then_a rl rs h (fun _ _ z => z) fun vs H1 M1 xs S1 st rs1 rps rl1 h1 => ?_
  by_cases hl : xs.length ≤ lim
  · rw [if_pos hl] at h1
    refine ⟨by rw [← rps.length]; exact lim_ok hl, fun p hp => ?_⟩
    have sn := Step.new (M := M1) (o := .lst vs) hp
    exact h1 _ _ M1 (st.trans sn) (rs1.new hp) (.lst (rs1.fresh hp) upd_same (Reps.mono sn _ _ rps))
  · rw [if_neg hl] at h1; exact h1.elim
theorem e_lstC {mr : MA} (h : PA X es (tA G W mr)) : PE X (.List es pos) (tE G W (mLstC mr)) := pe_imp (pe_lst h) fun σ H Q ⟨L, S, M, rl, rs, h⟩ => by
  refine then_a rl rs h (fun _ _ z => z) fun vs H1 M1 xs S1 st rs1 rps rl1 h1 => ?_
  by_cases hl : xs.length ≤ lim
  · rw [if_pos hl] at h1
    refine ⟨by rw [← rps.length]; exact lim_ok hl, fun p hp => ?_⟩
    have sn := Step.newC (M := M1) (o := .lst vs) hp
    refine h1 _ _ _ (st.trans sn) (rs1.newC hp (.lst (Reps.mono sn _ _ rps))) (.loc ?_)
    exact rs1.last
  · rw [if_neg hl] at h1; exact h1.elim
end
/-! ## statements -/
def bSkip : MB := fun L S => .ok (.nx L) S
def bSeq (a b : MB) : MB := fun L S => (a L S).bind fun f S1 => match f with
  | .nx L1 => b L1 S1
  | f => .ok f S1
def bRet (a : ME) : MB := fun L S => (a L S).bind fun d S1 => .ok (.rt d) S1
def bDrop (a : ME) : MB := fun L S => (a L S).bind fun _ S1 => .ok (.nx L) S1
def bIf (c : MT) (a b : MB) : MB := fun L S => (c L S).bind fun x S1 => if x = true then a L S1 else b L S1
def bBrk : MB := fun L S => .ok (.bk L) S
def bCnt : MB := fun L S => .ok (.ct L) S
def bStuck : MB := fun _ _ => .stuck
/-- a target: it is told the value, and stores it -/
abbrev MG := D → Loc → Sto → Out Loc
def bAsg (a : ME) (g : MG) : MB := fun L S => (a L S).bind fun d S1 => (g d L S1).bind fun L1 S2 => .ok (.nx L1) S2
section
variable {X : Cx} {G : Gam} {W : WX} {e a b c : Expr} {st : Stmt} {rest : List Stmt} {pos p : Pos} {ba bb : MB} {ma mb : ME} {tc : MT}
/-- a block's wish of exceptions, whatever the slots -/
def NoSl (W : WX) : Prop := ∀ c d σ σ' H, W c d σ H → W c d σ' H
theorem wE_of {G : Gam} {H : Hp} {M : Mem} {σ : Stt} (e : EV) (S : Sto) (h : PostX G H M (fun c d H' => ∀ σ', W c d σ' H') e S) : PostX G H M (fun c d H' => W c d σ H') e S := fun c d H' M' s rs rp => h c d H' M' s rs rp σ
theorem b_nil : PSs X [] (tB G W bSkip) := pss_imp pss_nil fun D' σ H ⟨L, S, M, rl, rs, h⟩ => h H M (Step.refl H M) rs σ rl
theorem b_seq_imp {D' : Ends} {σ : Stt} {H : Hp} (h : tB G W (bSeq ba bb) D' σ H) : tSeq (tB G W ba) (tB G W bb) D' σ H := by
  obtain ⟨L, S, M, rl, rs, h⟩ := h
  refine ⟨L, S, M, rl, rs, ?_⟩
  unfold bSeq at h
  cases q : ba L S with
  | exc e S1 => rw [q] at h; exact h
  | stuck => rw [q] at h; exact h
  | ok f S1 =>
    rw [q] at h
    cases f with
    | nx L1 => exact fun H1 M1 st rs1 σ1 rl1 => ⟨L1, S1, M1, rl1, rs1, Fin.mono h (fun d S z => PostF.step st d S z) (fun e S z => PostX.step st e S z)⟩
    | rt d => exact h
    | bk L1 => exact h
    | ct L1 => exact h
theorem b_cons (h1 : PS X st (tB G W ba)) (h2 : PSs X rest (tB G W bb)) : PSs X (st :: rest) (tB G W (bSeq ba bb)) := pss_imp (pss_cons h1 h2) fun _ _ _ h => b_seq_imp h
theorem b_one (h1 : PS X st (tB G W ba)) : PSs X [st] (tB G W ba) := pss_one h1
theorem b_ret (ha : PE X e (tE G W ma)) : PS X (.Return (some e) pos) (tB G W (bRet ma)) := ps_imp (ps_ret ha) fun D' σ H ⟨L, S, M, rl, rs, h⟩ =>
  then_e rl rs h (fun e S z => wE_of e S z) fun v H1 M1 x S1 st rs1 rp rl1 h1 => h1 H1 M1 st rs1 v rp
theorem b_retN : PS X (.Return none pos) (tB G W (bRet (mC .non))) := ps_imp ps_retN fun D' σ H ⟨L, S, M, rl, rs, h⟩ => h H M (Step.refl H M) rs _ .non
theorem b_expr (ha : PE X e (tE G W ma)) (hs : swapsWith e none pos.line X.env = pure false := by rfl) : PS X (.Expr e pos) (tB G W (bDrop ma)) := ps_imp (ps_expr ha hs) fun D' σ H ⟨L, S, M, rl, rs, h⟩ =>
  then_e rl rs h (fun e S z => wE_of e S z) fun v H1 M1 x S1 st rs1 rp rl1 h1 => h1 H1 M1 st rs1 σ rl1
theorem b_if {sa sb : List Stmt} (hc : PT X c (tT G W tc)) (ha : PSs X sa (tB G W ba)) (hb : PSs X sb (tB G W bb)) : PS X (.If c sa sb pos) (tB G W (bIf tc ba bb)) := ps_imp (ps_if hc ha hb) fun D' σ H ⟨L, S, M, rl, rs, h⟩ => by
  refine then_t rl rs h (fun e S z => wE_of e S z) fun H1 M1 x S1 st rs1 rl1 h1 => ?_
  cases x with
  | true => exact ⟨L, S1, M1, rl1, rs1, h1.mono (fun d S z => PostF.step st d S z) (fun e S z => PostX.step st e S z)⟩
  | false => exact ⟨L, S1, M1, rl1, rs1, h1.mono (fun d S z => PostF.step st d S z) (fun e S z => PostX.step st e S z)⟩
theorem b_pass : PS X (.Pass pos) (tB G W bSkip) := ps_imp ps_pass fun D' σ H ⟨L, S, M, rl, rs, h⟩ => h H M (Step.refl H M) rs σ rl
theorem b_brk : PS X (.Break pos) (tB G W bBrk) := ps_imp ps_break fun D' σ H ⟨L, S, M, rl, rs, h⟩ => h H M (Step.refl H M) rs σ rl
theorem b_cnt : PS X (.Continue pos) (tB G W bCnt) := ps_imp ps_continue fun D' σ H ⟨L, S, M, rl, rs, h⟩ => h H M (Step.refl H M) rs σ rl
theorem b_stuck : PS X st (tB G W bStuck) := ps_imp ps_never fun D' σ H ⟨L, S, M, rl, rs, h⟩ => h
theorem bs_stuck {sts : List Stmt} : PSs X sts (tB G W bStuck) := pss_imp pss_never fun D' σ H ⟨L, S, M, rl, rs, h⟩ => h
/-! ### targets -/
/-- a target's reading: it may raise nothing -/
abbrev Own := Option (List Nat)
def Wp : Own → Stt → Stt → Prop
  | none, _, _ => True
  | some vs, σ, σ' => wipe σ' vs = wipe σ vs
theorem Wp.rfl : ∀ {o : Own} {σ : Stt}, Wp o σ σ
  | none, _ => trivial
  | some _, _ => Eq.refl _
theorem Wp.trans : ∀ {o : Own} {σ σ1 σ2 : Stt}, Wp o σ σ1 → Wp o σ1 σ2 → Wp o σ σ2
  | none, _, _, _, _, _ => trivial
  | some _, _, _, _, h, k => Eq.trans k h
def tG (G : Gam) (o : Own) (g : MG) : TG := fun v σ H Q => ∃ d L S M, Rep G H M d v ∧ RepL G H M L σ ∧ RepS G H M S ∧ Fin (g d L S) (fun L1 S1 => ∀ H' M' σ', Step H M H' M' → RepS G H' M' S1 → RepL G H' M' L1 σ' → Wp o σ σ' → Q σ' H') (fun _ _ => False)
theorem wipe_get (σ : Stt) (j : Nat) : ∀ vs : List Nat, (wipe σ vs)[j]? = if j ∈ vs then (σ[j]?).map (fun _ => none) else σ[j]?
  | [] => by
    rw [if_neg List.not_mem_nil]
    rfl
  | v :: vs => by
    show ((wipe σ vs).set v none)[j]? = _
    rw [List.getElem?_set]
    have hl : (wipe σ vs).length = σ.length := by
      clear j
      induction vs with
      | nil => rfl
      | cons w vs ih =>
        show ((wipe σ vs).set w none).length = _
        rw [List.length_set, ih]
    by_cases e : v = j
    · subst e
      rw [if_pos rfl, if_pos List.mem_cons_self, hl]
      by_cases q : v < σ.length
      · rw [if_pos q, List.getElem?_eq_getElem q]
        rfl
      · rw [if_neg q, List.getElem?_eq_none (Nat.le_of_not_lt q)]
        rfl
    · rw [if_neg e, wipe_get σ j vs]
      by_cases q : j ∈ vs
      · rw [if_pos q, if_pos (List.mem_cons_of_mem _ q)]
      · rw [if_neg q, if_neg]
        intro z
        rcases List.mem_cons.mp z with z | z
        · exact e z.symm
        · exact q z
theorem wipe_none {vs : List Nat} (σ : Stt) (i : Nat) (h : i ∈ vs) (v : Option V) : wipe (σ.set i v) vs = wipe σ vs := by
  apply List.ext_getElem?
  intro j
  rw [wipe_get, wipe_get]
  by_cases e : i = j
  · subst e
    rw [if_pos h, if_pos h, List.getElem?_set]
    simp only [if_true]
    by_cases q : i < σ.length
    · rw [if_pos q, List.getElem?_eq_getElem q]
      rfl
    · rw [if_neg q, List.getElem?_eq_none (Nat.le_of_not_lt q)]
  · rw [List.getElem?_set_ne e]
def ownB : Own → Nat → Bool
  | none, _ => true
  | some vs, i => vs.contains i
theorem Wp.set {o : Own} {σ : Stt} {i : Nat} {v : Option V} (h : ownB o i = true) : Wp o σ (σ.set i v) := by
  cases o with
  | none => exact trivial
  | some vs => exact wipe_none σ i (by simpa [ownB] using h) v
theorem pg_imp {X : Cx} {e : Expr} {t t' : TG} (h : PG X e t) (hi : ∀ v σ H Q, t' v σ H Q → t v σ H Q) : PG X e t' := ⟨fun pins s σ H v u Q I r hw => h.run pins s σ H v u Q I r (hi _ _ _ _ hw)⟩
def gN (i : Nat) : MG := fun d L S => .ok (L.set i (some d)) S
theorem g_name {o : Own} {i : Nat} {x : Str} (h : PG X (.Name x pos) (gName i)) (ho : ownB o i = true := by rfl) : PG X (.Name x pos) (tG G o (gN i)) := pg_imp h fun v σ H Q ⟨d, L, S, M, rp, rl, rs, h⟩ => h H M _ (Step.refl H M) rs (rl.set i rp) (Wp.set ho)
def noXG (g : MG) : Prop := ∀ d L S e S', g d L S ≠ .exc e S'
theorem asg_imp {g : MG} {t : TG} (hn : noXG g) (hg : ∀ v σ H Q, tG G none g v σ H Q → t v σ H Q) {D' : Ends} {σ : Stt} {H : Hp} (h : tB G W (bAsg ma g) D' σ H) : tAsg (tE G W ma) t D' σ H := by
  obtain ⟨L, S, M, rl, rs, h⟩ := h
  refine then_e rl rs h (fun e S z => wE_of e S z) fun v H1 M1 x S1 st rs1 rp rl1 h1 => hg _ _ _ _ ⟨x, L, S1, M1, rp, rl1, rs1, ?_⟩
  cases q : g x L S1 with
  | exc e S' => exact (hn _ _ _ _ _ q).elim
  | stuck => rw [q] at h1; exact h1
  | ok L2 S2 =>
    rw [q] at h1
    exact fun H' M' σ' st' rs' rl' _ => h1 H' M' (st.trans st') rs' σ' rl'
theorem b_asg {tg : Expr} {g : MG} (hn : noXG g) (ha : PE X e (tE G W ma)) (hg : PG X tg (tG G none g)) (hs : swapsWithSole [tg] e pos.line X.env = pure false := by rfl) (hw : swappedStores [tg] e X.env = pure none := by rfl)
    (h1 : (assignEach [tg] X.env).map (·.2) = [assign tg X.env] := by rfl) : PS X (.Assign [tg] e pos) (tB G W (bAsg ma g)) := ps_imp (ps_asg ha hg hs hw h1) fun _ _ _ h => asg_imp hn (fun _ _ _ _ z => z) h
theorem gN_noX (i : Nat) : noXG (gN i) := fun _ _ _ _ _ h => nomatch h
/-- name = value -/
theorem b_set {i : Nat} {x : Str} (h : PS X (.Assign [.Name x p] e pos) (tAsg (tE G W ma) (gName i))) : PS X (.Assign [.Name x p] e pos) (tB G W (bAsg ma (gN i))) :=
  ps_imp h fun _ _ _ h => asg_imp (gN_noX i) (fun v σ H Q ⟨d, L, S, M, rp, rl, rs, h⟩ => h H M _ (Step.refl H M) rs (rl.set i rp) trivial) h
/-- a, b = .. : several targets of a tuple -/
abbrev MGs := List D → Loc → Sto → Out Loc
def gNilM : MGs := fun ds L S => match ds with
  | [] => .ok L S
  | _ => .stuck
def gConsM (g : MG) (r : MGs) : MGs := fun ds L S => match ds with
  | d :: ds => (g d L S).bind fun L1 S1 => r ds L1 S1
  | [] => .stuck
def tGs (G : Gam) (o : Own) (g : MGs) : TGs := fun vs σ H Q => ∃ ds L S M, Reps G H M ds vs ∧ RepL G H M L σ ∧ RepS G H M S ∧ Fin (g ds L S) (fun L1 S1 => ∀ H' M' σ', Step H M H' M' → RepS G H' M' S1 → RepL G H' M' L1 σ' → Wp o σ σ' → Q σ' H') (fun _ _ => False)
theorem pgs_imp {X : Cx} {es : List Expr} {t t' : TGs} (h : PGs X es t) (hi : ∀ v σ H Q, t' v σ H Q → t v σ H Q) : PGs X es t' := ⟨fun pins s σ H v u Q I r hw => h.run pins s σ H v u Q I r (hi _ _ _ _ hw)⟩
theorem gs_nil {o : Own} : PGs X [] (tGs G o gNilM) := pgs_imp pgs_nil fun vs σ H Q ⟨ds, L, S, M, rp, rl, rs, h⟩ => by
  cases rp with
  | nil => exact ⟨rfl, h H M σ (Step.refl H M) rs rl Wp.rfl⟩
  | cons _ _ => exact h.elim
theorem gs_cons {o : Own} {es : List Expr} {g : MG} {r : MGs} (hn : noXG g) (h1 : PG X e (tG G o g)) (h2 : PGs X es (tGs G o r)) (hs : (assignEach (e :: es) X.env).map (·.2) = assign e X.env :: (assignEach es X.env).map (·.2) := by rfl) : PGs X (e :: es) (tGs G o (gConsM g r)) :=
  pgs_imp (pgs_cons h1 h2 hs) fun vs σ H Q ⟨ds, L, S, M, rp, rl, rs, h⟩ => by
    cases rp with
    | nil => exact h.elim
    | @cons d v ds' vs' r1 r2 =>
      refine ⟨v, vs', rfl, d, L, S, M, r1, rl, rs, ?_⟩
      have h : Fin ((g d L S).bind fun L1 S1 => r ds' L1 S1) _ _ := h
      cases q : g d L S with
      | exc e S' => exact (hn _ _ _ _ _ q).elim
      | stuck => rw [q] at h; exact h
      | ok L1 S1 =>
        rw [q] at h
        exact fun H' M' σ' st rs' rl' w => ⟨ds', L1, S1, M', Reps.mono st _ _ r2, rl', rs', Fin.mono h (fun L2 S2 z H2 M2 σ2 st2 rs2 rl2 w2 => z H2 M2 σ2 (st.trans st2) rs2 rl2 (w.trans w2)) (fun _ _ z => z)⟩
/-- a tuple's items; a tuple alone -/
def gTupM (n : Nat) (r : MGs) : MG := fun d L S => match d with
  | .tup xs => if xs.length = n then r xs L S else .stuck
  | _ => .stuck
theorem g_tup {o : Own} (ok : G.Ok) (hK : G.K = X.K) {es : List Expr} {k n : Nat} {r : MGs} (h : PG X (.Tuple es k pos) (gTup X.K n (tGs G o r))) : PG X (.Tuple es k pos) (tG G o (gTupM n r)) := pg_imp h fun v σ H Q ⟨d, L, S, M, rp, rl, rs, h⟩ => by
  cases d with
  | tup xs =>
    obtain ⟨a, vs, e, h1, h2⟩ := rp.tup_inv ok
    unfold gTupM at h
    simp only at h
    by_cases hl : xs.length = n
    · rw [if_pos hl] at h
      exact ⟨a, vs, e, by rw [← hK]; exact h1, by rw [← h2.length]; exact hl, xs, L, S, M, h2, rl, rs, h⟩
    · rw [if_neg hl] at h; exact h.elim
  | _ => exact h.elim
end
end MM
set_option linter.all false
set_option maxRecDepth 100000
set_option maxHeartbeats 2000000
namespace MM
open PySem PySem.Spec PyProof.Rows L2
/-! ## defs -/
def spM (G : Gam) (n : Nat) (fn : FnM) : Sp := fun vs H Q E => ∃ ds S M, Reps G H M ds vs ∧ RepS G H M S ∧ ds.length = n ∧ Fin (fn ds S) (PostV G H M Q) (PostX G H M E)
def locs (N : Nat) (ds : List D) : Loc := ds.map some ++ List.replicate (N - ds.length) none
def endF : Fl → Sto → Out D
  | .nx _, S => .ok .non S
  | .rt d, S => .ok d S
  | _, _ => .stuck
def mkFn (N : Nat) (b : MB) : FnM := fun ds S => (b (locs N ds) S).bind endF
theorem Reps.locs {G : Gam} {H : Hp} {M : Mem} {ds : List D} {vs : List V} (N : List Str) (h : Reps G H M ds vs) : RepL G H M (MM.locs N.length ds) (L2.start N vs) where
  len := by
    unfold MM.locs L2.start
    simp [h.length]
  at_ := fun i d e => by
    unfold MM.locs at e
    unfold L2.start
    by_cases hi : i < ds.length
    · rw [List.getElem?_append_left (by simpa using hi)] at e
      rw [List.getElem?_append_left (by simpa [← h.length] using hi)]
      clear N
      revert i vs
      induction ds with
      | nil => intro i vs h e hi; simp at hi
      | cons x xs ih =>
        intro vs h i e hi
        cases h with
        | @cons _ v _ vs' r1 r2 =>
          cases i with
          | zero =>
            simp at e
            subst e
            exact ⟨v, by simp, r1⟩
          | succ j =>
            obtain ⟨w, h1, h2⟩ := ih r2 j (by simpa using e) (by simpa using hi)
            exact ⟨w, by simpa using h1, h2⟩
    · rw [List.getElem?_append_right (by simpa using Nat.le_of_not_lt hi), List.getElem?_replicate] at e
      split at e <;> cases e
theorem fn_ok {P : Program} {w : World} {K : PySem.W.Frag} {mg : Str → Option Value} {base : Heap} {x qual : Str} {params : Arguments} {body : List Stmt} {scope : Scope} {dvs : List V} {kws : List (Str × V)} {f : Addr} {fd : FuncData} {N ps : List Str} {k : Nat} {G : Gam} {b : MB}
    (F : FunD K x qual params body scope dvs kws f fd) (S : FnScope N ps scope)
    (hb : ∀ (cdv : Value) (A : Around) (outer : List Env) (s : Shared) (H : Hp) (E : XK), Room k (A.deeper (envOfC qual scope s.heap.objs.size f cdv)) →
      PSs (cxOf (L2.CX P w) P w K mg base N qual scope f cdv A outer s H E) body (tB G (fun c d _ H' => E c d H') b)) :
    FnOk P w K mg base (L2.CX P w) (k + 1) f fd ps (spM G ps.length (mkFn N.length b)) := by
  refine F.ok S (fun vs H Q E h => ?_) (fun cdv A outer s H vs Q E hr h => ⟨_, hb cdv A outer s H E hr, ?_⟩)
  · obtain ⟨ds, S', M, h1, _, h2, _⟩ := h
    rw [← h1.length]
    exact h2
  · obtain ⟨ds, S', M, h1, rs, h2, h⟩ := h
    refine ⟨locs N.length ds, S', M, h1.locs N, rs, ?_⟩
    unfold mkFn at h
    cases q : b (locs N.length ds) S' with
    | stuck => rw [q] at h; exact h
    | exc e S1 => rw [q] at h; exact fun c d H' M' st rs' rx σ' => h c d H' M' st rs' rx
    | ok fl S1 =>
      rw [q] at h
      cases fl with
      | nx L1 => exact fun H' M' st rs' σ' _ => h .non H' M' st rs' .non
      | rt d => exact fun H' M' st rs' v rp => h v H' M' st rs' rp
      | bk L1 => exact (show False from h).elim
      | ct L1 => exact (show False from h).elim
/-- a def of the top, as its callers see it -/
structure FnI (P : Program) (w : World) (K : PySem.W.Frag) (mg : Str → Option Value) (base : Heap) (G : Gam) (k : Nat) (x : Str) (n : Nat) (fn : FnM) : Prop where
  ex : ∃ f fd ps, mg x = some (.ref f) ∧ PySem.W.keepIn K (.ref f) = true ∧ Binds K fd ps [] ∧ ps.length = n ∧ FnOk P w K mg base (L2.CX P w) k f fd ps (spM G n fn)
/-- a method -/
structure MetI (P : Program) (w : World) (K : PySem.W.Frag) (mg : Str → Option Value) (base : Heap) (G : Gam) (k : Nat) (C m : Str) (n : Nat) (fn : FnM) : Prop where
  ex : ∃ c f fd ps, G.cls C = some c ∧ Cls K c ∧ Meth K c m f ∧ Binds K fd ps [] ∧ ps.length = n + 1 ∧ FnOk P w K mg base (L2.CX P w) k f fd ps (spM G (n + 1) fn)
/-- a class made by its __init__ -/
structure MakI (P : Program) (w : World) (K : PySem.W.Frag) (mg : Str → Option Value) (base : Heap) (G : Gam) (k : Nat) (C : Str) (n : Nat) (fn : FnM) : Prop where
  ex : ∃ c f fd ps, G.cls C = some c ∧ mg C = some (.ref c) ∧ Mk K c f ∧ Binds K fd ps [] ∧ ps.length = n + 1 ∧ FnOk P w K mg base (L2.CX P w) k f fd ps (spM G (n + 1) fn)
/-- a property -/
structure PrpI (P : Program) (w : World) (K : PySem.W.Frag) (mg : Str → Option Value) (base : Heap) (G : Gam) (k : Nat) (C f : Str) (fn : FnM) : Prop where
  ex : ∃ c p g fd ps, G.cls C = some c ∧ Cls K c ∧ PropOf K c f p g ∧ Binds K fd ps [] ∧ ps.length = 1 ∧ FnOk P w K mg base (L2.CX P w) k g fd ps (spM G 1 fn)
abbrev FnX (X : Cx) := FnI X.prog X.w X.K X.mg X.base
abbrev MetX (X : Cx) := MetI X.prog X.w X.K X.mg X.base
abbrev MakX (X : Cx) := MakI X.prog X.w X.K X.mg X.base
abbrev PrpX (X : Cx) := PrpI X.prog X.w X.K X.mg X.base
def mCall (n : Nat) (fn : FnM) (a : MA) : ME := fun L S => (a L S).bind fun ds S1 => if ds.length = n then fn ds S1 else .stuck
section
variable {X : Cx} {G : Gam} {W : WX} {e o : Expr} {es : List Expr} {pos p apos : Pos} {ma : MA} {mo : ME} {k n : Nat} {x m C : Str} {fn : FnM}
theorem call_fin {n : Nat} {fn : FnM} {M M1 : Mem} {H H1 : Hp} {S1 : Sto} {σ : Stt} {Q : VK} {ds : List D} {vs : List V} (st : Step H M H1 M1) (rs : RepS G H1 M1 S1) (rp : Reps G H1 M1 ds vs) (hl : ds.length = n)
    (h : Fin (fn ds S1) (PostV G H M Q) (PostX G H M fun c d H' => W c d σ H')) : spM G n fn vs H1 Q (WE W σ) :=
  ⟨ds, S1, M1, rp, rs, hl, h.mono (fun d S z => PostV.step st d S z) (fun e S z => PostX.step st e S z)⟩
theorem call_imp {σ : Stt} {H : Hp} {Q : VK} (h : tE G W (mCall n fn ma) σ H Q) : tCallS (spM G n fn) (WE W) (tA G W ma) σ H Q := by
  obtain ⟨L, S, M, rl, rs, h⟩ := h
  refine then_a rl rs h (fun _ _ z => z) fun vs H1 M1 ds S1 st rs1 rps rl1 h1 => ?_
  by_cases hl : ds.length = n
  · rw [if_pos hl] at h1
    exact call_fin st rs1 rps hl h1
  · rw [if_neg hl] at h1; exact h1.elim
theorem e_call (F : FnX X G k x n fn) (hr : Room k X.A) (tk : Takes X W) (hg : Gl X x) (ha : PA X (e :: es) (tA G W ma)) (hdb : (x == ("__debug__" : Str)) = false := by decide) (he : starEach (e :: es) X.env = (false, eval e X.env) :: starEach es X.env := by rfl)
    (hpl : (backTo pos (starEach es X.env)).any (·.1) = false := by rfl) : PE X (.Call (.Name x p) (e :: es) [] pos) (tE G W (mCall n fn ma)) := by
  obtain ⟨f, fd, ps, hm, hk, hb, hn, F⟩ := F.ex
  exact pe_imp (pe_callS F hr hg hm hk hb (fun σ => passAt tk σ) ha hdb he hpl) fun _ _ _ h => call_imp h
/-- the class of an object, of a cell -/
def clsD (S : Sto) : D → Option Str
  | .obj C _ _ => some C
  | .loc n => match S[n]? with
    | some (.ins C _ _) => some C
    | _ => none
  | _ => none
def fldsD (S : Sto) : D → Option (List Str × List D)
  | .obj _ ns vs => some (ns, vs)
  | .loc n => match S[n]? with
    | some (.ins _ ns vs) => some (ns, vs)
    | _ => none
  | _ => none
theorem clsD_ok (ok : G.Ok) {H : Hp} {M : Mem} {S : Sto} {d : D} {v : V} {C : Str} (rs : RepS G H M S) (rp : Rep G H M d v) (h : clsD S d = some C) :
    ∃ a c dx fs ns vs, v = .ref a ∧ G.cls C = some c ∧ H a = some (.ins c dx fs) ∧ fldsD S d = some (ns, vs) ∧ ns = fs.map (·.1) ∧ Reps G H M vs (fs.map (·.2)) := by
  cases d with
  | obj C' ns vs =>
    cases h
    cases rp with
    | obj h1 h2 h3 h4 h5 => exact ⟨_, _, _, _, _, _, rfl, h2, h3, rfl, h4, h5⟩
    | ext h => exact (ok.ext _ _ _ _ h).elim
  | loc n =>
    obtain ⟨a, e, hm⟩ := rp.loc_inv ok
    have h : (match S[n]? with
      | some (Cell.ins C _ _) => some C
      | _ => none) = some C := h
    split at h
    · rename_i C' ns vs q
      cases h
      obtain ⟨u, h1, h2⟩ := rs.get hm q
      cases h2 with
      | ins h3 h4 h5 =>
        refine ⟨a, _, _, _, ns, vs, e, h3, h1, ?_, h4, h5⟩
        show (match S[n]? with
          | some (.ins _ ns vs) => some (ns, vs)
          | _ => none) = some (ns, vs)
        rw [q]
    · cases h
  | _ => cases h
def mMeth (C m : Str) (n : Nat) (fn : FnM) (o : ME) (a : MA) : ME := fun L S => (o L S).bind fun d S1 => match clsD S1 d, fldsD S1 d with
  | some C', some (ns, _) => if C' = C ∧ ¬ m ∈ ns then (a L S1).bind fun ds S2 => if ds.length = n then fn (d :: ds) S2 else .stuck else .stuck
  | _, _ => .stuck
theorem lookup_none {m : Str} : ∀ {fs : List (Str × V)}, ¬ m ∈ fs.map (·.1) → fs.lookup m = none
  | [], _ => rfl
  | (f, v) :: r, h => by
    have h1 : ¬ m = f := fun e => h (by rw [e]; exact List.mem_cons_self)
    have h2 : (m == f) = false := by simpa using h1
    show (match m == f with | true => some v | false => r.lookup m) = none
    rw [h2]
    exact lookup_none fun q => h (List.mem_cons_of_mem _ q)
theorem meth_imp (ok : G.Ok) {c : Addr} (hC : G.cls C = some c) {σ : Stt} {H : Hp} {Q : VK} (h : tE G W (mMeth C m n fn mo ma) σ H Q) :
    tE G W mo σ H fun v H1 => ∃ a dx fs, v = .ref a ∧ H1 a = some (.ins c dx fs) ∧ fs.lookup m = none ∧ tA G W ma σ H1 fun vs H2 => spM G (n + 1) fn (v :: vs) H2 Q (WE W σ) := by
  obtain ⟨L, S, M, rl, rs, h⟩ := h
  refine then_e rl rs h (fun _ _ z => z) fun v H1 M1 d S1 st rs1 rp rl1 h1 => ?_
  cases q : clsD S1 d with
  | none => rw [q] at h1; exact h1.elim
  | some C' =>
    obtain ⟨a, c', dx, fs, ns, vs, e1, e2, e3, e4, e5, _⟩ := clsD_ok ok rs1 rp q
    rw [q, e4] at h1
    simp only at h1
    by_cases hc : C' = C ∧ ¬ m ∈ ns
    · rw [if_pos hc] at h1
      rw [hc.1, hC] at e2
      cases e2
      refine ⟨a, dx, fs, e1, e3, lookup_none (by rw [← e5]; exact hc.2), then_a rl1 rs1 h1 (fun e S' z => PostX.step st e S' z) fun vs H2 M2 ds S2 st2 rs2 rps rl2 h2 => ?_⟩
      by_cases hl : ds.length = n
      · rw [if_pos hl] at h2
        exact call_fin (ds := d :: ds) (st.trans st2) rs2 (.cons (Rep.mono st2 _ _ rp) rps) (by simp [hl]) h2
      · rw [if_neg hl] at h2; exact h2.elim
    · rw [if_neg hc] at h1; exact h1.elim
theorem e_meth (ok : G.Ok) {pl : Sem Bool} (F : MetX X G k C m n fn) (hr : Room k X.A) (tk : Takes X W) (ho : PE X o (tE G W mo)) (ha : PA X (e :: es) (tA G W ma))
    (hst : starEach (e :: es) X.env = (false, eval e X.env) :: starEach es X.env := by rfl) (hpl : (backTo pos (starEach es X.env)).any (·.1) = false := by rfl)
    (ht : eval (.Call (.Attribute o m apos) (e :: es) [] pos) X.env = (do
      let ov ← eval o X.env
      standAt apos.atName
      let (f, first) ← holding [ov] (getMethod ov m pl)
      callWith pos f first (backTo pos (starEach (e :: es) X.env)) (backToKw pos (keywordEach [] X.env))) := by rfl) :
    PE X (.Call (.Attribute o m apos) (e :: es) [] pos) (tE G W (mMeth C m n fn mo ma)) := by
  obtain ⟨c, f, fd, ps, hC, hc, hm, hb, hn, F⟩ := F.ex
  refine ⟨fun pins s σ H Q I h => ?_⟩
  refine PySem.W.methodCall_KW (pl := pl) (thn (ho.run pins s σ H _ I (meth_imp ok hC h)) fun u s1 ⟨x, H1, I1, rx, a, dx, fs, ex, ea, l, q⟩ => ?_) ht
  subst ex
  obtain rfl : u = Value.ref a := rx
  refine getmeth_ok I1 ea hc hm l ?_
  refine PySem.W.callWith_K (first := [.ref a]) (h₀ := X.base) I.ok.mod.kin hm.kp (thn (ha.run pos pins s1 σ H1 _ I1 q) fun us s2 ⟨vs, H2, I2, r, q2⟩ => ⟨I2.kIn, ?_⟩) hst hpl
  exact run_fnS (us := .ref a :: us) (vs := .ref a :: vs) F hr hb (passAt tk σ) I2 (.cons rfl r) q2
theorem e_meth0 (ok : G.Ok) {pl : Sem Bool} (F : MetX X G k C m 0 fn) (hr : Room k X.A) (tk : Takes X W) (ho : PE X o (tE G W mo))
    (ht : eval (.Call (.Attribute o m apos) [] [] pos) X.env = (do
      let ov ← eval o X.env
      standAt apos.atName
      let (f, first) ← holding [ov] (getMethod ov m pl)
      callWith pos f first (backTo pos (starEach [] X.env)) (backToKw pos (keywordEach [] X.env))) := by rfl) :
    PE X (.Call (.Attribute o m apos) [] [] pos) (tE G W (mMeth C m 0 fn mo mNil)) := by
  obtain ⟨c, f, fd, ps, hC, hc, hm, hb, hn, F⟩ := F.ex
  refine ⟨fun pins s σ H Q I h => ?_⟩
  refine PySem.W.methodCall_KW (pl := pl) (thn (ho.run pins s σ H _ I (meth_imp ok hC h)) fun u s1 ⟨x, H1, I1, rx, a, dx, fs, ex, ea, l, q⟩ => ?_) ht
  subst ex
  obtain rfl : u = Value.ref a := rx
  refine getmeth_ok I1 ea hc hm l ?_
  obtain ⟨L, S, M, rl, rs, q⟩ := q
  have q2 := q [] H1 M (Step.refl H1 M) rs .nil
  exact PySem.W.callWith_K0 (first := [.ref a]) I1.kIn hm.kp (run_fnS (us := [.ref a]) (vs := [.ref a]) F hr hb (passAt tk σ) I1 (.cons rfl .nil) q2)
/-! ### fields -/
def lookD (f : Str) : List Str → List D → Option D
  | n :: ns, v :: vs => if f = n then some v else lookD f ns vs
  | _, _ => none
theorem lookD_ok {H : Hp} {M : Mem} {f : Str} {d : D} : ∀ {fs : List (Str × V)} {ns : List Str} {vs : List D}, ns = fs.map (·.1) → Reps G H M vs (fs.map (·.2)) → lookD f ns vs = some d → ∃ v, fs.lookup f = some v ∧ Rep G H M d v
  | [], ns, vs, e, r, h => by
    subst e
    cases r
    cases h
  | (g, v) :: fs, ns, vs, e, r, h => by
    subst e
    cases r with
    | @cons w _ ws _ r1 r2 =>
      have h : (if f = g then some w else lookD f (fs.map (·.1)) ws) = some d := h
      show ∃ u, (match f == g with | true => some v | false => fs.lookup f) = some u ∧ Rep G H M d u
      by_cases q : f = g
      · rw [if_pos q] at h
        cases h
        refine ⟨v, ?_, r1⟩
        have : (f == g) = true := by simpa using q
        rw [this]
      · rw [if_neg q] at h
        have : (f == g) = false := by simpa using q
        rw [this]
        exact lookD_ok rfl r2 h
def mFld (C f : Str) (o : ME) : ME := fun L S => (o L S).bind fun d S1 => match clsD S1 d, fldsD S1 d with
  | some C', some (ns, vs) => if C' = C then match lookD f ns vs with
    | some v => .ok v S1
    | none => .stuck else .stuck
  | _, _ => .stuck
/-- a class whose field is read, stored -/
structure FldI (K : PySem.W.Frag) (G : Gam) (C f : Str) : Prop where
  ex : ∃ c, G.cls C = some c ∧ Cls K c ∧ NoAttr K c f
theorem e_fld (ok : G.Ok) {f : Str} (F : FldI X.K G C f) (ho : PE X o (tE G W mo)) (hb : attributeBase o f X.env (eval o X.env) = eval o X.env := by rfl) : PE X (.Attribute o f pos) (tE G W (mFld C f mo)) := pe_imp (pe_fld ho hb) fun σ H Q ⟨L, S, M, rl, rs, h⟩ => by
  obtain ⟨c, hC, hc, hn⟩ := F.ex
  refine then_e rl rs h (fun _ _ z => z) fun v H1 M1 d S1 st rs1 rp rl1 h1 => ?_
  cases q : clsD S1 d with
  | none => rw [q] at h1; exact h1.elim
  | some C' =>
    obtain ⟨a, c', dx, fs, ns, vs, e1, e2, e3, e4, e5, e6⟩ := clsD_ok ok rs1 rp q
    rw [q, e4] at h1
    simp only at h1
    by_cases hcc : C' = C
    · rw [if_pos hcc] at h1
      rw [hcc, hC] at e2
      cases e2
      cases ql : lookD f ns vs with
      | none => rw [ql] at h1; exact h1.elim
      | some dv =>
        rw [ql] at h1
        obtain ⟨u, l1, l2⟩ := lookD_ok e5 e6 ql
        exact ⟨a, c, dx, fs, u, e1, e3, hc, hn, l1, h1 u H1 M1 st rs1 l2⟩
    · rw [if_neg hcc] at h1; exact h1.elim
/-- a property: its getter -/
def mProp (C : Str) (fn : FnM) (o : ME) : ME := fun L S => (o L S).bind fun d S1 => if clsD S1 d = some C then dry (fn [d] S1) else .stuck
theorem e_prop (ok : G.Ok) {f : Str} (F : PrpX X G k C f fn) (hr : Room (k + 1) X.A) (ho : PE X o (tE G W mo)) (hb : attributeBase o f X.env (eval o X.env) = eval o X.env := by rfl) : PE X (.Attribute o f pos) (tE G W (mProp C fn mo)) := by
  obtain ⟨c, p', g, fd, ps, hC, hc, hp, hbd, hn, F⟩ := F.ex
  refine pe_imp (pe_prop (E := fun _ _ _ => False) ho hc hp F hr hbd .nil (passes_call (W := fun _ _ _ _ => False) takes0 fun _ _ _ _ z => z) hb) fun σ H Q ⟨L, S, M, rl, rs, h⟩ => ?_
  refine then_e rl rs h (fun _ _ z => z) fun v H1 M1 d S1 st rs1 rp rl1 h1 => ?_
  by_cases q : clsD S1 d = some C
  · rw [if_pos q] at h1
    obtain ⟨a, c', dx, fs, ns, vs, e1, e2, e3, _⟩ := clsD_ok ok rs1 rp q
    rw [hC] at e2
    cases e2
    refine ⟨a, dx, fs, e1, e3, [d], S1, M1, .cons (by rw [← e1]; exact rp) .nil, rs1, rfl, ?_⟩
    exact fin_dry (h1.mono (fun d S z => PostV.step st d S z) (fun _ _ z => z))
  · rw [if_neg q] at h1; exact h1.elim
/-- o.f = e -/
def putD (f : Str) (d : D) : List Str → List D → List Str × List D
  | n :: ns, v :: vs => if f = n then (n :: ns, d :: vs) else (n :: (putD f d ns vs).1, v :: (putD f d ns vs).2)
  | _, _ => ([f], [d])
theorem putD_ok {H : Hp} {M : Mem} {f : Str} {d : D} {v : V} (rp : Rep G H M d v) : ∀ {fs : List (Str × V)} {ns : List Str} {vs : List D}, ns = fs.map (·.1) → Reps G H M vs (fs.map (·.2)) →
    (putD f d ns vs).1 = (putF f v fs).map (·.1) ∧ Reps G H M (putD f d ns vs).2 ((putF f v fs).map (·.2))
  | [], ns, vs, e, r => by
    subst e
    cases r
    exact ⟨rfl, .cons rp .nil⟩
  | (g, w) :: fs, ns, vs, e, r => by
    subst e
    cases r with
    | @cons x _ ws _ r1 r2 =>
      have ih := putD_ok rp (f := f) (fs := fs) rfl r2
      show (if f = g then (g :: fs.map (·.1), d :: ws) else (g :: (putD f d (fs.map (·.1)) ws).1, x :: (putD f d (fs.map (·.1)) ws).2)).1 = (if g = f then (g, v) :: fs else (g, w) :: putF f v fs).map (·.1) ∧
        Reps G H M (if f = g then (g :: fs.map (·.1), d :: ws) else (g :: (putD f d (fs.map (·.1)) ws).1, x :: (putD f d (fs.map (·.1)) ws).2)).2 ((if g = f then (g, v) :: fs else (g, w) :: putF f v fs).map (·.2))
      by_cases q : f = g
      · rw [if_pos q, if_pos q.symm]
        exact ⟨rfl, .cons rp r2⟩
      · rw [if_neg q, if_neg fun z => q z.symm]
        exact ⟨by simp [ih.1], .cons r1 ih.2⟩
def bFld (C f : Str) (o a : ME) : MB := fun L S => (a L S).bind fun d S1 => (o L S1).bind fun x S2 => match x with
  | .loc n => match S2[n]? with
    | some (.ins C' ns vs) => if C' = C ∧ ns.length < 1000 then .ok (.nx L) (S2.set n (.ins C (putD f d ns vs).1 (putD f d ns vs).2)) else .stuck
    | _ => .stuck
  | _ => .stuck
theorem b_fld (ok : G.Ok) {f : Str} {a : Expr} {ma : ME} {pos' : Pos} (F : FldI X.K G C f) (ho : PE X o (tE G W mo)) (ha : PE X a (tE G W ma)) (hs : swapsWith a (some (.Attribute o f pos')) pos.line X.env = pure false := by rfl) :
    PS X (.Assign [.Attribute o f pos'] a pos) (tB G W (bFld C f mo ma)) := ps_imp (ps_fld ho ha hs) fun D' σ H ⟨L, S, M, rl, rs, h⟩ => by
  obtain ⟨c, hC, hc, hn⟩ := F.ex
  refine then_e rl rs h (fun e S z => wE_of e S z) fun v H1 M1 d S1 st rs1 rp rl1 h1 => ?_
  refine then_e rl1 rs1 h1 (fun e S z => wE_of e S (PostX.step st e S z)) fun u H2 M2 x S2 st2 rs2 rp2 rl2 h2 => ?_
  cases x with
  | loc n =>
    simp only at h2
    cases q : S2[n]? with
    | none => rw [q] at h2; exact h2.elim
    | some cell =>
      rw [q] at h2
      cases cell with
      | ins C' ns vs =>
        simp only at h2
        by_cases hcc : C' = C ∧ ns.length < 1000
        · rw [if_pos hcc] at h2
          obtain ⟨a', e, hm⟩ := rp2.loc_inv ok
          obtain ⟨o', h3, h4⟩ := rs2.get hm q
          cases h4 with
          | @ins _ c' dx fs _ _ h5 h6 h7 =>
            rw [hcc.1, hC] at h5
            cases h5
            refine ⟨a', c, dx, fs, e, h3, hc, hn, by rw [← List.length_map (f := (·.1)), ← h6]; exact hcc.2, ?_⟩
            have hmem := List.mem_of_getElem? hm
            have sw := Step.wr (H := H2) (M := M2) (o := HO.ins c dx (putF f v fs)) (.inl hmem)
            obtain ⟨p1, p2⟩ := putD_ok (f := f) (Rep.mono sw _ _ (Rep.mono st2 _ _ rp)) h6 (Reps.mono sw _ _ h7)
            exact h2 _ M2 ((st.trans st2).trans sw) (rs2.wr hm (.ins hC p1 p2)) σ (rl2.mono sw)
        · rw [if_neg hcc] at h2; exact h2.elim
      | _ => exact h2.elim
  | _ => exact h2.elim
end
end MM
set_option linter.all false
set_option maxRecDepth 100000
set_option maxHeartbeats 2000000
namespace MM
open PySem PySem.Spec PyProof.Rows L2
/-! ## what a def's end forgets -/
mutual
def clean (k : Nat) : D → Bool
  | .loc n => decide (n < k)
  | .tup xs => cleans k xs
  | .lst xs => cleans k xs
  | .dct _ vs => cleans k vs
  | .dcT _ vs => cleans k vs
  | .obj _ _ vs => cleans k vs
  | .clo _ => false
  | .exc _ _ => false
  | .non => true
  | .bl _ => true
  | .int _ => true
  | .str _ => true
  | .ty _ => true
  | .cls _ => true
  | .scr _ => true
def cleans (k : Nat) : List D → Bool
  | [] => true
  | d :: ds => clean k d && cleans k ds
end
def cleanC (k : Nat) : Cell → Bool
  | .lst xs => cleans k xs
  | .dct _ vs => cleans k vs
  | .dcT _ vs => cleans k vs
  | .ins _ _ vs => cleans k vs
theorem cut_nin {M : Mem} {N : List Addr} {a : Addr} (h : ¬ (M.app N).has a) : ¬ M.has a := fun z => h (Mem.has_app.mpr (.inl z))
mutual
theorem clean_ok {G : Gam} (ok : G.Ok) {H : Hp} {M : Mem} {N : List Addr} (d : D) (v : V) (h : Rep G H (M.app N) d v) (hc : clean M.c.length d = true) : Rep G H M d v := by
  cases h with
  | non => exact .non
  | bl b => exact .bl b
  | int i => exact .int i
  | str x => exact .str x
  | tup h1 h2 h3 => exact .tup (cut_nin h1) h2 (cleans_ok ok _ _ h3 hc)
  | tupK h2 h3 => exact .tupK h2 (cleans_ok ok _ _ h3 hc)
  | lst h1 h2 h3 => exact .lst (cut_nin h1) h2 (cleans_ok ok _ _ h3 hc)
  | scr h1 h2 => exact .scr (cut_nin h1) h2
  | scrK h => exact .scrK h
  | dctK h1 h2 h3 h4 => exact .dctK (cut_nin h1) h2 h3 (cleans_ok ok _ _ h4 hc)
  | dctT h1 h2 h3 h4 => exact .dctT (cut_nin h1) h2 h3 (cleans_ok ok _ _ h4 hc)
  | obj h1 h2 h3 h4 h5 => exact .obj (cut_nin h1) h2 h3 h4 (cleans_ok ok _ _ h5 hc)
  | ty n => exact .ty n
  | cls h => exact .cls h
  | @loc n a h =>
    have hn : n < M.c.length := of_decide_eq_true hc
    rw [show (M.app N).c = M.c ++ N from rfl, List.getElem?_append_left hn] at h
    exact .loc h
  | ext h =>
    have q := ok.ext _ _ _ _ h
    cases d <;> first
      | exact q.elim
      | cases hc
termination_by sizeOf d
theorem cleans_ok {G : Gam} (ok : G.Ok) {H : Hp} {M : Mem} {N : List Addr} (ds : List D) (vs : List V) (h : Reps G H (M.app N) ds vs) (hc : cleans M.c.length ds = true) : Reps G H M ds vs := by
  cases h with
  | nil => exact .nil
  | cons h t =>
    obtain ⟨h1, h2⟩ := Bool.and_eq_true_iff.mp hc
    exact .cons (clean_ok ok _ _ h h1) (cleans_ok ok _ _ t h2)
termination_by sizeOf ds
end
theorem cleanC_ok {G : Gam} (ok : G.Ok) {H : Hp} {M : Mem} {N : List Addr} {c : Cell} {o : HO} (h : RepC G H (M.app N) c o) (hc : cleanC M.c.length c = true) : RepC G H M c o := by
  cases h with
  | lst h => exact .lst (cleans_ok ok _ _ h hc)
  | dctK h1 h2 => exact .dctK h1 (cleans_ok ok _ _ h2 hc)
  | dctT h1 h2 => exact .dctT h1 (cleans_ok ok _ _ h2 hc)
  | ins h1 h2 h3 => exact .ins h1 h2 (cleans_ok ok _ _ h3 hc)
theorem cut_store {G : Gam} (ok : G.Ok) {H : Hp} {M : Mem} {N : List Addr} {S : Sto} (rs : RepS G H (M.app N) S) (hc : (S.take M.c.length).all (cleanC M.c.length) = true) : RepS G H M (S.take M.c.length) where
  len := by
    have := rs.len
    rw [show (M.app N).c = M.c ++ N from rfl, List.length_append] at this
    rw [List.length_take]
    omega
  nd := (List.nodup_append.mp rs.nd).1
  hz := rs.hz
  dj := fun a ha h => rs.dj a ha (List.mem_append_left _ h)
  pz := rs.pz
  pj := fun q hq h => rs.pj q hq (List.mem_append_left _ h)
  at_ := fun n c e => by
    rw [List.getElem?_take] at e
    split at e
    · rename_i hn
      obtain ⟨a, o, h1, h2, h3⟩ := rs.at_ n c e
      rw [show (M.app N).c = M.c ++ N from rfl, List.getElem?_append_left hn] at h1
      refine ⟨a, o, h1, h2, cleanC_ok ok h3 (List.all_eq_true.mp hc c (List.mem_of_getElem? (i := n) ?_))⟩
      rw [List.getElem?_take, if_pos hn]
      exact e
    · cases e
/-- the result: clean, or a new list or object that is frozen -/
def frz (k : Nat) (S : Sto) (d : D) : Option D := match d with
  | .loc n => if n < k then some (.loc n) else match S[n]? with
    | some (.lst xs) => if cleans k xs = true then some (.lst xs) else none
    | some (.ins C ns vs) => if cleans k vs = true then some (.obj C ns vs) else none
    | some (.dct ks vs) => if cleans k vs = true then some (.dct ks vs) else none
    | some (.dcT ks vs) => if cleans k vs = true then some (.dcT ks vs) else none
    | none => none
  | d => if clean k d = true then some d else none
theorem frz_ok {G : Gam} (ok : G.Ok) {H : Hp} {M : Mem} {N : List Addr} {S : Sto} (rs : RepS G H (M.app N) S) {d d' : D} {v : V} (h : Rep G H (M.app N) d v) (hf : frz M.c.length S d = some d') : Rep G H M d' v := by
  cases d with
  | loc n =>
    obtain ⟨a, e, hm⟩ := h.loc_inv ok
    have hf : (if n < M.c.length then some (.loc n) else match S[n]? with
      | some (.lst xs) => if cleans M.c.length xs = true then some (D.lst xs) else none
      | some (.ins C ns vs) => if cleans M.c.length vs = true then some (.obj C ns vs) else none
      | some (.dct ks vs) => if cleans M.c.length vs = true then some (.dct ks vs) else none
      | some (.dcT ks vs) => if cleans M.c.length vs = true then some (.dcT ks vs) else none
      | none => none) = some d' := hf
    by_cases hn : n < M.c.length
    · rw [if_pos hn] at hf
      cases hf
      exact clean_ok ok _ _ h (decide_eq_true hn)
    · rw [if_neg hn] at hf
      have na : ¬ M.has a := fun z => by
        have z : a ∈ M.c := z.elim id fun z => (rs.dj a z (List.mem_of_getElem? hm)).elim
        obtain ⟨j, hj, ej⟩ := List.mem_iff_getElem.mp z
        have h1 : (M.app N).c[j]? = some a := by rw [show (M.app N).c = M.c ++ N from rfl, List.getElem?_append_left hj, List.getElem?_eq_getElem hj, ej]
        have := nd_ix rs.nd h1 hm
        omega
      cases q : S[n]? with
      | none => rw [q] at hf; cases hf
      | some c =>
        rw [q] at hf
        obtain ⟨o, h1, h2⟩ := rs.get hm q
        subst e
        cases h2 with
        | @lst xs _ h3 =>
          simp only at hf
          by_cases hc : cleans M.c.length xs = true
          · rw [if_pos hc] at hf
            cases hf
            exact .lst na h1 (cleans_ok ok _ _ h3 hc)
          · rw [if_neg hc] at hf; cases hf
        | @dctK _ ks vs h3 h4 =>
          simp only at hf
          by_cases hc : cleans M.c.length vs = true
          · rw [if_pos hc] at hf
            cases hf
            exact .dctK na (.inl h1) h3 (cleans_ok ok _ _ h4 hc)
          · rw [if_neg hc] at hf; cases hf
        | @dctT _ ks vs h3 h4 =>
          simp only at hf
          by_cases hc : cleans M.c.length vs = true
          · rw [if_pos hc] at hf
            cases hf
            exact .dctT na (.inl h1) h3 (cleans_ok ok _ _ h4 hc)
          · rw [if_neg hc] at hf; cases hf
        | @ins C c dx fs ns vs h3 h4 h5 =>
          simp only at hf
          by_cases hc : cleans M.c.length vs = true
          · rw [if_pos hc] at hf
            cases hf
            exact .obj na h3 h1 h4 (cleans_ok ok _ _ h5 hc)
          · rw [if_neg hc] at hf; cases hf
  | _ =>
    simp only [frz] at hf
    split at hf
    · rename_i hc
      cases hf
      exact clean_ok ok _ _ h hc
    · cases hf
def gc (k : Nat) (d : D) (S : Sto) : Out D := match frz k S d with
  | some d' => if (S.take k).all (cleanC k) = true then .ok d' (S.take k) else .stuck
  | none => .stuck
/-- behind a def that makes cells: they are forgotten -/
def mkFnG (N : Nat) (b : MB) : FnM := fun ds S => (mkFn N b ds S).bind (gc S.length)
theorem gc_fin {α : Prop} {G : Gam} (ok : G.Ok) {H H1 : Hp} {M M1 : Mem} {S S1 : Sto} {d : D} {v : V} {Q : VK} (len : M.c.length = S.length) (st : Step H M H1 M1) (rs : RepS G H1 M1 S1) (rp : Rep G H1 M1 d v)
    (h : Fin (gc S.length d S1) (PostV G H M Q) (fun _ _ => False)) : Q v H1 := by
  obtain ⟨N, e, _⟩ := id st.pre
  subst e
  unfold gc at h
  rw [← len] at h
  cases q : frz M.c.length S1 d with
  | none => rw [q] at h; exact h.elim
  | some d' =>
    rw [q] at h
    simp only at h
    by_cases hc : (S1.take M.c.length).all (cleanC M.c.length) = true
    · rw [if_pos hc] at h
      exact h v H1 M st.cut (cut_store ok rs hc) (frz_ok ok rs rp q)
    · rw [if_neg hc] at h; exact h.elim
theorem gc_noX (k : Nat) (d : D) (S : Sto) (e : EV) (S' : Sto) : gc k d S ≠ .exc e S' := by
  unfold gc
  cases frz k S d with
  | none => exact fun z => nomatch z
  | some d' =>
    simp only
    split <;> exact fun z => nomatch z
/-- a promise with the cells forgotten; what it raises keeps them -/
theorem spM_gc {G : Gam} (ok : G.Ok) {n : Nat} {fn : FnM} {vs : List V} {H : Hp} {Q : VK} {E : XK} (h : spM G n (fun ds S => (fn ds S).bind (gc S.length)) vs H Q E) : spM G n fn vs H Q E := by
  obtain ⟨ds, S, M, h1, h2, h3, h4⟩ := h
  refine ⟨ds, S, M, h1, h2, h3, ?_⟩
  have h4 : Fin ((fn ds S).bind (gc S.length)) (PostV G H M Q) (PostX G H M E) := h4
  cases q : fn ds S with
  | stuck => rw [q] at h4; exact h4
  | exc e S1 => rw [q] at h4; exact h4
  | ok d S1 =>
    rw [q] at h4
    exact fun v H1 M1 st rs rp => gc_fin (α := True) ok h2.len st rs rp (fin_noX (gc_noX _ _ _) h4)
theorem fn_gc {G : Gam} (ok : G.Ok) {P : Program} {w : World} {K : PySem.W.Frag} {mg : Str → Option Value} {base : Heap} {CX : CXT} {k : Nat} {f : Addr} {fd : FuncData} {ps : List Str} {n : Nat} {fn : FnM} (F : FnOk P w K mg base CX k f fd ps (spM G n fn)) :
    FnOk P w K mg base CX k f fd ps (spM G n fun ds S => (fn ds S).bind (gc S.length)) := F.imp fun vs H Q E h => spM_gc ok h
/-! ## a class is called -/
def mMake (C : Str) (n : Nat) (fn : FnM) (a : MA) : ME := fun L S => (a L S).bind fun ds S1 => if ds.length = n then (fn (.loc S1.length :: ds) (S1 ++ [.ins C [] []])).bind fun v S2 => match v with
  | .non => .ok (.loc S1.length) S2
  | _ => .stuck
  else .stuck
/-- .. whose objects do not change any more -/
def mMakeF (C : Str) (n : Nat) (fn : FnM) (a : MA) : ME := fun L S => (a L S).bind fun ds S1 => (mMake C n fn (fun _ S => .ok ds S) L S1).bind (gc S1.length)
section
variable {X : Cx} {G : Gam} {W : WX} {e o : Expr} {es : List Expr} {pos p apos : Pos} {ma : MA} {mo : ME} {k n : Nat} {x m C : Str} {fn : FnM}
theorem make_core (ok : G.Ok) {c : Addr} (hC : G.cls C = some c) {H H1 : Hp} {M M1 : Mem} {S1 : Sto} {ds : List D} {vs : List V} {Q : VK} {E : XK} (st : Step H M H1 M1) (rs1 : RepS G H1 M1 S1) (rps : Reps G H1 M1 ds vs) (hl : ds.length = n)
    (h : Fin ((fn (.loc S1.length :: ds) (S1 ++ [.ins C [] []])).bind fun v S2 => match v with
      | .non => .ok (.loc S1.length) S2
      | _ => .stuck) (PostV G H M Q) (PostX G H M E)) :
    ∀ x dx, H1 x = none → H1 dx = none → dx ≠ x → spM G (n + 1) fn (.ref x :: vs) (upd (upd H1 dx (.own x)) x (.ins c dx [])) (fun v H2 => v = .non ∧ Q (.ref x) H2) E := by
  intro x dx nx nd ne
  have sd := Step.new (M := M1) (o := HO.own x) nd
  have rd := rs1.new (o := HO.own x) nd
  have nx' : upd H1 dx (.own x) x = none := by rw [upd_ne (Ne.symm ne)]; exact nx
  have sc := Step.newC (M := M1) (o := HO.ins c dx []) nx'
  have rc := rd.newC (o := HO.ins c dx []) (c := .ins C [] []) nx' (.ins hC rfl .nil)
  have hloc : (M1.app [x]).c[S1.length]? = some x := rd.last
  have s1 := sd.trans sc
  refine ⟨.loc S1.length :: ds, S1 ++ [.ins C [] []], M1.app [x], .cons (.loc hloc) (Reps.mono s1 _ _ rps), rc, by simp [hl], ?_⟩
  cases q : fn (.loc S1.length :: ds) (S1 ++ [.ins C [] []]) with
  | stuck => rw [q] at h; exact h
  | exc e S2 => rw [q] at h; exact PostX.step (st.trans s1) _ _ h
  | ok d S2 =>
    rw [q] at h
    intro v H2 M2 st2 rs2 rp2
    cases d with
    | non => exact ⟨rp2.non_inv ok, h (.ref x) H2 M2 ((st.trans s1).trans st2) rs2 (.loc (st2.sub hloc))⟩
    | _ => exact (show False from h).elim
theorem make_imp (ok : G.Ok) {c : Addr} (hC : G.cls C = some c) {σ : Stt} {H : Hp} {Q : VK} (h : tE G W (mMake C n fn ma) σ H Q) :
    tA G W ma σ H fun vs H1 => ∀ x dx, H1 x = none → H1 dx = none → dx ≠ x → spM G (n + 1) fn (.ref x :: vs) (upd (upd H1 dx (.own x)) x (.ins c dx [])) (fun v H2 => v = .non ∧ Q (.ref x) H2) (WE W σ) := by
  obtain ⟨L, S, M, rl, rs, h⟩ := h
  refine then_a rl rs h (fun _ _ z => z) fun vs H1 M1 ds S1 st rs1 rps rl1 h1 => ?_
  by_cases hl : ds.length = n
  · rw [if_pos hl] at h1
    exact make_core ok hC st rs1 rps hl h1
  · rw [if_neg hl] at h1; exact h1.elim
theorem makeF_imp (ok : G.Ok) {c : Addr} (hC : G.cls C = some c) {σ : Stt} {H : Hp} {Q : VK} (h : tE G W (mMakeF C n fn ma) σ H Q) :
    tA G W ma σ H fun vs H1 => ∀ x dx, H1 x = none → H1 dx = none → dx ≠ x → spM G (n + 1) fn (.ref x :: vs) (upd (upd H1 dx (.own x)) x (.ins c dx [])) (fun v H2 => v = .non ∧ Q (.ref x) H2) (WE W σ) := by
  obtain ⟨L, S, M, rl, rs, h⟩ := h
  refine then_a rl rs h (fun _ _ z => z) fun vs H1 M1 ds S1 st rs1 rps rl1 h1 => ?_
  unfold mMake at h1
  simp only [bind_ok] at h1
  by_cases hl : ds.length = n
  · rw [if_pos hl] at h1
    refine make_core (Q := Q) (E := WE W σ) ok hC (Step.refl H1 M1) rs1 rps hl ?_
    cases q : ((fn (.loc S1.length :: ds) (S1 ++ [.ins C [] []])).bind fun v S2 => match v with
      | .non => Out.ok (D.loc S1.length) S2
      | _ => .stuck) with
    | stuck => rw [q] at h1; exact h1
    | exc e S2 => rw [q] at h1; exact PostX.step st _ _ h1
    | ok d S2 =>
      rw [q] at h1
      exact fun v H2 M2 st2 rs2 rp2 => gc_fin (α := True) ok rs1.len st2 rs2 rp2 (fin_noX (gc_noX _ _ _) (Fin.mono h1 (fun d S z => PostV.step st d S z) (fun e S z => z)))
  · rw [if_neg hl] at h1; exact h1.elim
theorem run_makeS {CX : CXT} {f c : Addr} {fd : FuncData} {ps : List Str} {sp : Sp} {E : XK} {pins : List (Addr × Obj)} {σ : Stt} {H : Hp} {s : Shared} {Q : VK} {us : List Value} {vs : List V} (M : Mk X.K c f) (F : FnOk X.prog X.w X.K X.mg X.base CX k f fd ps sp) (hr : Room (k + 1) X.A) (hb : Binds X.K fd ps [])
    (hx : PassesAt CX X σ E) (I : Inv X pins σ H s) (r : Vals vs us)
    (h : ∀ x dx, H x = none → H dx = none → dx ≠ x → sp (.ref x :: vs) (upd (upd H dx (.own x)) x (.ins c dx [])) (fun v H2 => v = .non ∧ Q (.ref x) H2) E) :
    wpAny (model X.prog X.w) X.A (call (.ref c) us) (EP X pins σ Q) X.xe s := by
  have hq := h (s.heap.objs.size + 1) s.heap.objs.size (I.hok.fresh (Nat.le_succ _)) (I.hok.fresh (Nat.le_refl _)) (Nat.ne_of_lt (Nat.lt_succ_self _))
  have I2 := Inv.made (C := c) I
  have r2 : Vals (V.ref (s.heap.objs.size + 1) :: vs) (Value.ref (s.heap.objs.size + 1) :: us) := .cons rfl r
  have hl : (Value.ref (s.heap.objs.size + 1) :: us).length = ps.length := by
    have e := r2.length
    rw [F.len _ _ _ _ hq] at e
    exact e.symm
  have b := hb _ (Value.ref (s.heap.objs.size + 1) :: us) I2.kIn (by rw [List.append_nil]; exact hl)
  rw [List.append_nil] at b
  refine wpAny_call (make_map (f := f) I.kIn M.makes M.init (beq_iff_eq.mp M.fn) (codeAny_mono (F.run _ X.stack _ _ ⟨Value.ref (s.heap.objs.size + 1) :: us, []⟩ (Value.ref (s.heap.objs.size + 1) :: us) _ _ E (hr.make c us [])
    (I2.env0.make c us []) b r2 hq) fun r s' hq' => ?_))
  cases r with
  | error e => exact hx pins _ _ e s' I2 hq'
  | ok fl =>
    cases fl with
    | ret u =>
      obtain ⟨v, H', I3, rv, ev, q3⟩ := I2.after hq'
      subst ev
      exact ⟨rv, ⟨V.ref (s.heap.objs.size + 1), H', I3, rfl, q3⟩⟩
    | next => exact False.elim hq'
    | brk => exact False.elim hq'
    | cont => exact False.elim hq'
theorem pe_makeS {CX : CXT} {f c : Addr} {fd : FuncData} {ps : List Str} {sp : Sp} {E : L2.St → XK} {t : TA} (M : Mk X.K c f) (F : FnOk X.prog X.w X.K X.mg X.base CX k f fd ps sp) (hr : Room (k + 1) X.A) (hg : Gl X x) (hm : X.mg x = some (.ref c)) (hb : Binds X.K fd ps []) (hx : ∀ σ, PassesAt CX X σ (E σ))
    (ha : PA X (e :: es) t) (hdb : (x == ("__debug__" : Str)) = false := by decide) (he : starEach (e :: es) X.env = (false, eval e X.env) :: starEach es X.env := by rfl) (hpl : (backTo pos (starEach es X.env)).any (·.1) = false := by rfl) :
    PE X (.Call (.Name x p) (e :: es) [] pos) (fun σ H Q => t σ H fun vs H1 => ∀ x dx, H1 x = none → H1 dx = none → dx ≠ x → sp (.ref x :: vs) (upd (upd H1 dx (.own x)) x (.ins c dx [])) (fun v H2 => v = .non ∧ Q (.ref x) H2) (E σ)) := by
  refine ⟨fun pins s σ H Q I h => ?_⟩
  refine wpAny_Call_Name_kw (ld_glob I hg hm ?_ hdb)
  refine PySem.W.callWith_K (h₀ := X.base) I.ok.mod.kin M.kp (thn (ha.run pos pins s σ H _ I h) fun us s1 ⟨vs, H1, I1, r, q⟩ => ⟨I1.kIn, ?_⟩) he hpl
  exact run_makeS M F hr hb (hx σ) I1 r q
theorem e_make (ok : G.Ok) (F : MakX X G k C n fn) (hr : Room (k + 1) X.A) (tk : Takes X W) (hg : Gl X C) (ha : PA X (e :: es) (tA G W ma)) (hdb : (C == ("__debug__" : Str)) = false := by decide)
    (he : starEach (e :: es) X.env = (false, eval e X.env) :: starEach es X.env := by rfl) (hpl : (backTo pos (starEach es X.env)).any (·.1) = false := by rfl) : PE X (.Call (.Name C p) (e :: es) [] pos) (tE G W (mMake C n fn ma)) := by
  obtain ⟨c, f, fd, ps, hC, hm, M, hb, hn, F⟩ := F.ex
  exact pe_imp (pe_makeS M F hr hg hm hb (fun σ => passAt tk σ) ha hdb he hpl) fun _ _ _ h => make_imp ok hC h
theorem e_makeF (ok : G.Ok) (F : MakX X G k C n fn) (hr : Room (k + 1) X.A) (tk : Takes X W) (hg : Gl X C) (ha : PA X (e :: es) (tA G W ma)) (hdb : (C == ("__debug__" : Str)) = false := by decide)
    (he : starEach (e :: es) X.env = (false, eval e X.env) :: starEach es X.env := by rfl) (hpl : (backTo pos (starEach es X.env)).any (·.1) = false := by rfl) : PE X (.Call (.Name C p) (e :: es) [] pos) (tE G W (mMakeF C n fn ma)) := by
  obtain ⟨c, f, fd, ps, hC, hm, M, hb, hn, F⟩ := F.ex
  exact pe_imp (pe_makeS M F hr hg hm hb (fun σ => passAt tk σ) ha hdb he hpl) fun _ _ _ h => makeF_imp ok hC h
end
end MM
set_option linter.all false
set_option maxRecDepth 100000
set_option maxHeartbeats 2000000
namespace MM
open PySem PySem.Spec PyProof.Rows L2
/-! ## while -/
/-- so many turns at most -/
def whileN (c : MT) (b : MB) : Nat → MB
  | 0 => bStuck
  | n + 1 => fun L S => (c L S).bind fun x S1 => if x = true then (b L S1).bind fun f S2 => match f with
      | .nx L2 => whileN c b n L2 S2
      | .ct L2 => whileN c b n L2 S2
      | .bk L2 => .ok (.nx L2) S2
      | .rt d => .ok (.rt d) S2
    else .ok (.nx L) S1
/-- enough turns for this state, if there are -/
noncomputable def bWhile (c : MT) (b : MB) : MB := fun L S => open Classical in if h : ∃ n, whileN c b n L S ≠ .stuck then whileN c b (Classical.choose h) L S else .stuck
theorem whileN_more {c : MT} {b : MB} : ∀ {n m : Nat} {L : Loc} {S : Sto} {r : Out Fl}, whileN c b n L S = r → r ≠ .stuck → n ≤ m → whileN c b m L S = r
  | 0, _, _, _, _, e, h, _ => (h e.symm).elim
  | n + 1, 0, _, _, _, _, _, l => absurd l (by omega)
  | n + 1, m + 1, L, S, r, e, h, l => by
    show (c L S).bind _ = r
    have e : (c L S).bind _ = r := e
    cases q : c L S with
    | stuck => rw [q] at e; exact (h e.symm).elim
    | exc x S1 => rw [q] at e; exact e
    | ok x S1 =>
      rw [q] at e
      simp only [bind_ok] at e ⊢
      cases x with
      | false => exact e
      | true =>
        simp only [if_true] at e ⊢
        cases q2 : b L S1 with
        | stuck => rw [q2] at e; exact (h e.symm).elim
        | exc x S2 => rw [q2] at e; exact e
        | ok f S2 =>
          rw [q2] at e
          cases f with
          | nx L2 => exact whileN_more (n := n) (m := m) e h (by omega)
          | ct L2 => exact whileN_more (n := n) (m := m) e h (by omega)
          | bk L2 => exact e
          | rt d => exact e
theorem bWhile_eq {c : MT} {b : MB} {n : Nat} {L : Loc} {S : Sto} {r : Out Fl} (e : whileN c b n L S = r) (h : r ≠ .stuck) : bWhile c b L S = r := by
  unfold bWhile
  have hx : ∃ n, whileN c b n L S ≠ .stuck := ⟨n, by rw [e]; exact h⟩
  rw [dif_pos hx]
  have h2 := Classical.choose_spec hx
  rcases Nat.le_total n (Classical.choose hx) with l | l
  · exact whileN_more e h l
  · have := whileN_more (m := n) (rfl : whileN c b (Classical.choose hx) L S = _) h2 l
    rw [← this, e]
section
variable {X : Cx} {G : Gam} {W : WX} {e a b c : Expr} {body : List Stmt} {pos p : Pos} {tc : MT} {bb : MB}
theorem b_while (hp : PassesOwn (model X.prog X.w) X.A X.env X.xe) (hc : PT X c (tT G W tc)) (hb : PSs X body (tB G W bb)) : PS X (.While c body [] pos) (tB G W (bWhile tc bb)) := ps_imp (ps_while hp hc hb) fun D' σ H ⟨L, S, M, rl, rs, h⟩ => by
  have hw : ∃ n, Fin (whileN tc bb n L S) (PostF G H M D') (PostX G H M fun c d H' => ∀ σ', W c d σ' H') := by
    unfold bWhile at h
    split at h
    · exact ⟨_, h⟩
    · exact h.elim
  obtain ⟨n, h⟩ := hw
  refine ⟨fun m σ1 H1 => ∃ L1 S1 M1, RepL G H1 M1 L1 σ1 ∧ RepS G H1 M1 S1 ∧ Fin (whileN tc bb m L1 S1) (PostF G H1 M1 D') (PostX G H1 M1 fun c d H' => ∀ σ', W c d σ' H'), ⟨n, L, S, M, rl, rs, h⟩, ?_⟩
  rintro m σ1 H1 ⟨L1, S1, M1, rl1, rs1, h1⟩
  cases m with
  | zero => exact h1.elim
  | succ m =>
    have h1 : Fin ((tc L1 S1).bind _) _ _ := h1
    refine then_t rl1 rs1 h1 (fun e S z => wE_of e S z) fun H2 M2 x S2 st rs2 rl2 h2 => ?_
    cases x with
    | false => exact h2 H2 M2 st rs2 σ1 rl2
    | true =>
      rw [if_pos rfl]
      refine ⟨fun σ3 H3 => ∃ L1 S1 M1, RepL G H3 M1 L1 σ3 ∧ RepS G H3 M1 S1 ∧ Fin (whileN tc bb m L1 S1) (PostF G H3 M1 D') (PostX G H3 M1 fun c d H' => ∀ σ', W c d σ' H'), fun σ' H' z => ⟨m, Nat.lt_succ_self _, z⟩, ?_⟩
      have h2 : Fin ((bb L1 S2).bind fun f S2 => match f with
        | .nx L2 => whileN tc bb m L2 S2
        | .ct L2 => whileN tc bb m L2 S2
        | .bk L2 => .ok (.nx L2) S2
        | .rt d => .ok (.rt d) S2) (PostF G H1 M1 D') (PostX G H1 M1 fun c d H' => ∀ σ', W c d σ' H') := h2
      refine ⟨L1, S2, M2, rl2, rs2, ?_⟩
      cases q : bb L1 S2 with
      | stuck => rw [q] at h2; exact h2
      | exc x S3 => rw [q] at h2; exact PostX.step st _ _ h2
      | ok f S3 =>
        rw [q] at h2
        cases f with
        | nx L3 => exact fun H3 M3 st3 rs3 σ3 rl3 => ⟨L3, S3, M3, rl3, rs3, Fin.mono h2 (fun d S z => PostF.step (st.trans st3) d S z) (fun e S z => PostX.step (st.trans st3) e S z)⟩
        | ct L3 => exact fun H3 M3 st3 rs3 σ3 rl3 => ⟨L3, S3, M3, rl3, rs3, Fin.mono h2 (fun d S z => PostF.step (st.trans st3) d S z) (fun e S z => PostX.step (st.trans st3) e S z)⟩
        | bk L3 => exact fun H3 M3 st3 rs3 σ3 rl3 => h2 H3 M3 (st.trans st3) rs3 σ3 rl3
        | rt d => exact fun H3 M3 st3 rs3 v rp => h2 H3 M3 (st.trans st3) rs3 v rp
/-! ## what is walked: its items; the list, if it is a cell, that may not change meanwhile -/
abbrev Grd := Option (Nat × List D)
def grdOk : Grd → Sto → Prop
  | none, _ => True
  | some (n, xs), S => S[n]? = some (.lst xs)
structure Items where
  xs : List D
  gd : Grd
abbrev MI := Loc → Sto → Out Items
structure JOk (G : Gam) (J : It) (H : Hp) (M : Mem) (x : Items) : Prop where
  stop : ∀ H' M' S', Tr H M H' M' → (∀ q ∈ M.p, ¬ q.1 ∈ M.z → q ∈ M'.p) → RepS G H' M' S' → grdOk x.gd S' → J.stop x.xs.length H'
  go : ∀ H' M' S' i d, Tr H M H' M' → (∀ q ∈ M.p, ¬ q.1 ∈ M.z → q ∈ M'.p) → RepS G H' M' S' → grdOk x.gd S' → x.xs[i]? = some d → J.go i H' ∧ ∀ y H'', J.yld i H' y H'' → Step H' M' H'' M' ∧ (∀ a u, H' a = some u → H'' a = some u) ∧ Rep G H'' M' d y
def IterOk (G : Gam) (W : WX) (mi : MI) (wi : TI) : Prop := ∀ σ H R L S M, RepL G H M L σ → RepS G H M S →
  Fin (mi L S) (fun x S' => ∀ J H' M', Step H M H' M' → RepS G H' M' S' → JOk G J H' M' x → R J H') (PostX G H M fun c d H' => W c d σ H') → wi σ H R
noncomputable def loopF (g : MG) (b : MB) (gd : Grd) : List D → MB
  | [] => fun L S => open Classical in if grdOk gd S then .ok (.nx L) S else .stuck
  | x :: xs => fun L S => open Classical in if grdOk gd S then (g x L S).bind fun L1 S1 => (b L1 S1).bind fun f S2 => match f with
      | .nx L2 => loopF g b gd xs L2 S2
      | .ct L2 => loopF g b gd xs L2 S2
      | .bk L2 => .ok (.nx L2) S2
      | .rt d => .ok (.rt d) S2
    else .stuck
noncomputable def bFor (mi : MI) (g : MG) (b : MB) : MB := fun L S => (mi L S).bind fun x S1 => loopF g b x.gd x.xs L S1
theorem b_for {tg iter : Expr} {mi : MI} {wi : TI} {g : MG} (hp : PassesOwn (model X.prog X.w) X.A X.env X.xe) (hc : X.calm = true) (hi : PI X tg iter wi) (hk : IterOk G W mi wi) (hn : noXG g) (hg : PG X tg (tG G none g)) (hb : PSs X body (tB G W bb)) (hs : ∀ x, foldedSetIterable iter X.env x = pure x := by intro _; rfl) :
    PS X (.For tg iter body [] pos) (tB G W (bFor mi g bb)) := ps_imp (ps_for hp hc hi hg hb hs) fun D' σ H ⟨L, S, M, rl, rs, h⟩ => by
  refine hk σ H _ L S M rl rs ?_
  unfold bFor at h
  cases q : mi L S with
  | stuck => rw [q] at h; exact h
  | exc e S1 => rw [q] at h; exact wE_of _ _ h
  | ok x S1 =>
    rw [q] at h
    intro J H1 M1 st rs1 jo
    refine ⟨fun i m σ2 H2 => ∃ L2 S2 M2, m = x.xs.length - i ∧ i ≤ x.xs.length ∧ Step H1 M1 H2 M2 ∧ RepL G H2 M2 L2 σ2 ∧ RepS G H2 M2 S2 ∧ Fin (loopF g bb x.gd (x.xs.drop i) L2 S2) (PostF G H2 M2 D') (PostX G H2 M2 fun c d H' => ∀ σ', W c d σ' H'),
      ⟨_, L, S1, M1, rfl, Nat.zero_le _, Step.refl _ _, rl.mono st, rs1, Fin.mono h (fun d S z => PostF.step st d S z) (fun e S z => PostX.step st e S z)⟩, ?_⟩
    rintro i m σ2 H2 ⟨L2, S2, M2, em, hi, st2, rl2, rs2, h2⟩
    cases hx : x.xs[i]? with
    | none =>
      have ei : i = x.xs.length := by
        have := List.getElem?_eq_none_iff.mp hx
        omega
      rw [ei, List.drop_length] at h2
      simp only [loopF] at h2
      split at h2
      · rename_i hgd
        exact .inl ⟨by rw [ei]; exact jo.stop H2 M2 S2 st2.tr (fun q hq _ => by rw [st2.pin]; exact hq) rs2 hgd, h2 H2 M2 (Step.refl _ _) rs2 σ2 rl2⟩
      · exact h2.elim
    | some d =>
      have hlt := (List.getElem?_eq_some_iff.mp hx).1
      have ed : x.xs.drop i = d :: x.xs.drop (i + 1) := by
        rw [List.drop_eq_getElem_cons hlt]
        rw [List.getElem?_eq_getElem hlt] at hx
        rw [Option.some.inj hx]
      rw [ed] at h2
      simp only [loopF] at h2
      split at h2
      · rename_i hgd
        obtain ⟨hgo, hy⟩ := jo.go H2 M2 S2 i d st2.tr (fun q hq _ => by rw [st2.pin]; exact hq) rs2 hgd hx
        refine .inr ⟨hgo, fun σ3 H3 => ∃ L3 S3 M3, Step H1 M1 H3 M3 ∧ RepL G H3 M3 L3 σ3 ∧ RepS G H3 M3 S3 ∧ Fin (loopF g bb x.gd (x.xs.drop (i + 1)) L3 S3) (PostF G H3 M3 D') (PostX G H3 M3 fun c d H' => ∀ σ', W c d σ' H'), ?_, ?_⟩
        · rintro σ3 H3 ⟨L3, S3, M3, z1, z2, z3, z4⟩
          exact ⟨x.xs.length - (i + 1), by omega, L3, S3, M3, rfl, hlt, z1, z2, z3, z4⟩
        · intro y Hy hyld
          obtain ⟨sy, ky, ry⟩ := hy y Hy hyld
          refine ⟨d, L2, S2, M2, ry, rl2.mono sy, rs2.keep sy (fun a o _ e => ky a o e) (fun q hq => ky _ _ (rs2.pz q hq)), ?_⟩
          cases q2 : g d L2 S2 with
          | stuck => rw [q2] at h2; exact h2
          | exc e S3 => exact (hn _ _ _ _ _ q2).elim
          | ok L3 S3 =>
            rw [q2] at h2
            intro H3 M3 σ3 st3 rs3 rl3 _
            have sy3 := sy.trans st3
            refine ⟨L3, S3, M3, rl3, rs3, ?_⟩
            simp only [bind_ok] at h2
            cases q3 : bb L3 S3 with
            | stuck => rw [q3] at h2; exact h2
            | exc e S4 => rw [q3] at h2; exact PostX.step sy3 _ _ h2
            | ok f S4 =>
              rw [q3] at h2
              cases f with
              | nx L4 => exact fun H4 M4 st4 rs4 σ4 rl4 => ⟨L4, S4, M4, (st2.trans sy3).trans st4, rl4, rs4, Fin.mono h2 (fun d S z => PostF.step (sy3.trans st4) d S z) (fun e S z => PostX.step (sy3.trans st4) e S z)⟩
              | ct L4 => exact fun H4 M4 st4 rs4 σ4 rl4 => ⟨L4, S4, M4, (st2.trans sy3).trans st4, rl4, rs4, Fin.mono h2 (fun d S z => PostF.step (sy3.trans st4) d S z) (fun e S z => PostX.step (sy3.trans st4) e S z)⟩
              | bk L4 => exact fun H4 M4 st4 rs4 σ4 rl4 => h2 H4 M4 (sy3.trans st4) rs4 σ4 rl4
              | rt d => exact fun H4 M4 st4 rs4 v rp => h2 H4 M4 (sy3.trans st4) rs4 v rp
      · exact h2.elim
end
end MM
set_option linter.all false
set_option maxRecDepth 100000
set_option maxHeartbeats 2000000
namespace MM
open PySem PySem.Spec PyProof.Rows L2
/-! ## list comprehensions -/
def wipeL (L : Loc) : List Nat → Loc
  | [] => L
  | v :: vs => (wipeL L vs).set v none
theorem RepL.wipe {G : Gam} {H : Hp} {M : Mem} {L : Loc} {σ : Stt} (h : RepL G H M L σ) : ∀ vs : List Nat, RepL G H M (wipeL L vs) (L2.wipe σ vs)
  | [] => h
  | v :: vs => by
    have ih := h.wipe vs
    refine ⟨?_, fun j d e => ?_⟩
    · show ((wipeL L vs).set v none).length = ((L2.wipe σ vs).set v none).length
      rw [List.length_set, List.length_set, ih.len]
    · have e : ((wipeL L vs).set v none)[j]? = some (some d) := e
      show ∃ u, ((L2.wipe σ vs).set v none)[j]? = some (some u) ∧ _
      by_cases q : v = j
      · subst q
        rw [List.getElem?_set] at e
        simp only [if_true] at e
        split at e <;> cases e
      · rw [List.getElem?_set_ne q] at e ⊢
        exact ih.at_ j d e
theorem wipe_wipe (σ : Stt) (vs : List Nat) : L2.wipe (L2.wipe σ vs) vs = L2.wipe σ vs := by
  apply List.ext_getElem?
  intro j
  rw [wipe_get, wipe_get]
  by_cases h : j ∈ vs
  · rw [if_pos h, if_pos h]
    cases σ[j]? <;> rfl
  · rw [if_neg h, if_neg h]
def mYes : MT := fun _ S => .ok true S
noncomputable def lcF (g : MG) (c : MT) (e : ME) (L : Loc) (gd : Grd) : List D → List D → Sto → Out (List D)
  | [], acc, S => open Classical in if grdOk gd S then .ok acc S else .stuck
  | x :: xs, acc, S => open Classical in if grdOk gd S then (g x L S).bind fun L1 S1 => (c L1 S1).bind fun b S2 => if b = true then (e L1 S2).bind fun y S3 => if acc.length < lim then lcF g c e L gd xs (acc ++ [y]) S3 else .stuck else lcF g c e L gd xs acc S2 else .stuck
noncomputable def lcM (mi : MI) (vs : List Nat) (g : MG) (c : MT) (e : ME) : MA := fun L S => (mi L S).bind fun x S1 => dry (lcF g c e (wipeL L vs) x.gd x.xs [] S1)
noncomputable def mLc (mi : MI) (vs : List Nat) (g : MG) (c : MT) (e : ME) : ME := fun L S => (lcM mi vs g c e L S).bind fun xs S1 => .ok (.lst xs) S1
noncomputable def mLcC (mi : MI) (vs : List Nat) (g : MG) (c : MT) (e : ME) : ME := fun L S => (lcM mi vs g c e L S).bind fun xs S1 => .ok (.loc S1.length) (S1 ++ [.lst xs])
abbrev WF : WX := fun _ _ _ _ => False
section
variable {X : Cx} {G : Gam} {W : WX} {H1 H4 Hc : Hp} {M1 M4 : Mem} {N : List Addr} {D0 : Addr} {u u' : HO} {S : Sto}
theorem hot_has {M : Mem} {a : Addr} (h : ¬ M.has a) (ne : a ≠ D0) : ¬ (M.hot D0 u).has a := by
  rintro (z | z)
  · exact h (.inl z)
  · rcases List.mem_cons.mp z with z | z
    · exact ne z
    · exact h (.inr z)
theorem has_hot {M : Mem} {a : Addr} (h : ¬ (M.hot D0 u).has a) : ¬ M.has a ∧ a ≠ D0 := by
  refine ⟨fun z => h ?_, fun z => h (.inr ?_)⟩
  · rcases z with z | z
    · exact .inl z
    · exact .inr (List.mem_cons_of_mem _ z)
  · rw [z]
    exact List.mem_cons_self
theorem hot_tr (st : Step H1 M1 Hc (M1.app N)) (hD : H1 D0 = none) : Tr H1 M1 Hc ((M1.app N).hot D0 u) where
  ext := st.ext
  raw := st.raw
  dom := st.dom
  nin := fun a h k => hot_has (st.nin h k) (fun e => k (by rw [e]; exact hD))
  sub := fun n a h => st.sub h
theorem step_hot (st : Step H1 M1 Hc (M1.app N)) (hD : H1 D0 = none) (s : Step Hc ((M1.app N).hot D0 u) H4 M4) : ∃ N', M4 = (M1.app N').hot D0 u ∧ Step H1 M1 H4 (M1.app N') := by
  have t := (hot_tr (u := u) st hD).trans s.tr
  obtain ⟨N2, e2, h2⟩ := s.pre
  obtain ⟨N1, e1, h1⟩ := st.pre
  have e1 : N = N1 := List.append_cancel_left (congrArg Mem.c e1)
  refine ⟨N ++ N2, by rw [e2, ← Mem.app_app]; rfl, t.ext, t.raw, t.dom, N ++ N2, rfl, fun b hb => ?_⟩
  rcases List.mem_append.mp hb with z | z
  · exact h1 b (by rw [← e1]; exact z)
  · exact st.dom b (h2 b z)
theorem hot_write {acc' : List V} (st : Step H1 M1 H4 (M1.app N)) (hD : H1 D0 = none) : Step H1 M1 (upd H4 D0 u) (M1.app N) where
  ext := fun a w ha hw h => rd_up (fun e => rd_ne h (by rw [e]; exact hD)) (st.ext a w ha hw h)
  raw := fun a w ha hw h => by rw [upd_ne (ne_of_none h hD)]; exact st.raw a w ha hw h
  dom := fun a h => st.dom a (dom_up h)
  pre := st.pre
theorem rehot_tr {M : Mem} : Tr H4 (M.hot D0 u) (upd H4 D0 u') (M.hot D0 u') where
  ext := fun a w ha _ h => rd_up (has_hot ha).2 h
  raw := fun a w ha _ h => by rw [upd_ne (has_hot ha).2]; exact h
  dom := fun a h => dom_up h
  nin := fun a h _ => hot_has (has_hot h).1 (has_hot h).2
  sub := fun _ _ h => h
theorem rehot_S {G : Gam} {M : Mem} (r : RepS G H4 (M.hot D0 u) S) (hp : ∀ q ∈ M.p, q.1 ≠ D0) : RepS G (upd H4 D0 u') (M.hot D0 u') S :=
  r.to rehot_tr rfl (fun a o ha h => by rw [upd_ne (fun e => r.dj D0 List.mem_cons_self (by rw [← e]; exact ha))]; exact h) (fun a ha e => r.hz a ha (dom_up e)) r.dj (fun q hq => by
    rcases List.mem_cons.mp hq with z | z
    · rw [z]
      exact upd_same
    · rw [upd_ne (hp q z)]
      exact r.pz q (List.mem_cons_of_mem _ z)) (fun q hq h => by
    rcases List.mem_cons.mp hq with z | z
    · rw [z] at h
      exact r.dj D0 List.mem_cons_self h
    · exact r.pj q (List.mem_cons_of_mem _ z) h)
theorem cool_tr {M : Mem} : Tr Hc (M.hot D0 u) Hc M where
  ext := fun a w ha _ h => h
  raw := fun a w ha _ h => h
  dom := fun a h => h
  nin := fun a h _ => (has_hot h).1
  sub := fun _ _ h => h
theorem cool_S {G : Gam} {M : Mem} (r : RepS G Hc (M.hot D0 u) S) : RepS G Hc M S :=
  r.to cool_tr rfl (fun _ _ _ h => h) (fun a ha => r.hz a (List.mem_cons_of_mem _ ha)) (fun a ha => r.dj a (List.mem_cons_of_mem _ ha)) (fun q hq => r.pz q (List.mem_cons_of_mem _ hq)) (fun q hq => r.pj q (List.mem_cons_of_mem _ hq))
/-- the new list, in place of what was hot, as a cell -/
theorem cell_tr {M : Mem} : Tr Hc (M.hot D0 u) Hc (M.app [D0]) where
  ext := fun a w ha _ h => h
  raw := fun a w ha _ h => h
  dom := fun a h => h
  nin := fun a h _ z => by
    rcases Mem.has_app.mp z with z | z
    · exact (has_hot h).1 z
    · exact (has_hot h).2 (List.mem_singleton.mp z)
  sub := fun n a h => by
    show (M.c ++ [D0])[n]? = some a
    have h : M.c[n]? = some a := h
    rw [List.getElem?_append_left (List.getElem?_eq_some_iff.mp h).1]
    exact h
theorem cell_S {G : Gam} {M : Mem} {c : Cell} (r : RepS G Hc (M.hot D0 u) S) (hz : ¬ D0 ∈ M.z) (hp : ∀ q ∈ M.p, q.1 ≠ D0) (hc : RepC G Hc (M.app [D0]) c u) : RepS G Hc (M.app [D0]) (S ++ [c]) where
  len := by
    show (M.c ++ [D0]).length = _
    have : M.c.length = S.length := r.len
    simp [this]
  nd := by
    show (M.c ++ [D0]).Nodup
    rw [List.nodup_append]
    refine ⟨r.nd, by simp, fun a ha b hb e => ?_⟩
    have e2 : b = D0 := by simpa using hb
    rw [e, e2] at ha
    exact r.dj D0 List.mem_cons_self ha
  hz := fun a ha => r.hz a (List.mem_cons_of_mem _ ha)
  dj := fun a ha h => by
    rcases List.mem_append.mp h with h | h
    · exact r.dj a (List.mem_cons_of_mem _ ha) h
    · rw [List.mem_singleton.mp h] at ha
      exact hz ha
  pz := fun q hq => r.pz q (List.mem_cons_of_mem _ hq)
  pj := fun q hq h => by
    rcases List.mem_append.mp h with h | h
    · exact r.pj q (List.mem_cons_of_mem _ hq) h
    · exact hp q hq (List.mem_singleton.mp h)
  at_ := fun n d e => by
    show ∃ a u, (M.c ++ [D0])[n]? = some a ∧ _ ∧ _
    have hl : M.c.length = S.length := r.len
    by_cases h : n < S.length
    · rw [List.getElem?_append_left h] at e
      obtain ⟨a, o, h1, h2, h3⟩ := r.at_ n d e
      exact ⟨a, o, (cell_tr (Hc := Hc) (u := u)).sub _ _ h1, h2, h3.tr cell_tr⟩
    · rw [List.getElem?_append_right (Nat.le_of_not_lt h)] at e
      have e0 : n - S.length = 0 := by
        have := (List.getElem?_eq_some_iff.mp e).1
        simp at this
        omega
      rw [e0] at e
      cases (show c = d by simpa using e)
      refine ⟨D0, u, ?_, r.pz (D0, u) List.mem_cons_self, hc⟩
      rw [List.getElem?_append_right (by rw [hl]; exact Nat.le_of_not_lt h), hl, e0]
      rfl
theorem lc_imp {mi : MI} {wi : TI} {vs : List Nat} {g : MG} {c : MT} {e : ME} (hk : IterOk G W mi wi) (hn : noXG g) {σ : Stt} {H : Hp} {Q : VK} {L : Loc} {S : Sto} {M : Mem} (rl : RepL G H M L σ) (rs : RepS G H M S) {P : List D → Sto → Prop}
    (hf : ∀ H1 M1 Hc N D0 acc ds S', Step H M H1 M1 → RepS G H1 M1 S' ∨ True → H1 D0 = none → (¬ M1.has D0) → (∀ q ∈ M1.p, q.1 ≠ D0) → Step H1 M1 Hc (M1.app N) → RepS G Hc ((M1.app N).hot D0 (.lst acc)) S' → Reps G Hc ((M1.app N).hot D0 (.lst acc)) ds acc → P ds S' → Q (.ref D0) Hc)
    (h : Fin (lcM mi vs g c e L S) P (PostX G H M fun c d H' => W c d σ H')) : tLc wi (tG G (some vs) g) (tT G WF c) (tE G WF e) vs σ H Q := by
  refine hk σ H _ L S M rl rs ?_
  unfold lcM at h
  cases q : mi L S with
  | stuck => rw [q] at h; exact h
  | exc e S1 => rw [q] at h; exact h
  | ok x S1 =>
    rw [q] at h
    intro J H1 M1 st rs1 jo D0 hD
    have h : Fin (lcF g c e (wipeL L vs) x.gd x.xs [] S1) P (fun _ _ => False) := fin_dry h
    have hD1 : ¬ M1.has D0 := rs1.fresh hD
    have hDp : ∀ q ∈ M1.p, q.1 ≠ D0 := fun q hq e => by
      have := rs1.pz q hq
      rw [e, hD] at this
      cases this
    have start0 : Step H1 M1 (upd H1 D0 (.lst [])) (M1.app []) := by
      rw [Mem.app_nil]
      exact Step.new hD
    have startT := hot_tr (u := .lst []) start0 hD
    have startS : RepS G (upd H1 D0 (.lst [])) ((M1.app []).hot D0 (.lst [])) S1 := by
      rw [Mem.app_nil] at startT ⊢
      refine rs1.to startT rfl (fun a o _ h => by rw [upd_ne (ne_of_none h hD)]; exact h) (fun a ha e => ?_) (fun a ha => ?_) (fun q hq => ?_) (fun q hq => ?_)
      · rcases List.mem_cons.mp ha with z | z
        · rw [z, upd_same] at e
          cases e
        · exact rs1.hz a z (dom_up e)
      · rcases List.mem_cons.mp ha with z | z
        · rw [z]
          exact fun y => hD1 (.inl y)
        · exact rs1.dj a z
      · rcases List.mem_cons.mp hq with z | z
        · rw [z]
          exact upd_same
        · rw [upd_ne (hDp q z)]
          exact rs1.pz q z
      · rcases List.mem_cons.mp hq with z | z
        · rw [z]
          exact fun y => hD1 (.inl y)
        · exact rs1.pj q z
    refine ⟨fun i m Hc => ∃ N Sc acc ds, m = x.xs.length - i ∧ i ≤ x.xs.length ∧ Step H1 M1 Hc (M1.app N) ∧ RepS G Hc ((M1.app N).hot D0 (.lst acc)) Sc ∧ Reps G Hc ((M1.app N).hot D0 (.lst acc)) ds acc ∧ Fin (lcF g c e (wipeL L vs) x.gd (x.xs.drop i) ds Sc) P (fun _ _ => False),
      ⟨_, [], S1, [], [], rfl, Nat.zero_le _, start0, startS, .nil, h⟩, ?_⟩
    rintro i m Hc ⟨N, Sc, acc, ds, em, hi, st2, rs2, rps, h2⟩
    have t2 := hot_tr (u := .lst acc) st2 hD
    have tp : ∀ q ∈ M1.p, ¬ q.1 ∈ M1.z → q ∈ ((M1.app N).hot D0 (.lst acc)).p := fun q hq _ => List.mem_cons_of_mem _ hq
    cases hx : x.xs[i]? with
    | none =>
      have ei : i = x.xs.length := by
        have := List.getElem?_eq_none_iff.mp hx
        omega
      rw [ei, List.drop_length] at h2
      simp only [lcF] at h2
      split at h2
      · rename_i hgd
        exact .inl ⟨by rw [ei]; exact jo.stop Hc _ Sc t2 tp rs2 hgd, hf H1 M1 Hc N D0 acc ds Sc st (.inr trivial) hD hD1 hDp st2 rs2 rps h2⟩
      · exact h2.elim
    | some d =>
      have hlt := (List.getElem?_eq_some_iff.mp hx).1
      have ed : x.xs.drop i = d :: x.xs.drop (i + 1) := by
        rw [List.drop_eq_getElem_cons hlt]
        rw [List.getElem?_eq_getElem hlt] at hx
        rw [Option.some.inj hx]
      rw [ed] at h2
      simp only [lcF] at h2
      split at h2
      · rename_i hgd
        obtain ⟨hgo, hy⟩ := jo.go Hc _ Sc i d t2 tp rs2 hgd hx
        refine .inr ⟨hgo, fun H3 => ∃ N3 S3 acc3 ds3, Step H1 M1 H3 (M1.app N3) ∧ RepS G H3 ((M1.app N3).hot D0 (.lst acc3)) S3 ∧ Reps G H3 ((M1.app N3).hot D0 (.lst acc3)) ds3 acc3 ∧ Fin (lcF g c e (wipeL L vs) x.gd (x.xs.drop (i + 1)) ds3 S3) P (fun _ _ => False), ?_, ?_⟩
        · rintro H3 ⟨N3, S3, acc3, ds3, z1, z2, z3, z4⟩
          exact ⟨x.xs.length - (i + 1), by omega, N3, S3, acc3, ds3, rfl, hlt, z1, z2, z3, z4⟩
        · intro y Hy hyld
          obtain ⟨sy, ky, ry⟩ := hy y Hy hyld
          have rlh := ((rl.mono st).tr t2).mono sy
          have rsy := rs2.keep sy (fun a o _ e => ky a o e) (fun q hq => ky _ _ (rs2.pz q hq))
          refine ⟨d, wipeL L vs, Sc, _, ry, rlh.wipe vs, rsy, ?_⟩
          cases q2 : g d (wipeL L vs) Sc with
          | stuck => rw [q2] at h2; exact h2
          | exc e S3 => exact (hn _ _ _ _ _ q2).elim
          | ok L3 S3 =>
            rw [q2] at h2
            intro H3 M3 σ3 st3 rs3 rl3 w3
            refine ⟨Eq.trans w3 (wipe_wipe σ vs), L3, S3, M3, rl3, rs3, ?_⟩
            simp only [bind_ok] at h2
            cases q3 : c L3 S3 with
            | stuck => rw [q3] at h2; exact h2
            | exc e S4 => rw [q3] at h2; exact h2.elim
            | ok b S4 =>
              rw [q3] at h2
              simp only [bind_ok] at h2
              intro H4 M4 st4 rs4
              cases b with
              | false =>
                have s5 := (sy.trans st3).trans st4
                obtain ⟨N5, e5, st5⟩ := step_hot st2 hD s5
                refine ⟨N5, S4, acc, ds, st5, by rw [← e5]; exact rs4, by rw [← e5]; exact Reps.mono s5 _ _ rps, h2⟩
              | true =>
                simp only [if_true] at h2 ⊢
                refine ⟨L3, S4, M4, rl3.mono st4, rs4, ?_⟩
                cases q4 : e L3 S4 with
                | stuck => rw [q4] at h2; exact h2
                | exc e S5 => rw [q4] at h2; exact h2.elim
                | ok yd S5 =>
                  rw [q4] at h2
                  simp only [bind_ok] at h2
                  intro yv H5 M5 st5 rs5 ry5
                  have s6 := ((sy.trans st3).trans st4).trans st5
                  obtain ⟨N6, e6, st6⟩ := step_hot st2 hD s6
                  subst e6
                  have rps6 := Reps.mono s6 _ _ rps
                  split at h2
                  · rename_i hlim
                    refine ⟨acc, rs5.pz (D0, .lst acc) List.mem_cons_self, by rw [← rps.length]; exact Nat.lt_of_lt_of_le hlim (lim_ok (Nat.le_refl _)), N6, S5, acc ++ [yv], ds ++ [yd], hot_write (acc' := acc) st6 hD, rehot_S rs5 hDp, ?_, h2⟩
                    exact Reps.tr rehot_tr _ _ (rps6.app (.cons ry5 .nil))
                  · exact h2.elim
      · exact h2.elim
variable {elt tg iter : Expr} {ifs : List Expr} {scope : Scope} {own : List (Str × Nat)} {pos : Pos} {mi : MI} {wi : TI} {g : MG} {c : MT} {e : ME}
theorem lc_pure {vs : List Nat} (hk : IterOk G W mi wi) (hn : noXG g) {σ : Stt} {H : Hp} {Q : VK} (h : tE G W (mLc mi vs g c e) σ H Q) : tLc wi (tG G (some vs) g) (tT G WF c) (tE G WF e) vs σ H Q := by
  obtain ⟨L, S, M, rl, rs, h⟩ := h
  refine lc_imp hk hn rl rs (P := fun ds S' => PostV G H M Q (.lst ds) S') (fun H1 M1 Hc N D0 acc ds S' st _ hD hD1 hDp st2 rs2 rps hP => ?_) ?_
  · refine hP _ _ (M1.app N) (st.trans st2) (cool_S rs2) (.lst ?_ (rs2.pz (D0, .lst acc) List.mem_cons_self) (Reps.tr cool_tr _ _ rps))
    rintro (z | z)
    · exact rs2.dj D0 List.mem_cons_self z
    · exact hD1 (.inr z)
  · unfold mLc at h
    cases q : lcM mi vs g c e L S with
    | stuck => rw [q] at h; exact h
    | exc e S1 => rw [q] at h; exact h
    | ok a S1 => rw [q] at h; exact h
theorem lc_cell {vs : List Nat} (hk : IterOk G W mi wi) (hn : noXG g) {σ : Stt} {H : Hp} {Q : VK} (h : tE G W (mLcC mi vs g c e) σ H Q) : tLc wi (tG G (some vs) g) (tT G WF c) (tE G WF e) vs σ H Q := by
  obtain ⟨L, S, M, rl, rs, h⟩ := h
  refine lc_imp hk hn rl rs (P := fun ds S' => PostV G H M Q (.loc S'.length) (S' ++ [.lst ds])) (fun H1 M1 Hc N D0 acc ds S' st _ hD hD1 hDp st2 rs2 rps hP => ?_) ?_
  · obtain ⟨N1, e1, h1⟩ := id st2.pre
    have e1 : N = N1 := List.append_cancel_left (congrArg Mem.c e1)
    have st3 : Step H1 M1 Hc ((M1.app N).app [D0]) := ⟨st2.ext, st2.raw, st2.dom, N ++ [D0], by rw [Mem.app_app], fun b hb => by
      rcases List.mem_append.mp hb with z | z
      · exact h1 b (by rw [← e1]; exact z)
      · rw [List.mem_singleton.mp z]; exact hD⟩
    refine hP _ _ ((M1.app N).app [D0]) (st.trans st3) (cell_S rs2 (fun z => hD1 (.inr z)) hDp (.lst (Reps.tr cell_tr _ _ rps))) (.loc ?_)
    show ((M1.app N).c ++ [D0])[S'.length]? = some D0
    have hl : (M1.app N).c.length = S'.length := rs2.len
    rw [List.getElem?_append_right (by rw [hl]; exact Nat.le_refl _), hl, Nat.sub_self]
    rfl
  · unfold mLcC at h
    cases q : lcM mi vs g c e L S with
    | stuck => rw [q] at h; exact h
    | exc e S1 => rw [q] at h; exact h
    | ok a S1 => rw [q] at h; exact h
abbrev blkX (X : Cx) (scope : Scope) (s : Shared) (H : Hp) (C : Addr) (cl : List (Str × Addr)) (fp : List Addr) : Cx := X.blk s H scope (compEnvC scope cl C X.env) fp
theorem ts_nil : PTs X [] (tT G W mYes) := ⟨fun pins s σ H Q I ⟨L, S, M, rl, rs, h⟩ => pts_nil.run pins s σ H Q I (h H M (Step.refl H M) rs)⟩
theorem ts_one {e : Expr} (h : PT X e (tT G W c)) : PTs X [e] (tT G W c) := pts_one h
theorem e_lc (hc : X.calm = true) (hN : X.N.Nodup) (hi : PI X tg iter wi) (hk : IterOk G W mi wi) (ok : BlkOk X.N X.env.scope scope own) (hn : noXG g)
    (hg : ∀ s H C cl fp, PG (blkX X scope s H C cl fp) tg (tG G (some (own.map (·.2))) g)) (ht : ∀ s H C cl fp, PTs (blkX X scope s H C cl fp) ifs (tT G WF c)) (he : ∀ s H C cl fp, PE (blkX X scope s H C cl fp) elt (tE G WF e))
    (hs : ∀ x, foldedSetIterable iter X.env x = pure x := by intro _; rfl) : PE X (.ListComp elt [⟨tg, iter, ifs, 0⟩] scope pos) (tE G W (mLc mi (own.map (·.2)) g c e)) :=
  pe_imp (pe_lc hc hN hi ok hg ht he hs) fun _ _ _ h => lc_pure hk hn h
theorem e_lcC (hc : X.calm = true) (hN : X.N.Nodup) (hi : PI X tg iter wi) (hk : IterOk G W mi wi) (ok : BlkOk X.N X.env.scope scope own) (hn : noXG g)
    (hg : ∀ s H C cl fp, PG (blkX X scope s H C cl fp) tg (tG G (some (own.map (·.2))) g)) (ht : ∀ s H C cl fp, PTs (blkX X scope s H C cl fp) ifs (tT G WF c)) (he : ∀ s H C cl fp, PE (blkX X scope s H C cl fp) elt (tE G WF e))
    (hs : ∀ x, foldedSetIterable iter X.env x = pure x := by intro _; rfl) : PE X (.ListComp elt [⟨tg, iter, ifs, 0⟩] scope pos) (tE G W (mLcC mi (own.map (·.2)) g c e)) :=
  pe_imp (pe_lc hc hN hi ok hg ht he hs) fun _ _ _ h => lc_cell hk hn h
end
end MM
set_option linter.all false
set_option maxRecDepth 100000
set_option maxHeartbeats 2000000
namespace MM
open PySem PySem.Spec PyProof.Rows L2
/-! ## what a value is -/
def asInt : D → Option Int
  | .int i => some i
  | _ => none
def asStr : D → Option Str
  | .str x => some x
  | _ => none
def asBl : D → Option Bool
  | .bl b => some b
  | _ => none
def asTup : D → Option (List D)
  | .tup xs => some xs
  | _ => none
/-- a list that is no written one, by its items -/
def asLst (S : Sto) : D → Option (List D)
  | .lst xs => some xs
  | .loc n => match S[n]? with
    | some (.lst xs) => some xs
    | _ => none
  | _ => none
def isNon : D → Bool
  | .non => true
  | _ => false
section
variable {G : Gam} {H : Hp} {M : Mem} {S : Sto} {d : D} {v : V}
theorem asInt_rep (ok : G.Ok) {i : Int} (r : Rep G H M d v) (h : asInt d = some i) : v = .int i := by
  cases d <;> first | cases h | skip
  exact r.int_inv ok
theorem asStr_rep (ok : G.Ok) {i : Str} (r : Rep G H M d v) (h : asStr d = some i) : v = .str i := by
  cases d <;> first | cases h | skip
  exact r.str_inv ok
theorem asBl_rep (ok : G.Ok) {i : Bool} (r : Rep G H M d v) (h : asBl d = some i) : v = .bl i := by
  cases d <;> first | cases h | skip
  exact r.bl_inv ok
theorem asTup_rep (ok : G.Ok) {xs : List D} (r : Rep G H M d v) (h : asTup d = some xs) : ∃ a vs, v = .ref a ∧ SqT G.K H a vs ∧ Reps G H M xs vs := by
  cases d <;> first | cases h | skip
  exact r.tup_inv ok
theorem asLst_rep (ok : G.Ok) {xs : List D} (rs : RepS G H M S) (r : Rep G H M d v) (h : asLst S d = some xs) : ∃ a vs, v = .ref a ∧ H a = some (.lst vs) ∧ Reps G H M xs vs := by
  cases d <;> first | (cases h; done) | skip
  · cases h
    obtain ⟨a, vs, e, _, h1, h2⟩ := r.lst_inv ok
    exact ⟨a, vs, e, h1, h2⟩
  · rename_i n
    obtain ⟨a, e, hm⟩ := r.loc_inv ok
    have h : (match S[n]? with
      | some (Cell.lst xs) => some xs
      | _ => none) = some xs := h
    split at h
    · rename_i ys q
      cases h
      obtain ⟨o, h1, h2⟩ := rs.get hm q
      cases h2 with
      | lst h3 => exact ⟨a, _, e, h1, h3⟩
    · cases h
theorem isNon_rep (ok : G.Ok) (r : Rep G H M d v) : decide (v = V.non) = isNon d := by
  cases r <;> first | rfl | skip
  · rename_i h
    have := ok.ext _ _ _ _ h
    cases d <;> first | exact this.elim | skip
    · obtain ⟨a, e⟩ := this
      rw [e]
      rfl
    · obtain ⟨a, e⟩ := this
      rw [e]
      rfl
/-! ## ends -/
theorem end_v {Q : VK} (rs : RepS G H M S) (h : PostV G H M Q d S) (r : Rep G H M d v) : Q v H := h v H M (Step.refl H M) rs r
theorem end_lst {Q : VK} {ds : List D} {vs : List V} (rs : RepS G H M S) (h : PostV G H M Q (.lst ds) S) (r : Reps G H M ds vs) : ∀ p, H p = none → Q (.ref p) (upd H p (.lst vs)) := fun p hp =>
  have sn := Step.new (M := M) (o := .lst vs) hp
  h _ _ M sn (rs.new hp) (.lst (rs.fresh hp) upd_same (Reps.mono sn _ _ r))
theorem end_tup {Q : VK} {ds : List D} {vs : List V} (rs : RepS G H M S) (h : PostV G H M Q (.tup ds) S) (r : Reps G H M ds vs) : ∀ p, H p = none → Q (.ref p) (upd H p (.tup vs)) := fun p hp =>
  have sn := Step.new (M := M) (o := .tup vs) hp
  h _ _ M sn (rs.new hp) (.tup (rs.fresh hp) upd_same (Reps.mono sn _ _ r))
theorem end_cell {Q : VK} {ds : List D} {vs : List V} (rs : RepS G H M S) (h : PostV G H M Q (.loc S.length) (S ++ [.lst ds])) (r : Reps G H M ds vs) : ∀ p, H p = none → Q (.ref p) (upd H p (.lst vs)) := fun p hp =>
  have sn := Step.newC (M := M) (o := .lst vs) hp
  h _ _ _ sn (rs.newC hp (.lst (Reps.mono sn _ _ r))) (.loc rs.last)
/-! ## whole numbers -/
def iOp (c : Int → Int → Bool) (g : Int → Int → D) (x y : D) (S : Sto) : Out D := match asInt x, asInt y with
  | some i, some j => if c i j = true then .ok (g i j) S else .stuck
  | _, _ => .stuck
theorem iOp_ok (ok : G.Ok) {C : Int → Int → Prop} {gv : Int → Int → V} {c : Int → Int → Bool} {g : Int → Int → D} (hc : ∀ i j, c i j = true → C i j) (hg : ∀ i j H M, Rep G H M (g i j) (gv i j)) : OpM G (iOp c g) (rI C gv) := by
  intro x y xv yv H M S Q rx ry rs h
  unfold iOp at h
  split at h
  · rename_i i j hi hj
    split at h
    · rename_i hcc
      exact ⟨i, j, asInt_rep ok rx hi, asInt_rep ok ry hj, hc i j hcc, end_v rs h (hg i j H M)⟩
    · exact h.elim
  · exact h.elim
theorem iOp_ok0 (ok : G.Ok) {gv : Int → Int → V} {g : Int → Int → D} (hg : ∀ i j H M, Rep G H M (g i j) (gv i j)) : OpM G (iOp (fun _ _ => true) g) (rI0 gv) := by
  intro x y xv yv H M S Q rx ry rs h
  unfold iOp at h
  split at h
  · rename_i i j hi hj
    rw [if_pos rfl] at h
    exact ⟨i, j, asInt_rep ok rx hi, asInt_rep ok ry hj, end_v rs h (hg i j H M)⟩
  · exact h.elim
def sOp (c : Str → Str → Bool) (g : Str → Str → D) (x y : D) (S : Sto) : Out D := match asStr x, asStr y with
  | some i, some j => if c i j = true then .ok (g i j) S else .stuck
  | _, _ => .stuck
/-- one way, or else the other -/
def orOp (f g : D → D → Sto → Out D) (x y : D) (S : Sto) : Out D := match f x y S with
  | .stuck => g x y S
  | r => r
theorem orOp_ok {f g : D → D → Sto → Out D} {r r' : R2} (hf : OpM G f r) (hg : OpM G g r') : OpM G (orOp f g) (fun x y H Q => r x y H Q ∨ r' x y H Q) := by
  intro x y xv yv H M S Q rx ry rs h
  unfold orOp at h
  cases q : f x y S with
  | stuck => rw [q] at h; exact .inr (hg _ _ _ _ _ _ _ _ rx ry rs h)
  | ok d S' => rw [q] at h; exact .inl (hf _ _ _ _ _ _ _ _ rx ry rs (by rw [q]; exact h))
  | exc e S' => rw [q] at h; exact h.elim
def oSub := iOp (fun _ _ => true) fun i j => .int (i - j)
def wideB (i j : Int) : Bool := decide (i.natAbs.log2 + j.natAbs.log2 < 1000000)
def oMulI := iOp wideB fun i j => .int (i * j)
def fdivB (_ j : Int) : Bool := decide (0 < j ∧ j.natAbs.log2 < 9000)
def oDiv := iOp fdivB fun i j => .int (i / j)
def oMod := iOp (fun _ j => decide (0 < j)) fun i j => .int (i % j)
def powB (i j : Int) : Bool := decide (0 ≤ j ∧ j ≤ 1000000 ∧ i.natAbs < 2 ^ 64)
def oPow := iOp powB fun i j => .int (i ^ j.toNat)
theorem oSub_ok (ok : G.Ok) : OpM G oSub (rI0 fun i j => .int (i - j)) := iOp_ok0 ok fun i j _ _ => .int (i - j)
theorem oMulI_ok (ok : G.Ok) : OpM G oMulI (rI CMulW fun i j => .int (i * j)) := iOp_ok ok (fun i j h => (of_decide_eq_true h : i.natAbs.log2 + j.natAbs.log2 < 1000000)) fun i j _ _ => .int (i * j)
theorem oDiv_ok (ok : G.Ok) : OpM G oDiv (rI CDivW fun i j => .int (i / j)) := iOp_ok ok (fun i j h => (of_decide_eq_true h : 0 < j ∧ j.natAbs.log2 < 9000)) fun i j _ _ => .int (i / j)
theorem oMod_ok (ok : G.Ok) : OpM G oMod (rI (fun _ j => 0 < j) fun i j => .int (i % j)) := iOp_ok ok (fun i j h => (of_decide_eq_true h : 0 < j)) fun i j _ _ => .int (i % j)
theorem oPow_ok (ok : G.Ok) : OpM G oPow (rI CPow fun i j => .int (i ^ j.toNat)) := iOp_ok ok (fun i j h => (of_decide_eq_true h : 0 ≤ j ∧ j ≤ 1000000 ∧ i.natAbs < 2 ^ 64)) fun i j _ _ => .int (i ^ j.toNat)
/-! ## adding: numbers, texts, tuples, lists -/
def oAddI := iOp (fun _ _ => true) fun i j => .int (i + j)
def oAddS := sOp (fun i j => decide (i.length + j.length ≤ lim)) fun i j => .str (i ++ j)
def oAddT (x y : D) (S : Sto) : Out D := match asTup x, asTup y with
  | some xs, some ys => if xs.length + ys.length ≤ lim then .ok (.tup (xs ++ ys)) S else .stuck
  | _, _ => .stuck
def oAddL (x y : D) (S : Sto) : Out D := match asLst S x, asLst S y with
  | some xs, some ys => if xs.length + ys.length ≤ lim then .ok (.lst (xs ++ ys)) S else .stuck
  | _, _ => .stuck
def oAddLC (x y : D) (S : Sto) : Out D := match asLst S x, asLst S y with
  | some xs, some ys => if xs.length + ys.length ≤ lim then .ok (.loc S.length) (S ++ [.lst (xs ++ ys)]) else .stuck
  | _, _ => .stuck
def oAdd := orOp oAddI (orOp oAddS (orOp oAddT oAddL))
def oAddC := orOp oAddI (orOp oAddS (orOp oAddT oAddLC))
abbrev rAddS : R2 := fun x y H Q => ∃ i j, x = .str i ∧ y = .str j ∧ i.length + j.length ≤ sizeLine ∧ Q (.str (i ++ j)) H
theorem oAddS_ok (ok : G.Ok) : OpM G oAddS rAddS := by
  intro x y xv yv H M S Q rx ry rs h
  unfold oAddS sOp at h
  split at h
  · rename_i i j hi hj
    split at h
    · rename_i hcc
      exact ⟨i, j, asStr_rep ok rx hi, asStr_rep ok ry hj, lim_ok (of_decide_eq_true hcc), end_v rs h (.str _)⟩
    · exact h.elim
  · exact h.elim
theorem Rep.tup_inv2 (ok : G.Ok) {xs : List D} {v : V} (h : Rep G H M (.tup xs) v) : ∃ a vs, v = .ref a ∧ SqT G.K H a vs ∧ Reps G H M xs vs ∧ ((¬ M.has a ∧ H a = some (.tup vs)) ∨ KTup G.K a vs) := by
  cases h with
  | tup h1 h2 h3 => exact ⟨_, _, rfl, .inl (.inl h2), h3, .inl ⟨h1, h2⟩⟩
  | tupK h2 h3 => exact ⟨_, _, rfl, .inr h2, h3, .inr h2⟩
  | ext h => exact (ok.ext _ _ _ _ h).elim
theorem asTup_eq {xs : List D} (h : asTup d = some xs) : d = .tup xs := by
  cases d <;> first | cases h | skip
  rfl
theorem oAddT_ok (ok : G.Ok) : OpM G oAddT (rCatA G.K) := by
  intro x y xv yv H M S Q rx ry rs h
  unfold oAddT at h
  split at h
  · rename_i xs ys hx hy
    split at h
    · rename_i hl
      have ex := asTup_eq hx
      have ey := asTup_eq hy
      subst ex ey
      obtain ⟨a, vs, e, h1, h2⟩ := rx.tup_inv ok
      obtain ⟨b, ws, e', h1', h2'⟩ := ry.tup_inv ok
      subst e e'
      refine ⟨a, b, vs, ws, rfl, rfl, h1, h1', by rw [← h2.length, ← h2'.length]; exact lim_ok hl, fun z => ?_, fun z1 z2 => ?_, fun z1 z2 => end_tup rs h (h2.app h2')⟩
      · rw [z] at h2
        cases h2
        exact end_v rs h ry
      · rw [z2] at h2'
        cases h2'
        rw [List.append_nil] at h
        exact end_v rs h rx
    · exact h.elim
  · exact h.elim
theorem oAddL_ok (ok : G.Ok) : OpM G oAddL rCat := by
  intro x y xv yv H M S Q rx ry rs h
  unfold oAddL at h
  split at h
  · rename_i xs ys hx hy
    split at h
    · rename_i hl
      obtain ⟨a, vs, e, h1, h2⟩ := asLst_rep ok rs rx hx
      obtain ⟨b, ws, e', h1', h2'⟩ := asLst_rep ok rs ry hy
      exact ⟨a, b, vs, ws, e, e', h1, h1', by rw [← h2.length, ← h2'.length]; exact lim_ok hl, end_lst rs h (h2.app h2')⟩
    · exact h.elim
  · exact h.elim
theorem oAddLC_ok (ok : G.Ok) : OpM G oAddLC rCat := by
  intro x y xv yv H M S Q rx ry rs h
  unfold oAddLC at h
  split at h
  · rename_i xs ys hx hy
    split at h
    · rename_i hl
      obtain ⟨a, vs, e, h1, h2⟩ := asLst_rep ok rs rx hx
      obtain ⟨b, ws, e', h1', h2'⟩ := asLst_rep ok rs ry hy
      exact ⟨a, b, vs, ws, e, e', h1, h1', by rw [← h2.length, ← h2'.length]; exact lim_ok hl, end_cell rs h (h2.app h2')⟩
    · exact h.elim
  · exact h.elim
abbrev rAdd (K : PySem.W.Frag) : R2 := fun x y H Q => (rI0 fun i j => .int (i + j)) x y H Q ∨ (rAddS x y H Q ∨ (rCatA K x y H Q ∨ rCat x y H Q))
theorem oAdd_ok (ok : G.Ok) : OpM G oAdd (rAdd G.K) := orOp_ok (iOp_ok0 ok fun i j _ _ => .int (i + j)) (orOp_ok (oAddS_ok ok) (orOp_ok (oAddT_ok ok) (oAddL_ok ok)))
theorem oAddC_ok (ok : G.Ok) : OpM G oAddC (rAdd G.K) := orOp_ok (iOp_ok0 ok fun i j _ _ => .int (i + j)) (orOp_ok (oAddS_ok ok) (orOp_ok (oAddT_ok ok) (oAddLC_ok ok)))
theorem op_addA {X : Cx} : OpR X (binaryOp .Add) (rAdd X.K) := OpR.or op_add (OpR.or op_add_str (OpR.or op_catA op_cat))
/-! ## many times the same -/
def reps {α : Type} (n : Nat) (xs : List α) : List α := (List.replicate n xs).flatten
theorem Reps.reps {xs : List D} {vs : List V} (r : Reps G H M xs vs) : ∀ n, Reps G H M (MM.reps n xs) (List.replicate n vs).flatten
  | 0 => .nil
  | n + 1 => by
    unfold MM.reps
    rw [List.replicate_succ, List.replicate_succ, List.flatten_cons, List.flatten_cons]
    exact r.app (Reps.reps r n)
def oRep (x y : D) (S : Sto) : Out D := match asLst S x, asInt y with
  | some xs, some k => if (-(2 ^ 63) ≤ k ∧ k < 2 ^ 63 ∧ xs.length * k.toNat ≤ lim) then .ok (.lst (reps k.toNat xs)) S else .stuck
  | _, _ => .stuck
def oRepC (x y : D) (S : Sto) : Out D := match asLst S x, asInt y with
  | some xs, some k => if (-(2 ^ 63) ≤ k ∧ k < 2 ^ 63 ∧ xs.length * k.toNat ≤ lim) then .ok (.loc S.length) (S ++ [.lst (reps k.toNat xs)]) else .stuck
  | _, _ => .stuck
theorem oRep_ok (ok : G.Ok) : OpM G oRep rRep := by
  intro x y xv yv H M S Q rx ry rs h
  unfold oRep at h
  split at h
  · rename_i xs k hx hy
    split at h
    · rename_i hl
      obtain ⟨a, vs, e, h1, h2⟩ := asLst_rep ok rs rx hx
      exact ⟨a, k, vs, e, asInt_rep ok ry hy, h1, hl.1, hl.2.1, by rw [← h2.length]; exact lim_ok hl.2.2, end_lst rs h (h2.reps _)⟩
    · exact h.elim
  · exact h.elim
theorem oRepC_ok (ok : G.Ok) : OpM G oRepC rRep := by
  intro x y xv yv H M S Q rx ry rs h
  unfold oRepC at h
  split at h
  · rename_i xs k hx hy
    split at h
    · rename_i hl
      obtain ⟨a, vs, e, h1, h2⟩ := asLst_rep ok rs rx hx
      exact ⟨a, k, vs, e, asInt_rep ok ry hy, h1, hl.1, hl.2.1, by rw [← h2.length]; exact lim_ok hl.2.2, end_cell rs h (h2.reps _)⟩
    · exact h.elim
  · exact h.elim
abbrev rMul : R2 := fun x y H Q => (rI CMulW fun i j => .int (i * j)) x y H Q ∨ rRep x y H Q
def oMul := orOp oMulI oRep
def oMulC := orOp oMulI oRepC
theorem oMul_ok (ok : G.Ok) : OpM G oMul rMul := orOp_ok (oMulI_ok ok) (oRep_ok ok)
theorem oMulC_ok (ok : G.Ok) : OpM G oMulC rMul := orOp_ok (oMulI_ok ok) (oRepC_ok ok)
theorem op_mulA {X : Cx} : OpR X (binaryOp .Mult) rMul := OpR.or op_mulW op_rep
end
end MM
set_option linter.all false
set_option maxRecDepth 100000
set_option maxHeartbeats 2000000
namespace MM
open PySem PySem.Spec PyProof.Rows L2
/-! ## as plain data -/
mutual
def toP : D → Option PyData
  | .non => some .none
  | .bl b => some (.bool b)
  | .int i => some (.int i)
  | .str x => some (.str x)
  | .tup xs => (toPs xs).map .tuple
  | .lst xs => (toPs xs).map .list
  | _ => none
def toPs : List D → Option (List PyData)
  | [] => some []
  | x :: xs => match toP x, toPs xs with
    | some p, some ps => some (p :: ps)
    | _, _ => none
end
def toPS (S : Sto) (d : D) : Option PyData := match d with
  | .loc n => match S[n]? with
    | some (.lst xs) => (toPs xs).map .list
    | _ => none
  | d => toP d
section
variable {G : Gam} {H : Hp} {M : Mem} {S : Sto} {d : D} {v : V}
mutual
theorem toP_ok (ok : G.Ok) (d : D) (v : V) (p : PyData) (r : Rep G H M d v) (h : toP d = some p) : Dp G.K H v p := by
  cases r with
  | non => cases h; exact .non
  | bl b => cases h; exact .bl b
  | int i => cases h; exact .int i
  | str x => cases h; exact .str x
  | @tup a xs vs h1 h2 h3 =>
    simp only [toP, Option.map_eq_some_iff] at h
    obtain ⟨ps, e1, e2⟩ := h
    subst e2
    exact .tup (.inl (.inl h2)) (toPs_ok ok xs vs ps h3 e1)
  | @tupK a xs vs h2 h3 =>
    simp only [toP, Option.map_eq_some_iff] at h
    obtain ⟨ps, e1, e2⟩ := h
    subst e2
    exact .tup (.inr h2) (toPs_ok ok xs vs ps h3 e1)
  | @lst a xs vs h1 h2 h3 =>
    simp only [toP, Option.map_eq_some_iff] at h
    obtain ⟨ps, e1, e2⟩ := h
    subst e2
    exact .lst (.of h2) (toPs_ok ok xs vs ps h3 e1)
  | ext hx =>
    have := ok.ext _ _ _ _ hx
    cases d <;> first | exact this.elim | cases h
  | _ => cases h
termination_by sizeOf d
theorem toPs_ok (ok : G.Ok) (xs : List D) (vs : List V) (ps : List PyData) (r : Reps G H M xs vs) (h : toPs xs = some ps) : DpAll G.K H vs ps := by
  cases r with
  | nil => cases h; exact .nil
  | @cons d v ds vs r1 r2 =>
    simp only [toPs] at h
    split at h
    · rename_i p ps' e1 e2
      cases h
      exact .cons (toP_ok ok d v p r1 e1) (toPs_ok ok ds vs ps' r2 e2)
    · cases h
termination_by sizeOf xs
end
theorem toPS_ok (ok : G.Ok) (rs : RepS G H M S) {p : PyData} (r : Rep G H M d v) (h : toPS S d = some p) : Dp G.K H v p := by
  cases d with
  | loc n =>
    obtain ⟨a, e, hm⟩ := r.loc_inv ok
    simp only [toPS] at h
    split at h
    · rename_i xs q
      obtain ⟨o, h1, h2⟩ := rs.get hm q
      simp only [Option.map_eq_some_iff] at h
      obtain ⟨ps, e1, e2⟩ := h
      subst e2 e
      cases h2 with
      | lst h3 => exact .lst (.of h1) (toPs_ok ok _ _ _ h3 e1)
    · cases h
  | _ => exact toP_ok ok _ _ _ r h
/-! ## equal or not -/
def eqP (neg : Bool) (x y : D) (S : Sto) : Out D := match toPS S x, toPS S y with
  | some p, some q => if (SeqAt.shaped p && SeqAt.shaped q) = true then .ok (.bl (neg ^^ p.eqv q)) S else .stuck
  | _, _ => .stuck
def oEq := eqP false
def oNe := eqP true
theorem eqP_ok (ok : G.Ok) {neg : Bool} {x y : D} {xv yv : V} {Q : VK} (rx : Rep G H M x xv) (ry : Rep G H M y yv) (rs : RepS G H M S) (h : Fin (eqP neg x y S) (PostV G H M Q) (fun _ _ => False)) :
    ∃ d e, Dp G.K H xv d ∧ Dp G.K H yv e ∧ SeqAt.shaped d = true ∧ SeqAt.shaped e = true ∧ Q (.bl (neg ^^ PyData.eqv d e)) H := by
  unfold eqP at h
  split at h
  · rename_i p q e1 e2
    split at h
    · rename_i hs
      obtain ⟨h1, h2⟩ := Bool.and_eq_true_iff.mp hs
      exact ⟨p, q, toPS_ok ok rs rx e1, toPS_ok ok rs ry e2, h1, h2, end_v rs h (.bl _)⟩
    · exact h.elim
  · exact h.elim
theorem oEq_ok (ok : G.Ok) : OpM G oEq (rEqD G.K) := fun x y xv yv H M S Q rx ry rs h => by
  obtain ⟨d, e, h1, h2, h3, h4, h5⟩ := eqP_ok ok rx ry rs h
  rw [Bool.false_xor] at h5
  exact ⟨d, e, h1, h2, h3, h4, h5⟩
theorem oNe_ok (ok : G.Ok) : OpM G oNe (rNeD G.K) := fun x y xv yv H M S Q rx ry rs h => by
  obtain ⟨d, e, h1, h2, h3, h4, h5⟩ := eqP_ok ok rx ry rs h
  rw [Bool.true_xor] at h5
  exact ⟨d, e, h1, h2, h3, h4, h5⟩
/-! ## is None -/
def oIs (x y : D) (S : Sto) : Out D := match y with
  | .non => .ok (.bl (isNon x)) S
  | _ => .stuck
def oIsnt (x y : D) (S : Sto) : Out D := match y with
  | .non => .ok (.bl (!isNon x)) S
  | _ => .stuck
abbrev rIsN0 : R2 := fun x y H Q => y = .non ∧ Q (.bl (decide (x = .non))) H
abbrev rNotN0 : R2 := fun x y H Q => y = .non ∧ Q (.bl (!decide (x = .non))) H
theorem oIs_ok (ok : G.Ok) : OpM G oIs rIsN0 := fun x y xv yv H M S Q rx ry rs h => by
  cases y with
  | non => exact ⟨ry.non_inv ok, by rw [isNon_rep ok rx]; exact end_v rs h (.bl _)⟩
  | _ => exact h.elim
theorem oIsnt_ok (ok : G.Ok) : OpM G oIsnt rNotN0 := fun x y xv yv H M S Q rx ry rs h => by
  cases y with
  | non => exact ⟨ry.non_inv ok, by rw [isNon_rep ok rx]; exact end_v rs h (.bl _)⟩
  | _ => exact h.elim
/-! ## smaller, greater -/
abbrev sLt (i j : Str) : Bool := decide (i.cps.toList < j.cps.toList)
def oLt := orOp (iOp (fun _ _ => true) fun i j => .bl (decide (i < j))) (sOp (fun _ _ => true) fun i j => .bl (sLt i j))
def oLe := orOp (iOp (fun _ _ => true) fun i j => .bl (decide (i ≤ j))) (sOp (fun _ _ => true) fun i j => .bl (!sLt j i))
def oGt := orOp (iOp (fun _ _ => true) fun i j => .bl (decide (j < i))) (sOp (fun _ _ => true) fun i j => .bl (sLt j i))
def oGe := orOp (iOp (fun _ _ => true) fun i j => .bl (decide (j ≤ i))) (sOp (fun _ _ => true) fun i j => .bl (!sLt i j))
theorem sOp_ok (ok : G.Ok) {g : Str → Str → Bool} : OpM G (sOp (fun _ _ => true) fun i j => .bl (g i j)) (fun x y H Q => ∃ i j, x = .str i ∧ y = .str j ∧ Q (.bl (g i j)) H) := by
  intro x y xv yv H M S Q rx ry rs h
  unfold sOp at h
  split at h
  · rename_i i j hi hj
    rw [if_pos rfl] at h
    exact ⟨i, j, asStr_rep ok rx hi, asStr_rep ok ry hj, end_v rs h (.bl _)⟩
  · exact h.elim
theorem oLt_ok (ok : G.Ok) : OpM G oLt (fun x y H Q => (rI0 fun i j => .bl (decide (i < j))) x y H Q ∨ ∃ i j, x = .str i ∧ y = .str j ∧ Q (.bl (sLt i j)) H) := orOp_ok (iOp_ok0 ok fun _ _ _ _ => .bl _) (sOp_ok ok)
theorem oLe_ok (ok : G.Ok) : OpM G oLe (fun x y H Q => (rI0 fun i j => .bl (decide (i ≤ j))) x y H Q ∨ ∃ i j, x = .str i ∧ y = .str j ∧ Q (.bl (!sLt j i)) H) := orOp_ok (iOp_ok0 ok fun _ _ _ _ => .bl _) (sOp_ok ok)
theorem oGt_ok (ok : G.Ok) : OpM G oGt (fun x y H Q => (rI0 fun i j => .bl (decide (j < i))) x y H Q ∨ ∃ i j, x = .str i ∧ y = .str j ∧ Q (.bl (sLt j i)) H) := orOp_ok (iOp_ok0 ok fun _ _ _ _ => .bl _) (sOp_ok ok)
theorem oGe_ok (ok : G.Ok) : OpM G oGe (fun x y H Q => (rI0 fun i j => .bl (decide (j ≤ i))) x y H Q ∨ ∃ i j, x = .str i ∧ y = .str j ∧ Q (.bl (!sLt i j)) H) := orOp_ok (iOp_ok0 ok fun _ _ _ _ => .bl _) (sOp_ok ok)
theorem op_ltA {X : Cx} : OpR X (compareOp .Lt) (fun x y H Q => (rI0 fun i j => .bl (decide (i < j))) x y H Q ∨ ∃ i j, x = .str i ∧ y = .str j ∧ Q (.bl (sLt i j)) H) := OpR.or op_lt op_lt_str
theorem op_leA {X : Cx} : OpR X (compareOp .LtE) (fun x y H Q => (rI0 fun i j => .bl (decide (i ≤ j))) x y H Q ∨ ∃ i j, x = .str i ∧ y = .str j ∧ Q (.bl (!sLt j i)) H) := OpR.or op_le op_le_str
theorem op_gtA {X : Cx} : OpR X (compareOp .Gt) (fun x y H Q => (rI0 fun i j => .bl (decide (j < i))) x y H Q ∨ ∃ i j, x = .str i ∧ y = .str j ∧ Q (.bl (sLt j i)) H) := OpR.or op_gt op_gt_str
theorem op_geA {X : Cx} : OpR X (compareOp .GtE) (fun x y H Q => (rI0 fun i j => .bl (decide (j ≤ i))) x y H Q ∨ ∃ i j, x = .str i ∧ y = .str j ∧ Q (.bl (!sLt i j)) H) := OpR.or op_ge op_ge_str
/-! ## in -/
def flatP : PyData → Bool
  | .none => true
  | .bool _ => true
  | .int _ => true
  | .str _ => true
  | _ => false
def oneSign (x : Str) : Option Nat := match x.cps.toList with
  | [c] => some c
  | _ => none
/-- a sign in a text; a value in a list or tuple -/
def inSign (neg : Bool) (x y : D) (S : Sto) : Out D := match asStr x, asStr y with
  | some a, some z => match oneSign a with
    | some c => .ok (.bl (neg ^^ decide (c ∈ z.cps.toList))) S
    | none => .stuck
  | _, _ => .stuck
def inFlat (neg : Bool) (x y : D) (S : Sto) : Out D := match toPS S x, (seqD S y).bind toPs with
  | some p, some ps => if (flatP p && ps.all flatP) = true then .ok (.bl (neg ^^ ps.any fun z => z.eqv p)) S else .stuck
  | _, _ => .stuck
def inDeep (neg : Bool) (x y : D) (S : Sto) : Out D := match toPS S x, (asLst S y).bind toPs with
  | some p, some ps => if (SeqAt.shaped p && SeqAt.shaped (.list ps)) = true then .ok (.bl (neg ^^ ps.any fun z => z.eqv p)) S else .stuck
  | _, _ => .stuck
def asTupD (d : D) : Option (List D) := match d with
  | .tup xs => some xs
  | _ => none
def inDeepT (neg : Bool) (x y : D) (S : Sto) : Out D := match toPS S x, (asTupD y).bind toPs with
  | some p, some ps => if (SeqAt.shaped p && SeqAt.shaped (.tuple ps)) = true then .ok (.bl (neg ^^ ps.any fun z => PyData.eqv z p)) S else .stuck
  | _, _ => .stuck
def oIn := orOp (inSign false) (orOp (inFlat false) (orOp (inDeep false) (inDeepT false)))
def oNin := orOp (inSign true) (orOp (inFlat true) (orOp (inDeep true) (inDeepT true)))
theorem oneSign_eq {x : Str} {c : Nat} (h : oneSign x = some c) : x = ⟨#[c]⟩ := by
  unfold oneSign at h
  split at h
  · rename_i c' q
    have e := Option.some.inj h
    subst e
    cases x with
    | mk cps =>
      have q : cps.toList = [c'] := q
      congr 1
      exact Array.ext' q
  · cases h
theorem inSign_ok (ok : G.Ok) (neg : Bool) : OpM G (inSign neg) (fun x y H Q => ∃ (c : Nat) (z : Str), x = .str ⟨#[c]⟩ ∧ y = .str z ∧ Q (.bl (neg ^^ decide (c ∈ z.cps.toList))) H) := by
  intro x y xv yv H M S Q rx ry rs h
  unfold inSign at h
  split at h
  · rename_i a z ha hz
    split at h
    · rename_i c hc
      exact ⟨c, z, by rw [asStr_rep ok rx ha, oneSign_eq hc], asStr_rep ok ry hz, end_v rs h (.bl _)⟩
    · exact h.elim
  · exact h.elim
theorem dp_flat {K : PySem.W.Frag} {v : V} {p : PyData} (h : Dp K H v p) (hf : flatP p = true) : flatV v = true := by
  cases h <;> first | rfl | cases hf
theorem dp_eqV {K : PySem.W.Frag} {v w : V} {p q : PyData} (h : Dp K H v p) (k : Dp K H w q) (hf : flatP p = true) (hg : flatP q = true) : eqV v w = p.eqv q := by
  cases h <;> cases k <;> first
    | rfl
    | cases hf
    | cases hg
theorem dps_flat {K : PySem.W.Frag} : ∀ {vs : List V} {ps : List PyData}, DpAll K H vs ps → ps.all flatP = true → vs.all flatV = true
  | _, _, .nil, _ => rfl
  | _, _, .cons h t, hf => by
    rw [List.all_cons, Bool.and_eq_true_iff] at hf ⊢
    exact ⟨dp_flat h hf.1, dps_flat t hf.2⟩
theorem dps_any {K : PySem.W.Frag} {v : V} {p : PyData} (h : Dp K H v p) (hf : flatP p = true) : ∀ {vs : List V} {ps : List PyData}, DpAll K H vs ps → ps.all flatP = true → (vs.any fun y => eqV y v) = ps.any fun z => z.eqv p
  | _, _, .nil, _ => rfl
  | _, _, .cons k t, hg => by
    rw [List.all_cons, Bool.and_eq_true_iff] at hg
    rw [List.any_cons, List.any_cons, dps_any h hf t hg.2, dp_eqV k h hg.1 hf]
theorem inFlat_ok (ok : G.Ok) (neg : Bool) : OpM G (inFlat neg) (rIn G.K neg) := by
  intro x y xv yv H M S Q rx ry rs h
  unfold inFlat at h
  split at h
  · rename_i p ps hp hps
    split at h
    · rename_i hf
      obtain ⟨f1, f2⟩ := Bool.and_eq_true_iff.mp hf
      obtain ⟨xs, e1, e2⟩ := Option.bind_eq_some_iff.mp hps
      obtain ⟨a, vs, e, h1, h2⟩ := seqD_ok ok rs ry e1
      have dx := toPS_ok ok rs rx hp
      have ds := toPs_ok ok _ _ _ h2 e2
      refine ⟨a, vs, e, h1.symm, dp_flat dx f1, dps_flat ds f2, ?_⟩
      have := end_v rs h (.bl _)
      unfold inV
      rw [dps_any dx f1 ds f2]
      cases neg
      · rw [Bool.false_xor] at this
        exact this
      · rw [Bool.true_xor] at this
        exact this
    · exact h.elim
  · exact h.elim
theorem inDeep_ok (ok : G.Ok) (neg : Bool) : OpM G (inDeep neg) (fun x y H Q => ∃ d ds, Dp G.K H x d ∧ Dp G.K H y (.list ds) ∧ SeqAt.shaped d = true ∧ SeqAt.shaped (.list ds) = true ∧ Q (.bl (neg ^^ ds.any fun z => PyData.eqv z d)) H) := by
  intro x y xv yv H M S Q rx ry rs h
  unfold inDeep at h
  split at h
  · rename_i p ps hp hps
    split at h
    · rename_i hf
      obtain ⟨f1, f2⟩ := Bool.and_eq_true_iff.mp hf
      obtain ⟨xs, e1, e2⟩ := Option.bind_eq_some_iff.mp hps
      obtain ⟨a, vs, e, h1, h2⟩ := asLst_rep ok rs ry e1
      subst e
      exact ⟨p, ps, toPS_ok ok rs rx hp, .lst (.of h1) (toPs_ok ok _ _ _ h2 e2), f1, f2, end_v rs h (.bl _)⟩
    · exact h.elim
  · exact h.elim
def rInT (K : PySem.W.Frag) (neg : Bool) : R2 := fun x y H Q => ∃ d ds, Dp K H x d ∧ Dp K H y (.tuple ds) ∧ SeqAt.shaped d = true ∧ SeqAt.shaped (.tuple ds) = true ∧ Q (.bl (neg ^^ ds.any fun z => PyData.eqv z d)) H
theorem inDeepT_ok (ok : G.Ok) (neg : Bool) : OpM G (inDeepT neg) (rInT G.K neg) := by
  intro x y xv yv H M S Q rx ry rs h
  unfold inDeepT at h
  split at h
  · rename_i p ps hp hps
    split at h
    · rename_i hf
      obtain ⟨f1, f2⟩ := Bool.and_eq_true_iff.mp hf
      obtain ⟨xs, e1, e2⟩ := Option.bind_eq_some_iff.mp hps
      cases y <;> first | (cases e1; done) | skip
      cases e1
      obtain ⟨a, vs, e, h1, h2⟩ := ry.tup_inv ok
      subst e
      exact ⟨p, ps, toPS_ok ok rs rx hp, .tup h1 (toPs_ok ok _ _ _ h2 e2), f1, f2, end_v rs h (.bl _)⟩
    · exact h.elim
  · exact h.elim
abbrev rInA (K : PySem.W.Frag) (neg : Bool) : R2 := fun x y H Q => (∃ (c : Nat) (z : Str), x = .str ⟨#[c]⟩ ∧ y = .str z ∧ Q (.bl (neg ^^ decide (c ∈ z.cps.toList))) H) ∨ (rIn K neg x y H Q ∨ ((∃ d ds, Dp K H x d ∧ Dp K H y (.list ds) ∧ SeqAt.shaped d = true ∧ SeqAt.shaped (.list ds) = true ∧ Q (.bl (neg ^^ ds.any fun z => PyData.eqv z d)) H) ∨ rInT K neg x y H Q))
theorem oIn_ok (ok : G.Ok) : OpM G oIn (rInA G.K false) := orOp_ok (inSign_ok ok false) (orOp_ok (inFlat_ok ok false) (orOp_ok (inDeep_ok ok false) (inDeepT_ok ok false)))
theorem oNin_ok (ok : G.Ok) : OpM G oNin (rInA G.K true) := orOp_ok (inSign_ok ok true) (orOp_ok (inFlat_ok ok true) (orOp_ok (inDeep_ok ok true) (inDeepT_ok ok true)))
theorem op_inT {X : Cx} (hu : X.A.units + 65 < cLine) : OpR X (compareOp .In) (rInT X.K false) := by
  intro pins s σ H x y v u Q I rx ry h
  obtain ⟨d, ds, hd, he, sd, se, q⟩ := h
  obtain ⟨as, r1⟩ := Dp.reads I d x v hd rx
  obtain ⟨bs, r2⟩ := Dp.reads I (.tuple ds) y u he ry
  rw [Bool.false_xor] at q
  exact SeqAt.in_tuple_reads r2 r1 (SeqAt.canLay_of_shaped se) (SeqAt.canLay_of_shaped sd) (room_in_shaped sd hu) ⟨.bl _, H, I, rfl, q⟩
theorem op_notInT {X : Cx} (hu : X.A.units + 65 < cLine) : OpR X (compareOp .NotIn) (rInT X.K true) := by
  intro pins s σ H x y v u Q I rx ry h
  obtain ⟨d, ds, hd, he, sd, se, q⟩ := h
  obtain ⟨as, r1⟩ := Dp.reads I d x v hd rx
  obtain ⟨bs, r2⟩ := Dp.reads I (.tuple ds) y u he ry
  rw [Bool.true_xor] at q
  exact SeqAt.notIn_tuple_reads r2 r1 (SeqAt.canLay_of_shaped se) (SeqAt.canLay_of_shaped sd) (room_in_shaped sd hu) ⟨.bl _, H, I, rfl, q⟩
theorem opr_imp {X : Cx} {f : Value → Value → Sem Value} {r r' : R2} (h : OpR X f r) (hi : ∀ x y H Q, r' x y H Q → r x y H Q) : OpR X f r' := by
  intro pins s σ H x y u w Q I rx ry hw
  exact h pins s σ H x y u w Q I rx ry (hi _ _ _ _ hw)
theorem op_inA {X : Cx} (hu : X.A.units + 65 < cLine) : OpR X (compareOp .In) (rInA X.K false) := OpR.or (opr_imp op_in_sign fun x y H Q ⟨c, z, h1, h2, h3⟩ => ⟨c, z, h1, h2, by rw [Bool.false_xor] at h3; exact h3⟩) (OpR.or op_in_seq (OpR.or (opr_imp (op_inD hu) fun x y H Q ⟨d, ds, h1, h2, h3, h4, h5⟩ => ⟨d, ds, h1, h2, h3, h4, by rw [Bool.false_xor] at h5; exact h5⟩) (op_inT hu)))
theorem op_ninA {X : Cx} (hu : X.A.units + 65 < cLine) : OpR X (compareOp .NotIn) (rInA X.K true) := OpR.or (opr_imp op_notIn_sign fun x y H Q ⟨c, z, h1, h2, h3⟩ => ⟨c, z, h1, h2, by rw [Bool.true_xor] at h3; exact h3⟩) (OpR.or op_notIn_seq (OpR.or (opr_imp (op_notInD hu) fun x y H Q ⟨d, ds, h1, h2, h3, h4, h5⟩ => ⟨d, ds, h1, h2, h3, h4, by rw [Bool.true_xor] at h5; exact h5⟩) (op_notInT hu)))
end
end MM
set_option linter.all false
set_option maxRecDepth 100000
set_option maxHeartbeats 2000000
namespace MM
open PySem PySem.Spec PyProof.Rows L2
/-! ## what is walked -/
theorem pi_or {X : Cx} {tg e : Expr} {w w' : TI} (h : PI X tg e w) (h' : PI X tg e w') : PI X tg e (fun σ H R => w σ H R ∨ w' σ H R) := ⟨fun pins s σ H R I q => q.elim (h.run pins s σ H R I) (h'.run pins s σ H R I)⟩
def signD (c : Nat) : D := .str ⟨#[c]⟩
def items (S : Sto) : D → Option Items
  | .lst xs => some ⟨xs, none⟩
  | .tup xs => some ⟨xs, none⟩
  | .scr is => some ⟨is.map .int, none⟩
  | .str z => some ⟨z.cps.toList.map signD, none⟩
  | .loc n => match S[n]? with
    | some (.lst xs) => some ⟨xs, some (n, xs)⟩
    | _ => none
  | _ => none
def iAny (m : ME) : MI := fun L S => (m L S).bind fun d S1 => match items S1 d with
  | some x => .ok x S1
  | none => .stuck
section
variable {G : Gam} {W : WX} {H : Hp} {M : Mem} {S : Sto}
theorem Reps.at_ {xs : List D} {vs : List V} (r : Reps G H M xs vs) : ∀ {i : Nat} {d : D}, xs[i]? = some d → ∃ v, vs[i]? = some v ∧ Rep G H M d v := by
  induction xs generalizing vs with
  | nil => intro i d h; simp at h
  | cons x xs ih =>
    cases r with
    | @cons _ v _ vs' r1 r2 =>
      intro i d h
      cases i with
      | zero =>
        simp at h
        subst h
        exact ⟨v, rfl, r1⟩
      | succ j => exact ih r2 (by simpa using h)
theorem Reps.none_ {xs : List D} {vs : List V} (r : Reps G H M xs vs) {i : Nat} (h : xs[i]? = none) : vs[i]? = none := by
  rw [List.getElem?_eq_none_iff] at h ⊢
  rw [← r.length]
  exact h
theorem jok_same {J : It} {a : Addr} {x : Items} {P : Hp → List V → Prop} (hs : ∀ H' vs, P H' vs → vs.length ≤ x.xs.length → J.stop x.xs.length H') (hg : ∀ H' vs i v, P H' vs → vs[i]? = some v → J.go i H') (hy : ∀ H' vs i v y H'', P H' vs → vs[i]? = some v → J.yld i H' y H'' → H'' = H' ∧ y = v)
    (h : ∀ H' M' S', Tr H M H' M' → RepS G H' M' S' → grdOk x.gd S' → ∃ vs, P H' vs ∧ Reps G H' M' x.xs vs) : JOk G J H M x where
  stop := fun H' M' S' t _ rs g => by
    obtain ⟨vs, p, r⟩ := h H' M' S' t rs g
    exact hs H' vs p (by rw [← r.length]; exact Nat.le_refl _)
  go := fun H' M' S' i d t _ rs g hx => by
    obtain ⟨vs, p, r⟩ := h H' M' S' t rs g
    obtain ⟨v, hv, rv⟩ := r.at_ hx
    refine ⟨hg H' vs i v p hv, fun y H'' q => ?_⟩
    obtain ⟨e, ey⟩ := hy H' vs i v y H'' p hv q
    subst e ey
    exact ⟨Step.refl _ _, fun _ _ z => z, rv⟩
theorem jok_list {K : PySem.W.Frag} {a : Addr} {x : Items} (h : ∀ H' M' S', Tr H M H' M' → RepS G H' M' S' → grdOk x.gd S' → ∃ vs, SqL K H' a vs ∧ Reps G H' M' x.xs vs) : JOk G (Itl K a) H M x :=
  jok_same (a := a) (P := fun H' vs => SqL K H' a vs) (fun H' vs p l => ⟨vs, p, l⟩) (fun H' vs i v p q => ⟨vs, v, p, q⟩) (fun H' vs i v y H'' p hv q => ⟨q.1, by have := q.2 vs p; rw [hv] at this; exact (Option.some.inj this).symm⟩) h
theorem jok_tup {K : PySem.W.Frag} {a : Addr} {x : Items} (h : ∀ H' M' S', Tr H M H' M' → RepS G H' M' S' → grdOk x.gd S' → ∃ vs, SqT K H' a vs ∧ Reps G H' M' x.xs vs) : JOk G (Itt K a) H M x :=
  jok_same (a := a) (P := fun H' vs => SqT K H' a vs) (fun H' vs p l => ⟨vs, p, l⟩) (fun H' vs i v p q => ⟨vs, v, p, q⟩) (fun H' vs i v y H'' p hv q => ⟨q.1, by have := q.2 vs p; rw [hv] at this; exact (Option.some.inj this).symm⟩) h
theorem reps_signs (cs : List Nat) : Reps G H M (cs.map signD) (cs.map fun c => V.str ⟨#[c]⟩) := by
  induction cs with
  | nil => exact .nil
  | cons c cs ih => exact .cons (.str _) ih
theorem jok_str {z : Str} : JOk G (Its z) H M ⟨z.cps.toList.map signD, none⟩ := by
  refine jok_same (a := 0) (P := fun _ vs => vs = z.cps.toList.map fun c => V.str ⟨#[c]⟩) (fun H' vs p l => ?_) (fun H' vs i v p q => ?_) (fun H' vs i v y H'' p hv q => ?_) (fun H' M' S' t rs g => ⟨_, rfl, reps_signs _⟩)
  · show z.cps.size ≤ (z.cps.toList.map signD).length
    simp
  · subst p
    show i < z.cps.size
    have := (List.getElem?_eq_some_iff.mp q).1
    simpa using this
  · subst p
    obtain ⟨e, c, hc, ey⟩ := q
    refine ⟨e, ?_⟩
    rw [ey]
    simp [hc] at hv
    exact hv
theorem reps_ints (is : List Int) : Reps G H M (is.map .int) (is.map V.int) := by
  induction is with
  | nil => exact .nil
  | cons c cs ih => exact .cons (.int _) ih
abbrev iAnyW (K : PySem.W.Frag) (t : TE) : TI := fun σ H R => iList K t σ H R ∨ (iTup K t σ H R ∨ iStr t σ H R)
theorem pi_any {X : Cx} {tg l : Expr} {t : TE} (h : PE X l t) : PI X tg l (iAnyW X.K t) := pi_or (pi_list h) (pi_or (pi_tup h) (pi_str h))
theorem iAny_ok (ok : G.Ok) {m : ME} : IterOk G W (iAny m) (iAnyW G.K (tE G W m)) := by
  intro σ H R L S M rl rs h
  unfold iAny at h
  cases q : m L S with
  | stuck => rw [q] at h; exact h.elim
  | exc e S1 =>
    rw [q] at h
    exact .inl ⟨L, S, M, rl, rs, by rw [q]; exact h⟩
  | ok d S1 =>
    rw [q] at h
    simp only [bind_ok] at h
    have go : ∀ (Q : V → Hp → Prop), (∀ v H1 M1, Step H M H1 M1 → RepS G H1 M1 S1 → Rep G H1 M1 d v → Q v H1) → tE G W m σ H Q := fun Q hQ => ⟨L, S, M, rl, rs, by rw [q]; exact hQ⟩
    cases d with
    | lst xs =>
      refine .inl (go _ fun v H1 M1 st rs1 rp => ?_)
      obtain ⟨a, vs, e, na, ha, hr⟩ := rp.lst_inv ok
      exact ⟨a, e, ⟨vs, .of ha⟩, h _ H1 M1 st rs1 (jok_list fun H' M' S' t _ _ => ⟨vs, .of (t.raw _ _ na trivial ha), Reps.tr t _ _ hr⟩)⟩
    | scr is =>
      refine .inl (go _ fun v H1 M1 st rs1 rp => ?_)
      cases rp with
      | @scr a _ na ha => exact ⟨a, rfl, ⟨_, .inl ha⟩, h _ H1 M1 st rs1 (jok_list fun H' M' S' t _ _ => ⟨_, .inl (t.ext _ _ na trivial ha), reps_ints _⟩)⟩
      | @scrK a _ hk => exact ⟨a, rfl, ⟨_, .inr hk⟩, h _ H1 M1 st rs1 (jok_list fun H' M' S' t _ _ => ⟨_, .inr hk, reps_ints _⟩)⟩
      | ext hx => exact (ok.ext _ _ _ _ hx).elim
    | tup xs =>
      refine .inr (.inl (go _ fun v H1 M1 st rs1 rp => ?_))
      obtain ⟨a, vs, e, ha, hr, hd⟩ := rp.tup_inv2 ok
      refine ⟨a, e, ⟨vs, ha⟩, h _ H1 M1 st rs1 (jok_tup fun H' M' S' t _ _ => ⟨vs, ?_, Reps.tr t _ _ hr⟩)⟩
      rcases hd with ⟨na, hd⟩ | hd
      · exact .inl (.inl (t.raw _ _ na trivial hd))
      · exact .inr hd
    | str z =>
      refine .inr (.inr (go _ fun v H1 M1 st rs1 rp => ?_))
      exact ⟨z, rp.str_inv ok, h _ H1 M1 st rs1 jok_str⟩
    | loc n =>
      simp only [items] at h
      split at h
      · rename_i x hx
        split at hx
        · rename_i xs hxs
          cases hx
          refine .inl (go _ fun v H1 M1 st rs1 rp => ?_)
          obtain ⟨a, e, hm⟩ := rp.loc_inv ok
          obtain ⟨o, h1, h2⟩ := rs1.get hm hxs
          cases h2 with
          | lst h3 =>
            refine ⟨a, e, ⟨_, .of h1⟩, h _ H1 M1 st rs1 (jok_list fun H' M' S' t rs' g => ?_)⟩
            obtain ⟨o', h1', h2'⟩ := rs'.get (t.sub _ _ hm) g
            cases h2' with
            | lst h3' => exact ⟨_, .of h1', h3'⟩
        · cases hx
      · exact h.elim
    | _ => exact h.elim
/-! ### ranges -/
def rngD (lo : Int) (n : Nat) : List D := (List.range n).map fun (i : Nat) => D.int (lo + (i : Int))
def rngOk (j : Int) : Prop := -(2 ^ 62) ≤ j ∧ j < 2 ^ 62
def rngOk2 (i j : Int) : Prop := -(2 ^ 62) ≤ i ∧ i < 2 ^ 62 ∧ -(2 ^ 62) ≤ j ∧ j < 2 ^ 62
noncomputable def rng1 : MA → MI := fun m L S => (m L S).bind fun ds S1 => match ds with
  | [.int j] => open Classical in if rngOk j then .ok ⟨rngD 0 j.toNat, none⟩ S1 else .stuck
  | _ => .stuck
noncomputable def rng2 : MA → MI := fun m L S => (m L S).bind fun ds S1 => match ds with
  | [.int i, .int j] => open Classical in if rngOk2 i j then .ok ⟨rngD i (j - i).toNat, none⟩ S1 else .stuck
  | _ => .stuck
theorem rngD_reps (lo : Int) (n : Nat) : Reps G H M (rngD lo n) ((List.range n).map fun (i : Nat) => V.int (lo + (i : Int))) := by
  unfold rngD
  induction (List.range n) with
  | nil => exact .nil
  | cons c cs ih => exact .cons (.int _) ih
theorem jok_rng {lo : Int} {n : Nat} : JOk G (Itr lo n) H M ⟨rngD lo n, none⟩ := by
  refine jok_same (a := 0) (P := fun _ vs => vs = (List.range n).map fun (i : Nat) => V.int (lo + (i : Int))) (fun H' vs p l => ?_) (fun H' vs i v p q => ?_) (fun H' vs i v y H'' p hv q => ?_) (fun H' M' S' t rs g => ⟨_, rfl, rngD_reps _ _⟩)
  · show n ≤ (rngD lo n).length
    simp [rngD]
  · subst p
    show i < n
    have := (List.getElem?_eq_some_iff.mp q).1
    simpa using this
  · subst p
    obtain ⟨e, ey⟩ := q
    refine ⟨e, ?_⟩
    rw [ey]
    rw [List.getElem?_map, Option.map_eq_some_iff] at hv
    obtain ⟨k, h2, h3⟩ := hv
    have hk := List.getElem?_eq_some_iff.mp h2
    obtain ⟨_, hk⟩ := hk
    rw [List.getElem_range] at hk
    rw [← h3, hk]
theorem rng1_ok (ok : G.Ok) {m : MA} : IterOk G W (rng1 m) (iRng1 (tA G W m)) := by
  intro σ H R L S M rl rs h
  refine then_a rl rs h (fun _ _ z => z) fun vs H1 M1 ds S1 st rs1 rps rl1 h1 => ?_
  split at h1
  · rename_i j
    split at h1
    · rename_i hj
      cases rps with
      | cons r1 r2 =>
        cases r2
        exact ⟨j, by rw [r1.int_inv ok], hj.1, hj.2, h1 _ H1 M1 st rs1 jok_rng⟩
    · exact h1.elim
  · exact h1.elim
theorem rng2_ok (ok : G.Ok) {m : MA} : IterOk G W (rng2 m) (iRng2 (tA G W m)) := by
  intro σ H R L S M rl rs h
  refine then_a rl rs h (fun _ _ z => z) fun vs H1 M1 ds S1 st rs1 rps rl1 h1 => ?_
  split at h1
  · rename_i i j
    split at h1
    · rename_i hj
      cases rps with
      | cons r1 r2 =>
        cases r2 with
        | cons r3 r4 =>
          cases r4
          exact ⟨i, j, by rw [r1.int_inv ok, r3.int_inv ok], hj, h1 _ H1 M1 st rs1 jok_rng⟩
    · exact h1.elim
  · exact h1.elim
/-! ### enumerate, zip -/
def enumD (xs : List D) : List D := (List.range xs.length).map fun (i : Nat) => D.tup [.int (i : Int), xs.getD i .non]
theorem enumD_at {xs : List D} {i : Nat} {d : D} (h : (enumD xs)[i]? = some d) : ∃ x, xs[i]? = some x ∧ d = .tup [.int (i : Int), x] := by
  unfold enumD at h
  rw [List.getElem?_map, Option.map_eq_some_iff] at h
  obtain ⟨k, h2, h3⟩ := h
  obtain ⟨hl, hk⟩ := List.getElem?_eq_some_iff.mp h2
  rw [List.getElem_range] at hk
  subst hk
  have hl : i < xs.length := by simpa using hl
  refine ⟨xs[i], by rw [List.getElem?_eq_getElem hl], ?_⟩
  rw [← h3]
  simp [List.getD_eq_getElem?_getD, List.getElem?_eq_getElem hl]
/-- the walk of what a list or tuple holds, where each turn makes a pair -/
theorem pair_yld {H' : Hp} {M' : Mem} {S' : Sto} {T : Addr} {x y : V} {d e : D} (hT : H' T = none) (rs : RepS G H' M' S') (rx : Rep G H' M' d x) (ry : Rep G H' M' e y) :
    Step H' M' (upd H' T (.tup [x, y])) M' ∧ (∀ a u, H' a = some u → upd H' T (.tup [x, y]) a = some u) ∧ Rep G (upd H' T (.tup [x, y])) M' (.tup [d, e]) (.ref T) := by
  have sn := Step.new (M := M') (o := .tup [x, y]) hT
  exact ⟨sn, fun a u h => by rw [upd_ne (ne_of_none h hT)]; exact h, .tup (rs.fresh hT) upd_same (.cons (Rep.mono sn _ _ rx) (.cons (Rep.mono sn _ _ ry) .nil))⟩
/-- a list's items, at an address, that stand while it is walked -/
structure Stands (G : Gam) (H : Hp) (M : Mem) (gd : Grd) (a : Addr) (xs : List D) : Prop where
  ex : ∀ H' M' S', Tr H M H' M' → RepS G H' M' S' → grdOk gd S' → ∃ vs, SqL G.K H' a vs ∧ Reps G H' M' xs vs
def lstI (S : Sto) : D → Option Items
  | .lst xs => some ⟨xs, none⟩
  | .scr is => some ⟨is.map .int, none⟩
  | .loc n => match S[n]? with
    | some (.lst xs) => some ⟨xs, some (n, xs)⟩
    | _ => none
  | _ => none
theorem lstI_ok (ok : G.Ok) {d : D} {v : V} {x : Items} (rs : RepS G H M S) (rp : Rep G H M d v) (h : lstI S d = some x) : ∃ a, v = .ref a ∧ (∃ vs, SqL G.K H a vs) ∧ Stands G H M x.gd a x.xs := by
  cases d with
  | lst xs =>
    cases h
    obtain ⟨a, vs, e, na, ha, hr⟩ := rp.lst_inv ok
    exact ⟨a, e, ⟨vs, .of ha⟩, ⟨fun H' M' S' t _ _ => ⟨vs, .of (t.raw _ _ na trivial ha), Reps.tr t _ _ hr⟩⟩⟩
  | scr is =>
    cases h
    cases rp with
    | @scr a _ na ha => exact ⟨a, rfl, ⟨_, .inl ha⟩, ⟨fun H' M' S' t _ _ => ⟨_, .inl (t.ext _ _ na trivial ha), reps_ints _⟩⟩⟩
    | @scrK a _ hk => exact ⟨a, rfl, ⟨_, .inr hk⟩, ⟨fun H' M' S' t _ _ => ⟨_, .inr hk, reps_ints _⟩⟩⟩
    | ext hx => exact (ok.ext _ _ _ _ hx).elim
  | loc n =>
    simp only [lstI] at h
    split at h
    · rename_i xs hxs
      cases h
      obtain ⟨a, e, hm⟩ := rp.loc_inv ok
      obtain ⟨o, h1, h2⟩ := rs.get hm hxs
      cases h2 with
      | lst h3 =>
        refine ⟨a, e, ⟨_, .of h1⟩, ⟨fun H' M' S' t rs' g => ?_⟩⟩
        obtain ⟨o', h1', h2'⟩ := rs'.get (t.sub _ _ hm) g
        cases h2' with
        | lst h3' => exact ⟨_, .of h1', h3'⟩
    · cases h
  | _ => cases h
def iEnm : MA → MI := fun m L S => (m L S).bind fun ds S1 => match ds with
  | [d] => match lstI S1 d with
    | some x => .ok ⟨enumD x.xs, x.gd⟩ S1
    | none => .stuck
  | _ => .stuck
theorem iEnm_ok (ok : G.Ok) {m : MA} : IterOk G W (iEnm m) (iEnum G.K (tA G W m)) := by
  intro σ H R L S M rl rs h
  refine then_a rl rs h (fun _ _ z => z) fun vs H1 M1 ds S1 st rs1 rps rl1 h1 => ?_
  split at h1
  · rename_i d
    split at h1
    · rename_i x hx
      cases rps with
      | cons r1 r2 =>
        cases r2
        obtain ⟨a, e, ⟨zs, hz⟩, sd⟩ := lstI_ok ok rs1 r1 hx
        subst e
        refine ⟨a, zs, rfl, hz, h1 _ H1 M1 st rs1 ⟨fun H' M' S' t _ rs' g => ?_, fun H' M' S' i d t _ rs' g hd => ?_⟩⟩
        · obtain ⟨vs, h2, h3⟩ := sd.ex H' M' S' t rs' g
          exact ⟨vs, h2, by rw [← h3.length]; simp [enumD]⟩
        · obtain ⟨vs, h2, h3⟩ := sd.ex H' M' S' t rs' g
          obtain ⟨y, hy, ed⟩ := enumD_at hd
          obtain ⟨v, hv, rv⟩ := h3.at_ hy
          refine ⟨⟨vs, v, h2, hv⟩, ?_⟩
          rintro w H'' ⟨T, z, e1, hT, e2, hz⟩
          subst e1 e2 ed
          have := hz vs h2
          rw [hv] at this
          cases this
          exact pair_yld hT rs' (.int _) rv
    · exact h1.elim
  · exact h1.elim
def zipD (xs ys : List D) : List D := List.zipWith (fun x y => D.tup [x, y]) xs ys
def gdAnd : Grd → Grd → Option Grd
  | none, g => some g
  | g, none => some g
  | some (n, xs), some (m, ys) => if n = m then some (some (n, xs)) else none
/-- two lists, or two tuples -/
def iZp : MA → MI := fun m L S => (m L S).bind fun ds S1 => match ds with
  | [d, e] => match lstI S1 d, lstI S1 e with
    | some x, some y => match gdAnd x.gd y.gd with
      | some g => .ok ⟨zipD x.xs y.xs, g⟩ S1
      | none => .stuck
    | _, _ => match asTup d, asTup e with
      | some xs, some ys => .ok ⟨zipD xs ys, none⟩ S1
      | _, _ => .stuck
  | _ => .stuck
theorem zipD_at {xs ys : List D} {i : Nat} {d : D} (h : (zipD xs ys)[i]? = some d) : ∃ x y, xs[i]? = some x ∧ ys[i]? = some y ∧ d = .tup [x, y] := by
  unfold zipD at h
  rw [List.getElem?_zipWith] at h
  cases hx : xs[i]? with
  | none => rw [hx] at h; cases h
  | some x =>
    cases hy : ys[i]? with
    | none => rw [hx, hy] at h; cases h
    | some y =>
      rw [hx, hy] at h
      cases h
      exact ⟨x, y, rfl, rfl, rfl⟩
theorem grd_l {g h k : Grd} {S : Sto} (e : gdAnd g h = some k) (q : grdOk k S) (hx : ∀ n xs m ys, g = some (n, xs) → h = some (m, ys) → n = m → xs = ys) : grdOk g S ∧ grdOk h S := by
  cases g with
  | none =>
    cases e
    exact ⟨trivial, q⟩
  | some p =>
    cases h with
    | none =>
      cases e
      exact ⟨q, trivial⟩
    | some p' =>
      obtain ⟨n, xs⟩ := p
      obtain ⟨m, ys⟩ := p'
      simp only [gdAnd] at e
      split at e
      · rename_i hn
        cases e
        have := hx n xs m ys rfl rfl hn
        subst hn this
        exact ⟨q, q⟩
      · cases e
theorem lstI_gd {d : D} {x : Items} {n : Nat} {xs : List D} (h : lstI S d = some x) (e : x.gd = some (n, xs)) : S[n]? = some (.lst xs) := by
  cases d with
  | lst xs => cases h; cases e
  | scr is => cases h; cases e
  | loc n =>
    simp only [lstI] at h
    split at h
    · rename_i ys q
      cases h
      cases e
      exact q
    · cases h
  | _ => cases h
theorem iZp_ok (ok : G.Ok) {m : MA} : IterOk G W (iZp m) (RZ.iZipA G.K (tA G W m)) := by
  intro σ H R L S M rl rs h
  refine then_a rl rs h (fun _ _ z => z) fun vs H1 M1 ds S1 st rs1 rps rl1 h1 => ?_
  split at h1
  · rename_i d e
    cases rps with
    | cons r1 r2 =>
      cases r2 with
      | cons r3 r4 =>
        cases r4
        split at h1
        · rename_i x y hx hy
          split at h1
          · rename_i gg hgg
            obtain ⟨a, e1, ⟨zs, hz⟩, sd⟩ := lstI_ok ok rs1 r1 hx
            obtain ⟨b, e2, ⟨ws, hw⟩, sd2⟩ := lstI_ok ok rs1 r3 hy
            subst e1 e2
            have hsame : ∀ n xs m ys, x.gd = some (n, xs) → y.gd = some (m, ys) → n = m → xs = ys := fun n xs m ys q1 q2 q3 => by
              have z1 := lstI_gd hx q1
              have z2 := lstI_gd hy q2
              rw [q3, z2] at z1
              cases z1
              rfl
            refine ⟨a, b, zs, ws, rfl, .inl ⟨hz, hw, h1 _ H1 M1 st rs1 ⟨fun H' M' S' t _ rs' g => ?_, fun H' M' S' i d t _ rs' g hd => ?_⟩⟩⟩
            · obtain ⟨g1, g2⟩ := grd_l hgg g hsame
              obtain ⟨vs, h2, h3⟩ := sd.ex H' M' S' t rs' g1
              obtain ⟨us, h2', h3'⟩ := sd2.ex H' M' S' t rs' g2
              refine ⟨vs, us, h2, h2', ?_⟩
              rw [← h3.length, ← h3'.length]
              simp only [zipD, List.length_zipWith]
              omega
            · obtain ⟨g1, g2⟩ := grd_l hgg g hsame
              obtain ⟨vs, h2, h3⟩ := sd.ex H' M' S' t rs' g1
              obtain ⟨us, h2', h3'⟩ := sd2.ex H' M' S' t rs' g2
              obtain ⟨p, q, hp, hq, ed⟩ := zipD_at hd
              obtain ⟨v, hv, rv⟩ := h3.at_ hp
              obtain ⟨u, hu, ru⟩ := h3'.at_ hq
              refine ⟨⟨vs, us, v, u, h2, h2', hv, hu⟩, ?_⟩
              rintro w H'' ⟨T, z, z', e1, hT, e2, hz, hz'⟩
              subst e1 e2 ed
              have q1 := hz vs h2
              have q2 := hz' us h2'
              rw [hv] at q1
              rw [hu] at q2
              cases q1
              cases q2
              exact pair_yld hT rs' rv ru
          · exact h1.elim
        · split at h1
          · rename_i xs ys hx hy
            have ex := asTup_eq hx
            have ey := asTup_eq hy
            subst ex ey
            obtain ⟨a, zs, e1, hz, hr, hd1⟩ := r1.tup_inv2 ok
            obtain ⟨b, ws, e2, hw, hr2, hd2⟩ := r3.tup_inv2 ok
            subst e1 e2
            have keep : ∀ {a : Addr} {zs : List V}, ((¬ M1.has a ∧ H1 a = some (.tup zs)) ∨ KTup G.K a zs) → ∀ H' M', Tr H1 M1 H' M' → SqT G.K H' a zs := fun hd H' M' t => by
              rcases hd with ⟨na, hd⟩ | hd
              · exact .inl (.inl (t.raw _ _ na trivial hd))
              · exact .inr hd
            refine ⟨a, b, zs, ws, rfl, .inr ⟨hz, hw, h1 _ H1 M1 st rs1 ⟨fun H' M' S' t _ rs' g => ?_, fun H' M' S' i d t _ rs' g hd => ?_⟩⟩⟩
            · refine ⟨zs, ws, keep hd1 _ _ t, keep hd2 _ _ t, ?_⟩
              rw [← hr.length, ← hr2.length]
              simp only [zipD, List.length_zipWith]
              omega
            · obtain ⟨p, q, hp, hq, ed⟩ := zipD_at hd
              obtain ⟨v, hv, rv⟩ := (Reps.tr t _ _ hr).at_ hp
              obtain ⟨u, hu, ru⟩ := (Reps.tr t _ _ hr2).at_ hq
              have k1 := keep hd1 _ _ t
              have k2 := keep hd2 _ _ t
              refine ⟨⟨zs, ws, v, u, k1, k2, hv, hu⟩, ?_⟩
              rintro w H'' ⟨T, z, z', e1, hT, e2, hz, hz'⟩
              subst e1 e2 ed
              have q1 := hz zs k1
              have q2 := hz' ws k2
              rw [hv] at q1
              rw [hu] at q2
              cases q1
              cases q2
              exact pair_yld hT rs' rv ru
          · exact h1.elim
  · exact h1.elim
end
end MM
set_option linter.all false
set_option maxRecDepth 100000
set_option maxHeartbeats 2000000
namespace MM
open PySem PySem.Spec PyProof.Rows L2
theorem pe_alt {X : Cx} {e : Expr} {t t' : TE} (h : PE X e t) (h' : PE X e t') : PE X e (fun σ H Q => t σ H Q ∨ t' σ H Q) := ⟨fun pins s σ H Q I q => q.elim (h.run pins s σ H Q I) (h'.run pins s σ H Q I)⟩
section
variable {X : Cx} {G : Gam} {W : WX} {e a b o : Expr} {es : List Expr} {pos p apos cpos p2 : Pos} {H : Hp} {M : Mem} {S : Sto} {ma mb : ME} {d : D} {v : V}
/-! ## dicts -/
def asKey : D → Option Key
  | .int i => some (.inl i)
  | .str x => some (.inr x)
  | _ => none
theorem asKey_rep (ok : G.Ok) {k : Key} (r : Rep G H M d v) (h : asKey d = some k) : v = kV k := by
  cases d <;> first | (cases h; done) | skip
  · cases h; exact r.int_inv ok
  · cases h; exact r.str_inv ok
def dGet (k : Key) : List D → List D → Option D
  | c :: ks, v :: vs => if asKey c = some k then some v else dGet k ks vs
  | _, _ => none
theorem asKey_keyD (k : Key) : asKey (keyD k) = some k := by cases k <;> rfl
theorem dGet_ok {k : Key} {d : D} : ∀ {kvs : List (Key × V)} {vs : List D}, Reps G H M vs (kvs.map (·.2)) → dGet k (kvs.map fun p => keyD p.1) vs = some d → ∃ v, valV kvs k = some v ∧ Rep G H M d v
  | [], vs, r, h => by
    cases r
    cases h
  | (c, v) :: kvs, vs, r, h => by
    cases r with
    | @cons w _ ws _ r1 r2 =>
      have h : (if asKey (keyD c) = some k then some w else dGet k (kvs.map fun p => keyD p.1) ws) = some d := h
      rw [asKey_keyD] at h
      by_cases q : c = k
      · subst q
        rw [if_pos rfl] at h
        cases h
        refine ⟨v, ?_, r1⟩
        unfold valV
        simp
      · rw [if_neg (fun z => q (Option.some.inj z))] at h
        obtain ⟨u, h1, h2⟩ := dGet_ok r2 h
        refine ⟨u, ?_, h2⟩
        unfold valV at h1 ⊢
        rw [List.find?_cons_of_neg (by simpa using q)]
        exact h1
/-- a dict, if it has number and text keys -/
def asDct (S : Sto) : D → Option (List D × List D)
  | .dct ks vs => some (ks, vs)
  | .loc n => match S[n]? with
    | some (.dct ks vs) => some (ks, vs)
    | _ => none
  | _ => none
def allKeys (ks : List D) : Bool := ks.all fun k => (asKey k).isSome
theorem asDct_rep (ok : G.Ok) {ks vs : List D} (rs : RepS G H M S) (r : Rep G H M d v) (h : asDct S d = some (ks, vs)) : ∃ a kvs, v = .ref a ∧ Rd H a (.dK kvs) ∧ ks = kvs.map (fun p => keyD p.1) ∧ Reps G H M vs (kvs.map (·.2)) := by
  cases d with
  | dct ks' vs' =>
    cases h
    cases r with
    | @dctK a kvs _ _ na h1 h2 h3 => exact ⟨a, kvs, rfl, h1, h2, h3⟩
    | ext hx => exact (ok.ext _ _ _ _ hx).elim
  | loc n =>
    obtain ⟨a, e, hm⟩ := r.loc_inv ok
    simp only [asDct] at h
    split at h
    · rename_i ks' vs' q
      cases h
      obtain ⟨o, h1, h2⟩ := rs.get hm q
      cases h2 with
      | @dctK kvs _ _ h3 h4 => exact ⟨a, kvs, e, .inl h1, h3, h4⟩
    · cases h
  | _ => cases h
/-! ## a subscript: of lists, tuples, texts; of dicts -/
def oIx (x y : D) (S : Sto) : Out D := match seqD S x, asInt y with
  | some xs, some i => match atI xs i with
    | some d => .ok d S
    | none => .stuck
  | _, _ => match asStr x, asInt y with
    | some z, some i => if z.length ≤ lim then match atI z.cps.toList i with
      | some c => .ok (signD c) S
      | none => .stuck else .stuck
    | _, _ => .stuck
def oDG (x y : D) (S : Sto) : Out D := match asDct S x, asKey y with
  | some (ks, vs), some k => match dGet k ks vs with
    | some d => .ok d S
    | none => .stuck
  | _, _ => .stuck
abbrev rSubD : R2 := fun x y H Q => ∃ a v, x = V.ref a ∧ DGet H a y (some v) ∧ Q v H
theorem Reps.atI {xs : List D} {vs : List V} (r : Reps G H M xs vs) {i : Int} {d : D} (h : L2.atI xs i = some d) : ∃ v, L2.atI vs i = some v ∧ Rep G H M d v := by
  unfold L2.atI at h ⊢
  rw [← r.length]
  cases q : ixN xs.length i with
  | none => rw [q] at h; cases h
  | some j =>
    rw [q] at h
    exact r.at_ h
theorem oIx_ok (ok : G.Ok) : OpM G oIx (rIx G.K) := by
  intro x y xv yv H M S Q rx ry rs h
  unfold oIx at h
  split at h
  · rename_i xs i hx hi
    split at h
    · rename_i d hd
      obtain ⟨a, vs, e, h1, h2⟩ := seqD_ok ok rs rx hx
      obtain ⟨v, hv, rv⟩ := h2.atI hd
      have ei := asInt_rep ok ry hi
      have := end_v rs h rv
      rcases h1 with h1 | h1
      · exact .inr (.inl ⟨a, vs, i, v, e, ei, h1, hv, this⟩)
      · exact .inl ⟨a, vs, i, v, e, ei, h1, hv, this⟩
    · exact h.elim
  · split at h
    · rename_i z i hz hi
      split at h
      · rename_i hl
        split at h
        · rename_i c hc
          exact .inr (.inr ⟨z, i, c, asStr_rep ok rx hz, asInt_rep ok ry hi, lim_ok hl, hc, end_v rs h (.str _)⟩)
        · exact h.elim
      · exact h.elim
    · exact h.elim
theorem oDG_ok (ok : G.Ok) : OpM G oDG rSubD := by
  intro x y xv yv H M S Q rx ry rs h
  unfold oDG at h
  split at h
  · rename_i ks vs k hd hk
    split at h
    · rename_i d hg
      obtain ⟨a, kvs, e, h1, h2, h3⟩ := asDct_rep ok rs rx hd
      subst h2
      obtain ⟨v, hv, rv⟩ := dGet_ok h3 hg
      exact ⟨a, v, e, .inl ⟨kvs, k, h1, asKey_rep ok ry hk, hv.symm⟩, end_v rs h rv⟩
    · exact h.elim
  · exact h.elim
def mIx (a b : ME) : ME := mBin oIx a b
def mDG (a b : ME) : ME := mBin oDG a b
theorem e_ix (ok : G.Ok) (hK : G.K = X.K) (ha : PE X a (tE G W ma)) (hb : PE X b (tE G W mb)) (hp : PlainIx b := by exact fun _ _ => rfl) : PE X (.Subscript a b pos) (tE G W (mIx ma mb)) :=
  pe_imp (pe_ix ix_seq ha hb hp) fun _ _ _ h => by rw [← hK]; exact op_imp (oIx_ok ok) h
theorem e_dg (ok : G.Ok) (hu : X.A.units + 1 < cLine) (ha : PE X a (tE G W ma)) (hb : PE X b (tE G W mb)) (hs : L2.NoSl b := by exact fun _ _ => rfl) : PE X (.Subscript a b pos) (tE G W (mDG ma mb)) :=
  pe_imp (pe_dget hu ha hb hs) fun _ _ _ h => op_imp (oDG_ok ok) h
/-- d[k] = v on a dict of one's own -/
def kEq (c k : D) : Bool := decide (asKey c = asKey k)
def dPut (k : D) (v : D) (ks vs : List D) : List D × List D := if ks.any (fun c => kEq c k) = true then (ks, List.zipWith (fun c w => if kEq c k = true then v else w) ks vs) else (ks ++ [k], vs ++ [v])
def putM (d k v : D) (S : Sto) : Out Unit := match d with
  | .loc n => match S[n]? with
    | some (.dct ks vs) => if (asKey k).isSome = true ∧ ks.length < lim then .ok () (S.set n (.dct (dPut k v ks vs).1 (dPut k v ks vs).2)) else .stuck
    | _ => .stuck
  | _ => .stuck
def bDPut (o i v : ME) : MB := fun L S => (v L S).bind fun x S1 => (o L S1).bind fun d S2 => (i L S2).bind fun k S3 => (putM d k x S3).bind fun _ S4 => .ok (.nx L) S4
theorem kEq_keyD (c k : Key) : kEq (keyD c) (keyD k) = decide (c = k) := by
  unfold kEq
  rw [asKey_keyD, asKey_keyD]
  by_cases h : c = k
  · subst h
    simp
  · simp [h]
theorem dPut_ok {k : Key} {x : D} {w : V} {kvs : List (Key × V)} {vs : List D} (rx : Rep G H M x w) (r : Reps G H M vs (kvs.map (·.2))) : (dPut (keyD k) x (kvs.map fun p => keyD p.1) vs).1 = (putK kvs k w).map (fun p => keyD p.1) ∧ Reps G H M (dPut (keyD k) x (kvs.map fun p => keyD p.1) vs).2 ((putK kvs k w).map (·.2)) := by
  have hany : (kvs.map fun p => keyD p.1).any (fun c => kEq c (keyD k)) = kvs.any fun kv => decide (kv.1 = k) := by
    rw [List.any_map]
    congr 1
    funext p
    exact kEq_keyD _ _
  unfold dPut putK
  rw [hany]
  by_cases z : (kvs.any fun kv => decide (kv.1 = k)) = true
  · rw [if_pos z, if_pos z]
    constructor
    · rw [List.map_map]
      apply List.map_congr_left
      intro p _
      simp only [Function.comp]
      split <;> rfl
    · clear z hany
      show Reps G H M (List.zipWith (fun c w => if kEq c (keyD k) = true then x else w) (kvs.map fun p => keyD p.1) vs) _
      induction kvs generalizing vs with
      | nil => cases r; exact .nil
      | cons p kvs ih =>
        cases r with
        | @cons u _ us _ r1 r2 =>
          simp only [List.map_cons, List.zipWith_cons_cons]
          refine .cons ?_ (ih r2)
          rw [kEq_keyD]
          by_cases q : p.1 = k
          · simp only [q, decide_true, if_true]
            exact rx
          · simp only [q, decide_false, if_false]
            exact r1
  · rw [if_neg z, if_neg z]
    refine ⟨by simp, ?_⟩
    rw [List.map_append]
    exact r.app (.cons rx .nil)
theorem put_length {k : Key} {w : V} {kvs : List (Key × V)} : True := trivial
theorem asKey_eq {k : D} {c : Key} (h : asKey k = some c) : k = keyD c := by
  cases k <;> first | (cases h; done) | skip
  · cases h; rfl
  · cases h; rfl
theorem put_imp (ok : G.Ok) {dd k x : D} {dv kv xv : V} {S : Sto} {Q : Unit → Sto → Prop} {P : Hp → Prop} (rs : RepS G H M S) (rd : Rep G H M dd dv) (rk : Rep G H M k kv) (rx : Rep G H M x xv)
    (h : Fin (putM dd k x S) Q (fun _ _ => False)) (hq : ∀ S' H' , Q () S' → Step H M H' M → RepS G H' M S' → P H') : ∃ a H', dv = .ref a ∧ DPut H a kv xv H' ∧ P H' := by
  cases dd with
  | loc n =>
    obtain ⟨a, e, hm⟩ := rd.loc_inv ok
    simp only [putM] at h
    split at h
    · rename_i ks vs q
      split at h
      · rename_i hc
        obtain ⟨hk, hl⟩ := hc
        obtain ⟨c, hc⟩ := Option.isSome_iff_exists.mp hk
        obtain ⟨o, h1, h2⟩ := rs.get hm q
        have ek := asKey_eq hc
        subst ek
        cases h2 with
        | @dctK kvs _ _ h3 h4 =>
          subst h3
          obtain ⟨p1, p2⟩ := dPut_ok (k := c) rx h4
          have sw := Step.wr (H := H) (M := M) (o := HO.dK (putK kvs c xv)) (.inl (List.mem_of_getElem? hm))
          refine ⟨a, _, e, .inl ⟨kvs, c, h1, asKey_rep ok rk hc, by simpa using Nat.lt_of_lt_of_le hl (lim_ok (Nat.le_refl _)), rfl⟩, hq _ _ h sw (rs.wr hm ?_)⟩
          exact RepC.dctK p1 (Reps.mono sw _ _ p2)
      · exact h.elim
    · exact h.elim
  | _ => exact h.elim
theorem b_dput (ok : G.Ok) {mo mi mv : ME} {i : Expr} {pos' : Pos} (hu : X.A.units + 1 < cLine) (ho : PE X o (tE G W mo)) (hi : PE X i (tE G W mi)) (hv : PE X e (tE G W mv)) (hsw : swapsWith e (some (.Subscript o i pos')) pos.line X.env = pure false := by rfl) :
    PS X (.Assign [.Subscript o i pos'] e pos) (tB G W (bDPut mo mi mv)) := ps_imp (ps_dput hu ho hi hv hsw) fun D' σ H ⟨L, S, M, rl, rs, h⟩ => by
  refine then_e rl rs h (fun e S z => wE_of e S z) fun v H1 M1 x S1 st rs1 rp rl1 h1 => ?_
  refine then_e rl1 rs1 h1 (fun e S' z => wE_of e S' (PostX.step st e S' z)) fun dv H2 M2 dd S2 st2 rs2 rp2 rl2 h2 => ?_
  refine then_e rl2 rs2 h2 (fun e S' z => wE_of e S' (PostX.step (st.trans st2) e S' z)) fun kv H3 M3 k S3 st3 rs3 rp3 rl3 h3 => ?_
  have h3' : Fin (putM dd k x S3) (fun _ S4 => PostF G H M D' (.nx L) S4) (fun _ _ => False) := by
    cases q : putM dd k x S3 with
    | ok u S4 => rw [q] at h3; exact h3
    | stuck => rw [q] at h3; exact h3
    | exc e S4 =>
      unfold putM at q
      split at q
      · split at q
        · split at q <;> cases q
        · cases q
      · cases q
  obtain ⟨a, H', e1, e2, e3⟩ := put_imp ok (P := fun H' => D'.nx σ H') rs3 (Rep.mono st3 _ _ rp2) rp3 (Rep.mono (st2.trans st3) _ _ rp) h3' (fun S' H' hq sw rs' => hq H' M3 (((st.trans st2).trans st3).trans sw) rs' σ (rl3.mono sw))
  exact ⟨a, H', e1, e2, e3⟩
end
end MM
set_option linter.all false
set_option maxRecDepth 100000
set_option maxHeartbeats 2000000
namespace MM
open PySem PySem.Spec PyProof.Rows L2
section
variable {X : Cx} {G : Gam} {W : WX} {e a b o : Expr} {es : List Expr} {pos p apos cpos p2 : Pos} {H : Hp} {M : Mem} {S : Sto} {ma mb : ME} {d : D} {v : V}
/-! ## minus -/
def oNeg (x : D) (S : Sto) : Out D := match asInt x with
  | some i => .ok (.int (-i)) S
  | none => .stuck
def mNeg (a : ME) : ME := fun L S => (a L S).bind fun x S1 => oNeg x S1
theorem e_neg (ok : G.Ok) (ha : PE X a (tE G W ma)) : PE X (.UnaryOp .USub a pos) (tE G W (mNeg ma)) := pe_imp (pe_un un_neg ha) fun σ H Q ⟨L, S, M, rl, rs, h⟩ => by
  refine then_e rl rs h (fun _ _ z => z) fun x H1 M1 d S1 st rs1 rp rl1 h1 => ?_
  unfold oNeg at h1
  split at h1
  · rename_i i hi
    exact ⟨i, asInt_rep ok rp hi, h1 _ H1 M1 st rs1 (.int _)⟩
  · exact h1.elim
/-! ## a dict is written -/
def pairsF : List (ME × ME) → Loc → Sto → Out (List (D × D))
  | [], _, S => .ok [] S
  | (a, b) :: r, L, S => (dry (a L S)).bind fun k S1 => (dry (b L S1)).bind fun v S2 => (pairsF r L S2).bind fun ps S3 => .ok ((k, v) :: ps) S3
def keysOk (ks : List D) : Bool := allKeys ks && decide (ks.map asKey).Nodup && decide (ks.length ≤ 15)
def mDisp (t : List (ME × ME)) : ME := fun L S => (pairsF t L S).bind fun ps S1 => if keysOk (ps.map (·.1)) = true then .ok (.dct (ps.map (·.1)) (ps.map (·.2))) S1 else .stuck
def mDispC (t : List (ME × ME)) : ME := fun L S => (pairsF t L S).bind fun ps S1 => if keysOk (ps.map (·.1)) = true then .ok (.loc S1.length) (S1 ++ [.dct (ps.map (·.1)) (ps.map (·.2))]) else .stuck
theorem dry_imp {σ : Stt} {L : Loc} {P : D → Sto → Prop} {Q : VK} (rl : RepL G H M L σ) (rs : RepS G H M S) (h : Fin (dry (ma L S)) P (fun _ _ => False)) (hq : ∀ v H1 M1 d S1, Step H M H1 M1 → RepS G H1 M1 S1 → Rep G H1 M1 d v → RepL G H1 M1 L σ → P d S1 → Q v H1) : tE G W ma σ H Q := by
  refine ⟨L, S, M, rl, rs, ?_⟩
  cases q : ma L S with
  | ok d S1 =>
    rw [q] at h
    exact fun v H1 M1 st rs1 rp => hq v H1 M1 d S1 st rs1 rp (rl.mono st) h
  | exc x S1 => rw [q] at h; exact h.elim
  | stuck => rw [q] at h; exact h.elim
theorem fin_dry_bind {α : Type} {r : Out D} {k : D → Sto → Out α} {P : α → Sto → Prop} {E : EV → Sto → Prop} (h : Fin ((dry r).bind k) P E) : Fin (dry r) (fun d S => Fin (k d S) P E) (fun _ _ => False) := by
  cases r with
  | ok d S => exact h
  | exc e S => exact h.elim
  | stuck => exact h.elim
theorem fin_bind {α β : Type} {r : Out α} {k : α → Sto → Out β} {P : β → Sto → Prop} {E : EV → Sto → Prop} (h : Fin (r.bind k) P E) : Fin r (fun d S => Fin (k d S) P E) E := by
  cases r with
  | ok d S => exact h
  | exc e S => exact h
  | stuck => exact h.elim
abbrev trsOf (G : Gam) (W : WX) (t : List (ME × ME)) : List (TE × TE) := t.map fun q => (tE G W q.1, tE G W q.2)
theorem pairs_imp {D0 : Addr} {u : HO} {σ : Stt} {L : Loc} {H1 : Hp} {M1 : Mem} (hD : H1 D0 = none) : ∀ (t : List (ME × ME)) (Hc : Hp) (N : List Addr) (S : Sto) (P : List (D × D) → Sto → Prop) (Q : List (V × V) → Hp → Prop), Step H1 M1 Hc (M1.app N) → RepS G Hc ((M1.app N).hot D0 u) S → RepL G Hc ((M1.app N).hot D0 u) L σ →
    Fin (pairsF t L S) P (fun _ _ => False) → (∀ Hd N' S' ps vs, Step H1 M1 Hd (M1.app N') → RepS G Hd ((M1.app N').hot D0 u) S' → Reps G Hd ((M1.app N').hot D0 u) (ps.map (·.1)) (vs.map (·.1)) → Reps G Hd ((M1.app N').hot D0 u) (ps.map (·.2)) (vs.map (·.2)) → Step Hc ((M1.app N).hot D0 u) Hd ((M1.app N').hot D0 u) → P ps S' → Q vs Hd) → tPairs (trsOf G W t) σ Hc Q
  | [], Hc, N, S, P, Q, st, rs, rl, h, hq => hq Hc N S [] [] st rs .nil .nil (Step.refl _ _) h
  | (a, b) :: r, Hc, N, S, P, Q, st, rs, rl, h, hq => by
    have h : Fin ((dry (a L S)).bind fun k S1 => (dry (b L S1)).bind fun v S2 => (pairsF r L S2).bind fun ps S3 => .ok ((k, v) :: ps) S3) P _ := h
    refine dry_imp rl rs (fin_dry_bind h) fun kv H2 M2 k S2 st2 rs2 rk rl2 h2 => ?_
    obtain ⟨N2, e2, s2⟩ := step_hot st hD st2
    subst e2
    refine dry_imp rl2 rs2 (fin_dry_bind h2) fun vv H3 M3 v S3 st3 rs3 rv rl3 h3 => ?_
    obtain ⟨N3, e3, s3⟩ := step_hot s2 hD st3
    subst e3
    refine pairs_imp hD r H3 N3 S3 (fun ps S3 => P ((k, v) :: ps) S3) _ s3 rs3 rl3 (fin_bind h3) fun Hd N' S' ps vs z1 z2 z3 z4 z5 z6 => ?_
    exact hq Hd N' S' ((k, v) :: ps) ((kv, vv) :: vs) z1 z2 (.cons (Rep.mono (st3.trans z5) _ _ rk) z3) (.cons (Rep.mono z5 _ _ rv) z4) ((st2.trans st3).trans z5) z6
theorem keys_of (ok : G.Ok) {H : Hp} {M : Mem} : ∀ {ps : List (D × D)} {vs : List (V × V)}, Reps G H M (ps.map (·.1)) (vs.map (·.1)) → allKeys (ps.map (·.1)) = true → ∃ kvs : List (Key × V), vs = kvs.map (fun kv => (kV kv.1, kv.2)) ∧ ps.map (·.1) = kvs.map (fun q => keyD q.1)
  | [], [], _, _ => ⟨[], rfl, rfl⟩
  | p :: ps, w :: vs, r, h => by
    cases r with
    | cons r1 r2 =>
      simp only [allKeys, List.map_cons, List.all_cons, Bool.and_eq_true_iff] at h
      obtain ⟨k, hk⟩ := Option.isSome_iff_exists.mp h.1
      obtain ⟨kvs, e1, e2⟩ := keys_of ok r2 h.2
      refine ⟨(k, w.2) :: kvs, ?_, ?_⟩
      · rw [e1]
        simp only [List.map_cons]
        congr 1
        exact Prod.ext (asKey_rep ok r1 hk) rfl
      · simp only [List.map_cons]
        rw [e2, asKey_eq hk]
theorem merge_nodup : ∀ (kvs acc : List (Key × V)), ((acc ++ kvs).map (·.1)).Nodup → mergeK acc kvs = acc ++ kvs
  | [], acc, _ => by simp [mergeK]
  | (k, v) :: kvs, acc, nd => by
    show mergeK (putK acc k v) kvs = _
    have hn : ¬ (acc.any fun kv => decide (kv.1 = k)) = true := by
      intro h
      rw [List.any_eq_true] at h
      obtain ⟨p, hp, e⟩ := h
      rw [List.map_append, List.nodup_append] at nd
      exact nd.2.2 p.1 (List.mem_map_of_mem (f := (·.1)) hp) k (by simp) (of_decide_eq_true e)
    have e : putK acc k v = acc ++ [(k, v)] := by
      unfold putK
      rw [if_neg hn]
    rw [e, merge_nodup kvs (acc ++ [(k, v)]) (by simpa using nd)]
    simp
theorem nodup_keys {kvs : List (Key × V)} (h : ((kvs.map fun q => keyD q.1).map asKey).Nodup) : (kvs.map (·.1)).Nodup := by
  have e : (kvs.map fun q => keyD q.1).map asKey = (kvs.map (·.1)).map some := by
    rw [List.map_map, List.map_map]
    apply List.map_congr_left
    intro p _
    exact asKey_keyD _
  rw [e] at h
  exact List.Pairwise.of_map some (fun a b z e => z (congrArg some e)) h
theorem disp_core {t : List (ME × ME)} {σ : Stt} {Q : VK} (ok : G.Ok) {L : Loc} {P : List (D × D) → Sto → Prop} (rl : RepL G H M L σ) (rs : RepS G H M S) (h : Fin (pairsF t L S) P (fun _ _ => False)) (hk : ∀ ps S', P ps S' → keysOk (ps.map (·.1)) = true)
    (hf : ∀ Hc N D0 ps kvs S', H D0 = none → (¬ M.has D0) → (∀ q ∈ M.p, q.1 ≠ D0) → Step H M Hc (M.app N) → RepS G Hc ((M.app N).hot D0 (.dK kvs)) S' → ps.map (·.1) = kvs.map (fun q => keyD q.1) → Reps G Hc ((M.app N).hot D0 (.dK kvs)) (ps.map (·.2)) (kvs.map (·.2)) → P ps S' → Q (.ref D0) Hc) : tDisp (trsOf G W t) σ H Q := by
  intro D0 hD
  have hD1 : ¬ M.has D0 := rs.fresh hD
  have hDp : ∀ q ∈ M.p, q.1 ≠ D0 := fun q hq e => by
    have := rs.pz q hq
    rw [e, hD] at this
    cases this
  have start0 : Step H M (upd H D0 (.dK [])) (M.app []) := by
    rw [Mem.app_nil]
    exact Step.new hD
  have startT := hot_tr (u := .dK []) start0 hD
  have startS : RepS G (upd H D0 (.dK [])) ((M.app []).hot D0 (.dK [])) S := by
    rw [Mem.app_nil] at startT ⊢
    refine rs.to startT rfl (fun a o _ h => by rw [upd_ne (ne_of_none h hD)]; exact h) (fun a ha e => ?_) (fun a ha => ?_) (fun q hq => ?_) (fun q hq => ?_)
    · rcases List.mem_cons.mp ha with z | z
      · rw [z, upd_same] at e
        cases e
      · exact rs.hz a z (dom_up e)
    · rcases List.mem_cons.mp ha with z | z
      · rw [z]
        exact fun y => hD1 (.inl y)
      · exact rs.dj a z
    · rcases List.mem_cons.mp hq with z | z
      · rw [z]
        exact upd_same
      · rw [upd_ne (hDp q z)]
        exact rs.pz q z
    · rcases List.mem_cons.mp hq with z | z
      · rw [z]
        exact fun y => hD1 (.inl y)
      · exact rs.pj q z
  refine pairs_imp hD t _ [] S P _ start0 startS (rl.tr startT) h fun Hd N' S' ps vs z1 z2 z3 z4 z5 z6 => ?_
  have hko := hk ps S' z6
  unfold keysOk at hko
  rw [Bool.and_eq_true_iff, Bool.and_eq_true_iff] at hko
  obtain ⟨⟨k1, k2⟩, k3⟩ := hko
  obtain ⟨kvs, e1, e2⟩ := keys_of ok z3 k1
  refine ⟨z2.pz (D0, .dK []) List.mem_cons_self, kvs, e1, ?_, ?_⟩
  · have := of_decide_eq_true k3
    rw [e2] at this
    simpa using this
  · have nd : (kvs.map (·.1)).Nodup := nodup_keys (by rw [← e2]; exact of_decide_eq_true k2)
    rw [merge_nodup kvs [] (by simpa using nd)]
    have e3 : vs.map (·.2) = kvs.map (·.2) := by rw [e1, List.map_map]; rfl
    rw [e3] at z4
    exact hf (upd Hd D0 (.dK kvs)) N' D0 ps kvs S' hD hD1 hDp (hot_write (acc' := []) z1 hD) (rehot_S z2 hDp) e2 (Reps.tr rehot_tr _ _ z4) z6
theorem fin_if {α : Type} {c : Prop} [Decidable c] {r : Out α} {P : α → Sto → Prop} {E : EV → Sto → Prop} (h : Fin (if c then r else .stuck) P E) : c ∧ Fin r P E := by
  by_cases hc : c
  · rw [if_pos hc] at h
    exact ⟨hc, h⟩
  · rw [if_neg hc] at h
    exact h.elim
theorem pairsF_noX {t : List (ME × ME)} : ∀ {L : Loc} {S : Sto} {e : EV} {S' : Sto}, pairsF t L S ≠ .exc e S' := by
  induction t with
  | nil => intro L S e S' h; cases h
  | cons q t ih =>
    obtain ⟨a, b⟩ := q
    intro L S e S' h
    have h : ((dry (a L S)).bind fun k S1 => (dry (b L S1)).bind fun v S2 => (pairsF t L S2).bind fun ps S3 => Out.ok ((k, v) :: ps) S3) = .exc e S' := h
    cases q1 : a L S with
    | ok k S1 =>
      rw [q1] at h
      simp only [dry_ok, bind_ok] at h
      cases q2 : b L S1 with
      | ok v S2 =>
        rw [q2] at h
        simp only [dry_ok, bind_ok] at h
        cases q3 : pairsF t L S2 with
        | ok ps S3 => rw [q3] at h; cases h
        | exc x S3 => exact ih q3
        | stuck => rw [q3] at h; cases h
      | exc x S2 => rw [q2] at h; cases h
      | stuck => rw [q2] at h; cases h
    | exc x S2 => rw [q1] at h; cases h
    | stuck => rw [q1] at h; cases h
theorem disp_pure (ok : G.Ok) {t : List (ME × ME)} {σ : Stt} {Q : VK} (h : tE G W (mDisp t) σ H Q) : tDisp (trsOf G W t) σ H Q := by
  obtain ⟨L, S, M, rl, rs, h⟩ := h
  have h := fin_noX (E' := fun _ _ => False) (fun e S' => pairsF_noX) (fin_bind h)
  refine disp_core ok rl rs h (fun ps S' z => (fin_if z).1) fun Hc N D0 ps kvs S' hD hD1 hDp st rs' e r z => ?_
  refine (fin_if z).2 _ _ (M.app N) st (cool_S rs') (.dctK ?_ (.inl (rs'.pz (D0, .dK kvs) List.mem_cons_self)) e (Reps.tr cool_tr _ _ r))
  rintro (z | z)
  · exact rs'.dj D0 List.mem_cons_self z
  · exact hD1 (.inr z)
theorem disp_cell (ok : G.Ok) {t : List (ME × ME)} {σ : Stt} {Q : VK} (h : tE G W (mDispC t) σ H Q) : tDisp (trsOf G W t) σ H Q := by
  obtain ⟨L, S, M, rl, rs, h⟩ := h
  have h := fin_noX (E' := fun _ _ => False) (fun e S' => pairsF_noX) (fin_bind h)
  refine disp_core ok rl rs h (fun ps S' z => (fin_if z).1) fun Hc N D0 ps kvs S' hD hD1 hDp st2 rs2 e r z => ?_
  obtain ⟨N1, e1, h1⟩ := id st2.pre
  have e1 : N = N1 := List.append_cancel_left (congrArg Mem.c e1)
  have st3 : Step H M Hc ((M.app N).app [D0]) := ⟨st2.ext, st2.raw, st2.dom, N ++ [D0], by rw [Mem.app_app], fun b hb => by
    rcases List.mem_append.mp hb with z | z
    · exact h1 b (by rw [← e1]; exact z)
    · rw [List.mem_singleton.mp z]; exact hD⟩
  refine (fin_if z).2 _ _ ((M.app N).app [D0]) st3 (cell_S rs2 (fun z => hD1 (.inr z)) hDp (.dctK e (Reps.tr cell_tr _ _ r))) (.loc ?_)
  show ((M.app N).c ++ [D0])[S'.length]? = some D0
  have hl : (M.app N).c.length = S'.length := rs2.len
  rw [List.getElem?_append_right (by rw [hl]; exact Nat.le_refl _), hl, Nat.sub_self]
  rfl
theorem e_disp (ok : G.Ok) {keys : List (Option Expr)} {values : List Expr} {t : List (ME × ME)} (h : PPs X pos keys values (trsOf G W t)) (hall : keys.all (·.isSome) = true) (hl : keys.length = values.length) (h0 : keys ≠ []) (h15 : keys.length ≤ 15) : PE X (.Dict keys values pos) (tE G W (mDisp t)) :=
  pe_imp (pe_disp h hall hl h0 h15) fun _ _ _ h => disp_pure ok h
theorem e_dispC (ok : G.Ok) {keys : List (Option Expr)} {values : List Expr} {t : List (ME × ME)} (h : PPs X pos keys values (trsOf G W t)) (hall : keys.all (·.isSome) = true) (hl : keys.length = values.length) (h0 : keys ≠ []) (h15 : keys.length ≤ 15) : PE X (.Dict keys values pos) (tE G W (mDispC t)) :=
  pe_imp (pe_disp h hall hl h0 h15) fun _ _ _ h => disp_cell ok h
theorem ps_nilD : PPs X pos [] [] (trsOf G W []) := pps_nil
theorem ps_consD {k v : Expr} {ks : List (Option Expr)} {vs : List Expr} {t : List (ME × ME)} (ha : PE X k (tE G W ma)) (hb : PE X v (tE G W mb)) (hr : PPs X pos ks vs (trsOf G W t)) : PPs X pos (some k :: ks) (v :: vs) (trsOf G W ((ma, mb) :: t)) := pps_cons ha hb hr
def mDct0 : ME := fun _ S => .ok (.dct [] []) S
theorem e_dct0 : PE X (.Dict [] [] pos) (tE G W mDct0) := pe_imp pe_dnewK fun σ H Q ⟨L, S, M, rl, rs, h⟩ p hp => by
  have sn := Step.new (M := M) (o := .dK []) hp
  exact h _ _ M sn (rs.new hp) (.dctK (rs.fresh hp) (.inl upd_same) rfl .nil)
end
end MM
set_option linter.all false
set_option maxRecDepth 100000
set_option maxHeartbeats 2000000
namespace MM
open PySem PySem.Spec PyProof.Rows L2
/-! ## slices -/
def cutL {α : Type} (xs : List α) (lo hi : Option Int) : List α := (xs.drop (HT.sIx xs.length 0 lo)).take (HT.sIx xs.length xs.length hi - HT.sIx xs.length 0 lo)
abbrev FB := List D → Sto → Out D
def CallM (G : Gam) (f : FB) (r : List V → Hp → VK → Prop) : Prop := ∀ ds vs H M S Q, Reps G H M ds vs → RepS G H M S → Fin (f ds S) (PostV G H M Q) (fun _ _ => False) → r vs H Q
def mB (f : FB) (a : MA) : ME := fun L S => (a L S).bind fun ds S1 => dry (f ds S1)
def orB (f g : FB) : FB := fun ds S => match f ds S with
  | .stuck => g ds S
  | r => r
section
variable {X : Cx} {G : Gam} {W : WX} {e a b o : Expr} {es : List Expr} {pos p apos cpos p2 p3 : Pos} {H : Hp} {M : Mem} {S : Sto} {ma mb : ME} {d : D} {v : V} {m : MA} {f g : FB} {x : Str} {r r' : List V → Hp → VK → Prop}
theorem Reps.drop {xs : List D} {vs : List V} (r : Reps G H M xs vs) : ∀ n, Reps G H M (xs.drop n) (vs.drop n) := by
  induction xs generalizing vs with
  | nil => intro n; cases r; simp; exact .nil
  | cons x xs ih =>
    intro n
    cases r with
    | cons r1 r2 =>
      cases n with
      | zero => exact .cons r1 r2
      | succ n => exact ih r2 n
theorem Reps.take {xs : List D} {vs : List V} (r : Reps G H M xs vs) : ∀ n, Reps G H M (xs.take n) (vs.take n) := by
  induction xs generalizing vs with
  | nil => intro n; cases r; simp; exact .nil
  | cons x xs ih =>
    intro n
    cases r with
    | cons r1 r2 =>
      cases n with
      | zero => exact .nil
      | succ n => exact .cons r1 (ih r2 n)
theorem Reps.cut {xs : List D} {vs : List V} (r : Reps G H M xs vs) (lo hi : Option Int) : Reps G H M (cutL xs lo hi) (cutV vs lo hi) := by
  unfold cutL cutV
  rw [← r.length]
  exact (r.drop _).take _
theorem Reps.reverse {xs : List D} {vs : List V} (r : Reps G H M xs vs) : Reps G H M xs.reverse vs.reverse := by
  induction xs generalizing vs with
  | nil => cases r; exact .nil
  | cons x xs ih =>
    cases r with
    | cons r1 r2 =>
      rw [List.reverse_cons, List.reverse_cons]
      exact (ih r2).app (.cons r1 .nil)
def oSl (d : D) (lo hi : Option Int) (S : Sto) : Out D := match asLst S d with
  | some xs => .ok (.lst (cutL xs lo hi)) S
  | none => match d with
    | .tup xs => .ok (.tup (cutL xs lo hi)) S
    | .str z => if z.length ≤ lim then .ok (.str (cutS z lo hi)) S else .stuck
    | .scr is => .ok (.lst ((cutL is lo hi).map .int)) S
    | _ => .stuck
def oSlC (d : D) (lo hi : Option Int) (S : Sto) : Out D := match asLst S d with
  | some xs => .ok (.loc S.length) (S ++ [.lst (cutL xs lo hi)])
  | none => .stuck
def mPart (a : ME) (L : Loc) (S : Sto) : Out (Option Int) := (a L S).bind fun d S1 => match asInt d with
  | some i => .ok (some i) S1
  | none => .stuck
abbrev MO := Loc → Sto → Out (Option Int)
def mNo : MO := fun _ S => .ok none S
def mSome (a : ME) : MO := fun L S => mPart a L S
def mSl (f : D → Option Int → Option Int → Sto → Out D) (a : ME) (lo hi : MO) : ME := fun L S => (a L S).bind fun d S1 => (lo L S1).bind fun i S2 => (hi L S2).bind fun j S3 => dry (f d i j S3)
def tO (G : Gam) (W : WX) (m : MO) : TO := fun σ H Q => ∃ L S M, RepL G H M L σ ∧ RepS G H M S ∧ Fin (m L S) (fun i S' => ∀ H' M', Step H M H' M' → RepS G H' M' S' → Q i H') (PostX G H M fun c d H' => W c d σ H')
theorem po_imp {e : Option Expr} {t t' : TO} (h : PO X e t) (hi : ∀ σ H Q, t' σ H Q → t σ H Q) : PO X e t' := ⟨fun pins s σ H Q I hw => h.run pins s σ H Q I (hi _ _ _ hw)⟩
theorem o_none : PO X none (tO G W mNo) := po_imp po_none fun σ H Q ⟨L, S, M, rl, rs, h⟩ => h H M (Step.refl H M) rs
theorem o_some (ok : G.Ok) (ha : PE X a (tE G W ma)) : PO X (some a) (tO G W (mSome ma)) := po_imp (po_some ha) fun σ H Q ⟨L, S, M, rl, rs, h⟩ => by
  refine then_e rl rs h (fun _ _ z => z) fun x H1 M1 d S1 st rs1 rp rl1 h1 => ?_
  split at h1
  · rename_i i hi
    exact ⟨i, asInt_rep ok rp hi, h1 H1 M1 st rs1⟩
  · exact h1.elim
abbrev rSlX3 (K : PySem.W.Frag) : V → Option Int → Option Int → Hp → VK → Prop := fun x lo hi H Q => rSlL K x lo hi H Q ∨ (rSlA K x lo hi H Q ∨ rSlS x lo hi H Q)
theorem sl_any : SlR X (rSlX3 X.K) := SlR.or sl_list (SlR.or sl_tupA sl_str)
def SlM (G : Gam) (f : D → Option Int → Option Int → Sto → Out D) (r : V → Option Int → Option Int → Hp → VK → Prop) : Prop := ∀ x xv i j H M S Q, Rep G H M x xv → RepS G H M S → Fin (f x i j S) (PostV G H M Q) (fun _ _ => False) → r xv i j H Q
theorem sIx_zero_all {n : Nat} {lo hi : Option Int} (h : HT.sIx n 0 lo = 0 ∧ HT.sIx n n hi = n) {α : Type} {xs : List α} (e : xs.length = n) : cutL xs lo hi = xs := by
  unfold cutL
  rw [e, h.1, h.2, List.drop_zero, Nat.sub_zero, ← e, List.take_length]
theorem oSl_ok (ok : G.Ok) : SlM G oSl (rSlX3 G.K) := by
  intro x xv lo hi H M S Q rx rs h
  unfold oSl at h
  split at h
  · rename_i xs hx
    obtain ⟨a, vs, e, h1, h2⟩ := asLst_rep ok rs rx hx
    exact .inl ⟨a, vs, e, .of h1, end_lst rs h (h2.cut _ _)⟩
  · split at h
    · rename_i xs _
      obtain ⟨a, vs, e, h1, h2, h3⟩ := rx.tup_inv2 ok
      subst e
      refine .inr (.inl ⟨a, vs, rfl, h1, fun z => ?_, fun z => end_tup rs h (h2.cut _ _)⟩)
      rw [sIx_zero_all z h2.length] at h
      exact end_v rs h rx
    · rename_i z _
      split at h
      · rename_i hl
        exact .inr (.inr ⟨z, rx.str_inv ok, lim_ok hl, end_v rs h (.str _)⟩)
      · exact h.elim
    · rename_i is _
      cases rx with
      | @scr a _ na ha =>
        refine .inl ⟨a, _, rfl, .inl ha, ?_⟩
        have r := (reps_ints (G := G) (H := H) (M := M) is).cut lo hi
        have e : cutL (is.map D.int) lo hi = (cutL is lo hi).map .int := by
          unfold cutL
          simp
        rw [e] at r
        exact end_lst rs h r
      | @scrK a _ hk =>
        refine .inl ⟨a, _, rfl, .inr hk, ?_⟩
        have r := (reps_ints (G := G) (H := H) (M := M) is).cut lo hi
        have e : cutL (is.map D.int) lo hi = (cutL is lo hi).map .int := by
          unfold cutL
          simp
        rw [e] at r
        exact end_lst rs h r
      | ext hx => exact (ok.ext _ _ _ _ hx).elim
    · exact h.elim
theorem oSlC_ok (ok : G.Ok) : SlM G oSlC (rSlX3 G.K) := by
  intro x xv lo hi H M S Q rx rs h
  unfold oSlC at h
  split at h
  · rename_i xs hx
    obtain ⟨a, vs, e, h1, h2⟩ := asLst_rep ok rs rx hx
    exact .inl ⟨a, vs, e, .of h1, end_cell rs h (h2.cut _ _)⟩
  · exact h.elim
theorem e_sl {f : D → Option Int → Option Int → Sto → Out D} (hK : G.K = X.K) (hf : SlM G f (rSlX3 G.K)) {lo hi : Option Expr} {ml mh : MO} (ha : PE X a (tE G W ma)) (hl : PO X lo (tO G W ml)) (hh : PO X hi (tO G W mh)) : PE X (.Subscript a (.Slice lo hi none p2) pos) (tE G W (mSl f ma ml mh)) := pe_imp (pe_slice sl_any ha hl hh) fun σ H Q ⟨L, S, M, rl, rs, h⟩ => by
  refine then_e rl rs h (fun _ _ z => z) fun x H1 M1 d S1 st rs1 rp rl1 h1 => ?_
  refine ⟨L, S1, M1, rl1, rs1, Fin.mono (fin_bind h1) (fun i S2 h2 => ?_) (fun e S' z => PostX.step st e S' z)⟩
  intro H2 M2 st2 rs2
  refine ⟨L, S2, M2, rl1.mono st2, rs2, Fin.mono (fin_bind h2) (fun j S3 h3 => ?_) (fun e S' z => PostX.step (st.trans st2) e S' z)⟩
  intro H3 M3 st3 rs3
  rw [← hK]
  exact hf _ _ _ _ _ M3 S3 _ (Rep.mono (st2.trans st3) _ _ rp) rs3 (fin_dry (h3.mono (fun d S' z => PostV.step ((st.trans st2).trans st3) d S' z) (fun _ _ z => z)))
def mRev (a : ME) : ME := fun L S => (a L S).bind fun d S1 => match asLst S1 d with
  | some xs => .ok (.lst xs.reverse) S1
  | none => .stuck
theorem e_rev (ok : G.Ok) {p1 : Pos} {kk} (ha : PE X e (tE G W ma)) : PE X (.Subscript e (.Slice none none (some (.UnaryOp .USub (.Constant (.int 1) kk p1) p2)) p3) pos) (tE G W (mRev ma)) := pe_imp (pe_revL ha) fun σ H Q ⟨L, S, M, rl, rs, h⟩ => by
  refine then_e rl rs h (fun _ _ z => z) fun x H1 M1 d S1 st rs1 rp rl1 h1 => ?_
  split at h1
  · rename_i xs hx
    obtain ⟨a, vs, e, h2, h3⟩ := asLst_rep ok rs1 rp hx
    exact ⟨a, vs, e, .of h2, end_lst rs1 (fun v H' M' s => h1 v H' M' (st.trans s)) h3.reverse⟩
  · exact h1.elim
/-! ## built-in functions -/
theorem b_imp (hf : CallM G f r) {σ : Stt} {Q : VK} (h : tE G W (mB f m) σ H Q) : tCB r (tA G W m) σ H Q := by
  obtain ⟨L, S, M, rl, rs, h⟩ := h
  refine then_a rl rs h (fun _ _ z => z) fun vs H1 M1 ds S1 st rs1 rps rl1 h1 => ?_
  exact hf _ _ _ M1 S1 _ rps rs1 (fin_dry (h1.mono (fun d S z => PostV.step st d S z) (fun _ _ z => z)))
theorem e_callB {id : String} (hc : CallR X (.builtin id) r) (hf : CallM G f r) (hg : Gl X x) (hm : X.mg x = none) (hv : bootBuiltins x = some (.builtin id)) (ha : PA X (e :: es) (tA G W m)) (hn : x ≠ ("__name__" : Str) := by decide) (hdb : (x == ("__debug__" : Str)) = false := by decide)
    (hst : starEach (e :: es) X.env = (false, eval e X.env) :: starEach es X.env := by rfl) (hpl : (backTo pos (starEach es X.env)).any (·.1) = false := by rfl) : PE X (.Call (.Name x p) (e :: es) [] pos) (tE G W (mB f m)) := pe_imp (pe_callB hc hg hm hv ha hn hdb hst hpl) fun _ _ _ h => b_imp hf h
theorem e_callTy {T : String} (hc : CallR X (.type T) r) (hf : CallM G f r) (hg : Gl X x) (hm : X.mg x = none) (hv : bootBuiltins x = some (.type T)) (ha : PA X (e :: es) (tA G W m)) (hn : x ≠ ("__name__" : Str) := by decide) (hdb : (x == ("__debug__" : Str)) = false := by decide)
    (hst : starEach (e :: es) X.env = (false, eval e X.env) :: starEach es X.env := by rfl) (hpl : (backTo pos (starEach es X.env)).any (·.1) = false := by rfl) : PE X (.Call (.Name x p) (e :: es) [] pos) (tE G W (mB f m)) := pe_imp (pe_callTy hc hg hm hv ha hn hdb hst hpl) fun _ _ _ h => b_imp hf h
theorem orB_ok (hf : CallM G f r) (hg : CallM G g r') : CallM G (orB f g) (fun vs H Q => r vs H Q ∨ r' vs H Q) := by
  intro ds vs H M S Q rx rs h
  unfold orB at h
  cases q : f ds S with
  | stuck => rw [q] at h; exact .inr (hg _ _ _ _ _ _ rx rs h)
  | ok d S' => rw [q] at h; exact .inl (hf _ _ _ _ _ _ rx rs (by rw [q]; exact h))
  | exc e S' => rw [q] at h; exact h.elim
/-- a function of one, of two values -/
def fn1 (k : D → Sto → Out D) : FB := fun ds S => match ds with
  | [d] => k d S
  | _ => .stuck
def fn2 (k : D → D → Sto → Out D) : FB := fun ds S => match ds with
  | [d, e] => k d e S
  | _ => .stuck
theorem fn1_ok {k : D → Sto → Out D} (h : ∀ d v H M S Q, Rep G H M d v → RepS G H M S → Fin (k d S) (PostV G H M Q) (fun _ _ => False) → r [v] H Q) : CallM G (fn1 k) r := by
  intro ds vs H M S Q rx rs hh
  unfold fn1 at hh
  split at hh
  · cases rx with
    | cons r1 r2 =>
      cases r2
      exact h _ _ _ _ _ _ r1 rs hh
  · exact hh.elim
theorem fn2_ok {k : D → D → Sto → Out D} (h : ∀ d v e w H M S Q, Rep G H M d v → Rep G H M e w → RepS G H M S → Fin (k d e S) (PostV G H M Q) (fun _ _ => False) → r [v, w] H Q) : CallM G (fn2 k) r := by
  intro ds vs H M S Q rx rs hh
  unfold fn2 at hh
  split at hh
  · cases rx with
    | cons r1 r2 =>
      cases r2 with
      | cons r3 r4 =>
        cases r4
        exact h _ _ _ _ _ _ _ _ r1 r3 rs hh
  · exact hh.elim
/-! ### len -/
def lenS (d : D) (S : Sto) : Out D := match seqD S d with
  | some xs => .ok (.int xs.length) S
  | none => match d with
    | .scr is => .ok (.int is.length) S
    | _ => .stuck
def lenT (d : D) (S : Sto) : Out D := match asStr d with
  | some z => if z.length ≤ lim then .ok (.int z.length) S else .stuck
  | none => .stuck
def bLen : FB := orB (fn1 lenS) (fn1 lenT)
abbrev rLenA (K : PySem.W.Frag) : List V → Hp → VK → Prop := fun vs H Q => (∃ p ys, vs = [.ref p] ∧ (SqL K H p ys ∨ SqT K H p ys) ∧ Q (.int ys.length) H) ∨ ∃ z, vs = [.str z] ∧ z.length ≤ sizeLine ∧ Q (.int z.length) H
theorem call_lenA : CallR X (.builtin "len") (rLenA X.K) := CallR.or call_len_seq call_len_str
theorem bLen_ok (ok : G.Ok) : CallM G bLen (rLenA G.K) := orB_ok (fn1_ok fun d v H M S Q rx rs h => by
  unfold lenS at h
  split at h
  · rename_i xs hx
    obtain ⟨a, vs, e, h1, h2⟩ := seqD_ok ok rs rx hx
    subst e
    exact ⟨a, vs, rfl, h1.symm, by rw [← h2.length]; exact end_v rs h (.int _)⟩
  · split at h
    · rename_i is _
      cases rx with
      | @scr a _ na ha =>
        refine ⟨a, _, rfl, .inl (.inl ha), ?_⟩
        rw [List.length_map]
        exact end_v rs h (.int _)
      | @scrK a _ hk =>
        refine ⟨a, _, rfl, .inl (.inr hk), ?_⟩
        rw [List.length_map]
        exact end_v rs h (.int _)
      | ext hx => exact (ok.ext _ _ _ _ hx).elim
    · exact h.elim) (fn1_ok fun d v H M S Q rx rs h => by
  unfold lenT at h
  split at h
  · rename_i z hz
    split at h
    · rename_i hl
      exact ⟨z, by rw [asStr_rep ok rx hz], lim_ok hl, end_v rs h (.int _)⟩
    · exact h.elim
  · exact h.elim)
/-! ### numbers -/
def bAbs : FB := fn1 fun d S => match asInt d with
  | some i => .ok (.int (if i < 0 then -i else i)) S
  | none => .stuck
theorem bAbs_ok (ok : G.Ok) : CallM G bAbs (fun xs H Q => ∃ i, xs = [.int i] ∧ Q (.int (if i < 0 then -i else i)) H) := fn1_ok fun d v H M S Q rx rs h => by
  split at h
  · rename_i i hi
    exact ⟨i, by rw [asInt_rep ok rx hi], end_v rs h (.int _)⟩
  · exact h.elim
def bMax2 : FB := fn2 fun d e S => match asInt d, asInt e with
  | some i, some j => .ok (.int (if j > i then j else i)) S
  | _, _ => .stuck
def bMin2 : FB := fn2 fun d e S => match asInt d, asInt e with
  | some i, some j => .ok (.int (if j < i then j else i)) S
  | _, _ => .stuck
theorem bMax2_ok (ok : G.Ok) : CallM G bMax2 (fun xs H Q => ∃ i j, xs = [.int i, .int j] ∧ Q (.int (if j > i then j else i)) H) := fn2_ok fun d v e w H M S Q rx ry rs h => by
  split at h
  · rename_i i j hi hj
    exact ⟨i, j, by rw [asInt_rep ok rx hi, asInt_rep ok ry hj], end_v rs h (.int _)⟩
  · exact h.elim
theorem bMin2_ok (ok : G.Ok) : CallM G bMin2 (fun xs H Q => ∃ i j, xs = [.int i, .int j] ∧ Q (.int (if j < i then j else i)) H) := fn2_ok fun d v e w H M S Q rx ry rs h => by
  split at h
  · rename_i i j hi hj
    exact ⟨i, j, by rw [asInt_rep ok rx hi, asInt_rep ok ry hj], end_v rs h (.int _)⟩
  · exact h.elim
def intI : FB := fn1 fun d S => match asInt d with
  | some i => .ok (.int i) S
  | none => match asBl d with
    | some b => .ok (.int (if b then 1 else 0)) S
    | none => .stuck
def intS : FB := fn1 fun d S => match asStr d with
  | some z => match PySem.intText? z with
    | some n => if z.length ≤ 640 then .ok (.int n) S else .stuck
    | none => .stuck
  | none => .stuck
def bInt : FB := orB intI intS
abbrev rIntA : List V → Hp → VK → Prop := fun xs H Q => ((∃ i, xs = [.int i] ∧ Q (.int i) H) ∨ ∃ k, xs = [.bl k] ∧ Q (.int (if k then 1 else 0)) H) ∨ ∃ a n, xs = [.str a] ∧ PySem.intText? a = some n ∧ a.length ≤ 640 ∧ Q (.int n) H
theorem call_intA : CallR X (.type "int") rIntA := CallR.or call_int1 call_int_str
theorem bInt_ok (ok : G.Ok) : CallM G bInt rIntA := orB_ok (fn1_ok fun d v H M S Q rx rs h => by
  split at h
  · rename_i i hi
    exact .inl ⟨i, by rw [asInt_rep ok rx hi], end_v rs h (.int _)⟩
  · split at h
    · rename_i b hb
      exact .inr ⟨b, by rw [asBl_rep ok rx hb], end_v rs h (.int _)⟩
    · exact h.elim) (fn1_ok fun d v H M S Q rx rs h => by
  split at h
  · rename_i z hz
    split at h
    · rename_i n hn
      split at h
      · rename_i hl
        exact ⟨z, n, by rw [asStr_rep ok rx hz], hn, hl, end_v rs h (.int _)⟩
      · exact h.elim
    · exact h.elim
  · exact h.elim)
def strI : FB := fn1 fun d S => match asInt d with
  | some i => if i.natAbs.log2 < 1920 then .ok (.str (toString i : Str)) S else .stuck
  | none => .stuck
abbrev rStrI : List V → Hp → VK → Prop := fun xs H Q => ∃ i : Int, xs = [.int i] ∧ i.natAbs.log2 < 1920 ∧ Q (.str (toString i)) H
theorem strI_ok (ok : G.Ok) : CallM G strI rStrI := fn1_ok fun d v H M S Q rx rs h => by
  split at h
  · rename_i i hi
    split at h
    · rename_i hl
      exact ⟨i, by rw [asInt_rep ok rx hi], hl, end_v rs h (.str _)⟩
    · exact h.elim
  · exact h.elim
theorem call_strI : CallR X (.type "str") rStrI := call_str_int
/-! ### lists of one kind -/
def asInts : List D → Option (List Int)
  | [] => some []
  | d :: ds => match asInt d, asInts ds with
    | some i, some is => some (i :: is)
    | _, _ => none
def asBls : List D → Option (List Bool)
  | [] => some []
  | d :: ds => match asBl d, asBls ds with
    | some i, some is => some (i :: is)
    | _, _ => none
def asStrs : List D → Option (List Str)
  | [] => some []
  | d :: ds => match asStr d, asStrs ds with
    | some i, some is => some (i :: is)
    | _, _ => none
theorem asInts_rep (ok : G.Ok) : ∀ {ds : List D} {vs : List V} {ns : List Int}, Reps G H M ds vs → asInts ds = some ns → vs = ns.map V.int
  | [], vs, ns, r, h => by cases r; cases h; rfl
  | d :: ds, vs, ns, r, h => by
    cases r with
    | cons r1 r2 =>
      simp only [asInts] at h
      split at h
      · rename_i i is hi his
        cases h
        rw [asInt_rep ok r1 hi, asInts_rep ok r2 his]
        rfl
      · cases h
theorem asBls_rep (ok : G.Ok) : ∀ {ds : List D} {vs : List V} {ns : List Bool}, Reps G H M ds vs → asBls ds = some ns → vs = ns.map V.bl
  | [], vs, ns, r, h => by cases r; cases h; rfl
  | d :: ds, vs, ns, r, h => by
    cases r with
    | cons r1 r2 =>
      simp only [asBls] at h
      split at h
      · rename_i i is hi his
        cases h
        rw [asBl_rep ok r1 hi, asBls_rep ok r2 his]
        rfl
      · cases h
theorem asStrs_rep (ok : G.Ok) : ∀ {ds : List D} {vs : List V} {ns : List Str}, Reps G H M ds vs → asStrs ds = some ns → vs = ns.map V.str
  | [], vs, ns, r, h => by cases r; cases h; rfl
  | d :: ds, vs, ns, r, h => by
    cases r with
    | cons r1 r2 =>
      simp only [asStrs] at h
      split at h
      · rename_i i is hi his
        cases h
        rw [asStr_rep ok r1 hi, asStrs_rep ok r2 his]
        rfl
      · cases h
/-- of a list of numbers, of bools -/
def ofInts (k : List Int → Option D) : FB := fn1 fun d S => match (asLst S d).bind asInts with
  | some ns => match k ns with
    | some r => .ok r S
    | none => .stuck
  | none => .stuck
def ofBls (k : List Bool → D) : FB := fn1 fun d S => match (asLst S d).bind asBls with
  | some ns => .ok (k ns) S
  | none => .stuck
theorem ofInts_ok (ok : G.Ok) {k : List Int → Option D} {kv : List Int → V → Prop} (hk : ∀ ns d H M v, k ns = some d → kv ns v → Rep G H M d v) : CallM G (ofInts k) (fun vs H Q => ∃ (a : Addr) (ns : List Int) (d : D), vs = [V.ref a] ∧ SqL G.K H a (ns.map V.int) ∧ k ns = some d ∧ ∀ v, kv ns v → Q v H) := fn1_ok fun d v H M S Q rx rs h => by
  split at h
  · rename_i ns hns
    split at h
    · rename_i rr hr
      obtain ⟨xs, e1, e2⟩ := Option.bind_eq_some_iff.mp hns
      obtain ⟨a, vs, e, h1, h2⟩ := asLst_rep ok rs rx e1
      rw [asInts_rep ok h2 e2] at h1
      subst e
      exact ⟨a, ns, rr, rfl, .of h1, hr, fun v hv => end_v rs h (hk ns rr H M v hr hv)⟩
    · exact h.elim
  · exact h.elim
theorem callM_imp (h : CallM G f r) (hi : ∀ vs H Q, r vs H Q → r' vs H Q) : CallM G f r' := fun ds vs H M S Q rx rs q => hi _ _ _ (h ds vs H M S Q rx rs q)
def bSum : FB := ofInts fun ns => some (.int ns.sum)
theorem bSum_ok (ok : G.Ok) : CallM G bSum (rSum G.K) := callM_imp (ofInts_ok ok (kv := fun ns v => v = .int ns.sum) fun ns d H M v h e => by cases h; rw [e]; exact .int _) fun vs H Q ⟨a, ns, d, h1, h2, h3, h4⟩ => ⟨a, ns, h1, h2, h4 _ rfl⟩
def bMaxL : FB := ofInts fun ns => ns.max?.map .int
def bMinL : FB := ofInts fun ns => ns.min?.map .int
theorem bMaxL_ok (ok : G.Ok) : CallM G bMaxL (rMax G.K) := callM_imp (ofInts_ok ok (kv := fun ns v => ∃ m, ns.max? = some m ∧ v = .int m) fun ns d H M v h ⟨m, e1, e2⟩ => by rw [e1] at h; cases h; rw [e2]; exact .int _) fun vs H Q ⟨a, ns, d, h1, h2, h3, h4⟩ => by
  obtain ⟨m, hm, _⟩ := Option.map_eq_some_iff.mp h3
  refine ⟨a, ns, h1, h2, ?_, fun m' hm' hle => h4 _ ⟨m', List.max?_eq_some_iff.mpr ⟨hm', hle⟩, rfl⟩⟩
  cases ns with
  | nil => cases hm
  | cons _ _ => simp
theorem bMinL_ok (ok : G.Ok) : CallM G bMinL (rMin G.K) := callM_imp (ofInts_ok ok (kv := fun ns v => ∃ m, ns.min? = some m ∧ v = .int m) fun ns d H M v h ⟨m, e1, e2⟩ => by rw [e1] at h; cases h; rw [e2]; exact .int _) fun vs H Q ⟨a, ns, d, h1, h2, h3, h4⟩ => by
  obtain ⟨m, hm, _⟩ := Option.map_eq_some_iff.mp h3
  refine ⟨a, ns, h1, h2, ?_, fun m' hm' hle => h4 _ ⟨m', List.min?_eq_some_iff.mpr ⟨hm', hle⟩, rfl⟩⟩
  cases ns with
  | nil => cases hm
  | cons _ _ => simp
def bAll : FB := ofBls fun bs => .bl (bs.all id)
def bAny : FB := ofBls fun bs => .bl (bs.any id)
theorem ofBls_ok (ok : G.Ok) {k : List Bool → Bool} : CallM G (ofBls fun bs => .bl (k bs)) (fun vs H Q => ∃ (a : Addr) (bs : List Bool), vs = [V.ref a] ∧ SqL G.K H a (bs.map V.bl) ∧ Q (.bl (k bs)) H) := fn1_ok fun d v H M S Q rx rs h => by
  split at h
  · rename_i ns hns
    obtain ⟨xs, e1, e2⟩ := Option.bind_eq_some_iff.mp hns
    obtain ⟨a, vs, e, h1, h2⟩ := asLst_rep ok rs rx e1
    rw [asBls_rep ok h2 e2] at h1
    subst e
    exact ⟨a, ns, rfl, .of h1, end_v rs h (.bl _)⟩
  · exact h.elim
theorem bAll_ok (ok : G.Ok) : CallM G bAll (rAll G.K) := ofBls_ok ok
theorem bAny_ok (ok : G.Ok) : CallM G bAny (rAny G.K) := ofBls_ok ok
def bMax : FB := orB bMax2 bMaxL
def bMin : FB := orB bMin2 bMinL
theorem bMax_ok (ok : G.Ok) : CallM G bMax (fun xs H Q => (∃ i j, xs = [.int i, .int j] ∧ Q (.int (if j > i then j else i)) H) ∨ rMax G.K xs H Q) := orB_ok (bMax2_ok ok) (bMaxL_ok ok)
theorem bMin_ok (ok : G.Ok) : CallM G bMin (fun xs H Q => (∃ i j, xs = [.int i, .int j] ∧ Q (.int (if j < i then j else i)) H) ∨ rMin G.K xs H Q) := orB_ok (bMin2_ok ok) (bMinL_ok ok)
theorem call_maxA (hc : X.calm = true) : CallR X (.builtin "max") (fun xs H Q => (∃ i j, xs = [.int i, .int j] ∧ Q (.int (if j > i then j else i)) H) ∨ rMax X.K xs H Q) := CallR.or (call_max2 hc) (cr_max hc)
theorem call_minA (hc : X.calm = true) : CallR X (.builtin "min") (fun xs H Q => (∃ i j, xs = [.int i, .int j] ∧ Q (.int (if j < i then j else i)) H) ∨ rMin X.K xs H Q) := CallR.or (call_min2 hc) (cr_min hc)
/-! ### tuple(..), list(..) -/
def bTuple : FB := fn1 fun d S => match asLst S d with
  | some xs => .ok (.tup xs) S
  | none => match d with
    | .tup xs => .ok (.tup xs) S
    | _ => .stuck
theorem bTuple_ok (ok : G.Ok) : CallM G bTuple (fun xs H Q => ∃ p ys, xs = [.ref p] ∧ ((SqL G.K H p ys ∧ ∀ l, H l = none → Q (.ref l) (upd H l (.tup ys))) ∨ (SqT G.K H p ys ∧ Q (.ref p) H))) := fn1_ok fun d v H M S Q rx rs h => by
  split at h
  · rename_i xs hx
    obtain ⟨a, vs, e, h1, h2⟩ := asLst_rep ok rs rx hx
    subst e
    exact ⟨a, vs, rfl, .inl ⟨.of h1, end_tup rs h h2⟩⟩
  · split at h
    · obtain ⟨a, vs, e, h1, h2⟩ := rx.tup_inv ok
      subst e
      exact ⟨a, vs, rfl, .inr ⟨h1, end_v rs h rx⟩⟩
    · exact h.elim
def bList : FB := fn1 fun d S => match seqD S d with
  | some xs => .ok (.lst xs) S
  | none => .stuck
def bListC : FB := fn1 fun d S => match seqD S d with
  | some xs => .ok (.loc S.length) (S ++ [.lst xs])
  | none => .stuck
theorem bList_ok (ok : G.Ok) : CallM G bList (fun xs H Q => ∃ p ys, xs = [.ref p] ∧ (SqL G.K H p ys ∨ SqT G.K H p ys) ∧ ∀ l, H l = none → Q (.ref l) (upd H l (.lst ys))) := fn1_ok fun d v H M S Q rx rs h => by
  split at h
  · rename_i xs hx
    obtain ⟨a, vs, e, h1, h2⟩ := seqD_ok ok rs rx hx
    subst e
    exact ⟨a, vs, rfl, h1.symm, end_lst rs h h2⟩
  · exact h.elim
theorem bListC_ok (ok : G.Ok) : CallM G bListC (fun xs H Q => ∃ p ys, xs = [.ref p] ∧ (SqL G.K H p ys ∨ SqT G.K H p ys) ∧ ∀ l, H l = none → Q (.ref l) (upd H l (.lst ys))) := fn1_ok fun d v H M S Q rx rs h => by
  split at h
  · rename_i xs hx
    obtain ⟨a, vs, e, h1, h2⟩ := seqD_ok ok rs rx hx
    subst e
    exact ⟨a, vs, rfl, h1.symm, end_cell rs h h2⟩
  · exact h.elim
end
end MM
set_option linter.all false
set_option maxRecDepth 100000
set_option maxHeartbeats 2000000
namespace MM
open PySem PySem.Spec PyProof.Rows L2
abbrev FT := D → List D → Sto → Out D
def MethM (G : Gam) (f : FT) (r : V → List V → Hp → VK → Prop) : Prop := ∀ d v ds vs H M S Q, Rep G H M d v → Reps G H M ds vs → RepS G H M S → Fin (f d ds S) (PostV G H M Q) (fun _ _ => False) → r v vs H Q
/-- a value of this built-in kind -/
def tyB (T : String) (S : Sto) (d : D) : Bool := if T = "list" then (asLst S d).isSome else if T = "str" then (asStr d).isSome else false
def mBM (T : String) (f : FT) (o : ME) (a : MA) : ME := fun L S => (o L S).bind fun d S1 => if tyB T S1 d = true then (a L S1).bind fun ds S2 => dry (f d ds S2) else .stuck
section
variable {X : Cx} {G : Gam} {W : WX} {e a b o : Expr} {es : List Expr} {pos p apos cpos p2 p3 : Pos} {H : Hp} {M : Mem} {S : Sto} {ma mb mo : ME} {d : D} {v : V} {m : MA} {f g : FT} {x name : Str} {T id : String} {r r' : V → List V → Hp → VK → Prop}
theorem tyB_ok (ok : G.Ok) (rs : RepS G H M S) (rp : Rep G H M d v) (h : tyB T S d = true) : tyV G.K T v H := by
  unfold tyB at h
  split at h
  · rename_i e
    subst e
    obtain ⟨xs, hx⟩ := Option.isSome_iff_exists.mp h
    obtain ⟨a, vs, e, h1, h2⟩ := asLst_rep ok rs rp hx
    subst e
    exact .inl ⟨rfl, _, .of h1⟩
  · split at h
    · rename_i e
      subst e
      obtain ⟨xs, hx⟩ := Option.isSome_iff_exists.mp h
      rw [asStr_rep ok rp hx]
      exact rfl
    · cases h
theorem bm_imp (ok : G.Ok) (hf : MethM G f r) {σ : Stt} {Q : VK} (h : tE G W (mBM T f mo m) σ H Q) : tBM G.K T r (tE G W mo) (tA G W m) σ H Q := by
  obtain ⟨L, S, M, rl, rs, h⟩ := h
  refine then_e rl rs h (fun _ _ z => z) fun v H1 M1 d S1 st rs1 rp rl1 h1 => ?_
  obtain ⟨ht, h1⟩ := fin_if h1
  refine ⟨tyB_ok ok rs1 rp ht, then_a rl1 rs1 h1 (fun e S' z => PostX.step st e S' z) fun vs H2 M2 ds S2 st2 rs2 rps rl2 h2 => ?_⟩
  exact hf _ _ _ _ _ M2 S2 _ (Rep.mono st2 _ _ rp) rps rs2 (fin_dry (h2.mono (fun d S z => PostV.step (st.trans st2) d S z) (fun _ _ z => z)))
theorem bm0_imp (ok : G.Ok) (hf : MethM G f r) {σ : Stt} {Q : VK} (h : tE G W (mBM T f mo mNil) σ H Q) : tBM0 G.K T r (tE G W mo) σ H Q := by
  obtain ⟨L, S, M, rl, rs, h⟩ := h
  refine then_e rl rs h (fun _ _ z => z) fun v H1 M1 d S1 st rs1 rp rl1 h1 => ?_
  obtain ⟨ht, h1⟩ := fin_if h1
  exact ⟨tyB_ok ok rs1 rp ht, hf _ _ _ _ _ M1 S1 _ rp .nil rs1 (fin_dry (Fin.mono h1 (fun d S z => PostV.step st d S z) (fun _ _ z => z)))⟩
theorem e_bm (ok : G.Ok) (hK : G.K = X.K) (pa : PlainAttrs T) (sl : Slot T name id) (hty : typeOf (.builtin id) = pure (.type "method_descriptor")) (hm : MtR X id r) (hf : MethM G f r) (ho : PE X o (tE G W mo)) (ha : PA X (e :: es) (tA G W m)) (hb : attributeBase o name X.env (eval o X.env) = eval o X.env := by rfl)
    (hfew : (((backTo cpos (starEach (e :: es) X.env)).all fun x => !x.1) && ((backToKw cpos (keywordEach [] X.env)).all fun x => x.1.isSome) && decide (((e :: es).length + ([] : List Keyword).length + if ([] : List Keyword).isEmpty = true then 0 else 1) < 30)) = true := by rfl)
    (hline : (apos.endLine == cpos.line) = true := by rfl) (hst : starEach (e :: es) X.env = (false, eval e X.env) :: starEach es X.env := by rfl) (hpl : (backTo cpos (starEach es X.env)).any (·.1) = false := by rfl) :
    PE X (.Call (.Attribute o name apos) (e :: es) [] cpos) (tE G W (mBM T f mo m)) := pe_imp (pe_bm pa sl hty hm ho ha hb hfew hline hst hpl) fun _ _ _ h => by rw [← hK]; exact bm_imp ok hf h
theorem e_bm0 (ok : G.Ok) (hK : G.K = X.K) (pa : PlainAttrs T) (sl : Slot T name id) (hty : typeOf (.builtin id) = pure (.type "method_descriptor")) (hm : MtR X id r) (hf : MethM G f r) (ho : PE X o (tE G W mo)) (hb : attributeBase o name X.env (eval o X.env) = eval o X.env := by rfl)
    (hline : (apos.endLine == cpos.line) = true := by rfl) : PE X (.Call (.Attribute o name apos) [] [] cpos) (tE G W (mBM T f mo mNil)) := pe_imp (pe_bm0 pa sl hty hm ho hb hline) fun _ _ _ h => by rw [← hK]; exact bm0_imp ok hf h
/-- a cell that is a list -/
def cellL (S : Sto) (d : D) : Option (Nat × List D) := match d with
  | .loc n => match S[n]? with
    | some (.lst xs) => some (n, xs)
    | _ => none
  | _ => none
theorem cellL_ok (ok : G.Ok) {n : Nat} {xs : List D} (rs : RepS G H M S) (rp : Rep G H M d v) (h : cellL S d = some (n, xs)) : ∃ a vs, v = .ref a ∧ M.c[n]? = some a ∧ H a = some (.lst vs) ∧ Reps G H M xs vs := by
  cases d with
  | loc k =>
    simp only [cellL] at h
    split at h
    · rename_i ys q
      cases h
      obtain ⟨a, e, hm⟩ := rp.loc_inv ok
      obtain ⟨o, h1, h2⟩ := rs.get hm q
      cases h2 with
      | lst h3 => exact ⟨a, _, e, hm, h1, h3⟩
    · cases h
  | _ => cases h
theorem end_wr {Q : VK} {n : Nat} {a : Addr} {ds : List D} {vs : List V} {d : D} {v : V} (rs : RepS G H M S) (hm : M.c[n]? = some a) (h : PostV G H M Q d (S.set n (.lst ds))) (rd : Rep G H M d v) (r : Reps G H M ds vs) : Q v (upd H a (.lst vs)) := by
  have sw := Step.wr (H := H) (M := M) (o := HO.lst vs) (.inl (List.mem_of_getElem? hm))
  exact h _ _ M sw (rs.wr hm (.lst (Reps.mono sw _ _ r))) (Rep.mono sw _ _ rd)
def tAppend : FT := fun d ds S => match cellL S d, ds with
  | some (n, xs), [y] => if xs.length < lim then .ok .non (S.set n (.lst (xs ++ [y]))) else .stuck
  | _, _ => .stuck
theorem tAppend_ok (ok : G.Ok) : MethM G tAppend rAppend := by
  intro d v ds vs H M S Q rp rps rs h
  unfold tAppend at h
  split at h
  · rename_i n xs y hc
    split at h
    · rename_i hl
      obtain ⟨a, ws, e, hm, h1, h2⟩ := cellL_ok ok rs rp hc
      cases rps with
      | @cons _ w _ _ r1 r2 =>
        cases r2
        exact ⟨a, ws, w, e, rfl, h1, by rw [← h2.length]; exact Nat.lt_of_lt_of_le hl (lim_ok (Nat.le_refl _)), end_wr rs hm h .non (h2.app (.cons r1 .nil))⟩
    · exact h.elim
  · exact h.elim
def tPop : FT := fun d ds S => match cellL S d, ds with
  | some (n, xs), [] => match xs[xs.length - 1]? with
    | some y => .ok y (S.set n (.lst xs.dropLast))
    | none => .stuck
  | some (n, xs), [.int i] => match seqIndex? i xs.length with
    | some k => match xs[k]? with
      | some y => if -(2 ^ 63) ≤ i ∧ i < 2 ^ 63 then .ok y (S.set n (.lst (xs.eraseIdx k))) else .stuck
      | none => .stuck
    | none => .stuck
  | _, _ => .stuck
theorem Reps.erase {xs : List D} {vs : List V} (r : Reps G H M xs vs) : ∀ k, Reps G H M (xs.eraseIdx k) (vs.eraseIdx k) := by
  induction xs generalizing vs with
  | nil => intro k; cases r; exact .nil
  | cons x xs ih =>
    intro k
    cases r with
    | cons r1 r2 =>
      cases k with
      | zero => exact r2
      | succ k => exact .cons r1 (ih r2 k)
theorem tPop_ok (ok : G.Ok) : MethM G tPop (fun x vs H Q => rPop x vs H Q ∨ rPopAt x vs H Q) := by
  intro d v ds vs H M S Q rp rps rs h
  unfold tPop at h
  split at h
  · rename_i n xs hc
    split at h
    · rename_i y hy
      obtain ⟨a, ws, e, hm, h1, h2⟩ := cellL_ok ok rs rp hc
      cases rps
      obtain ⟨w, hw, rw⟩ := h2.at_ hy
      refine .inl ⟨a, ws, w, e, rfl, h1, by rw [← h2.length]; exact hw, end_wr rs hm h rw ?_⟩
      rw [List.dropLast_eq_take, List.dropLast_eq_take, ← h2.length]
      exact h2.take _
    · exact h.elim
  · rename_i n xs i hc
    split at h
    · rename_i k hk
      split at h
      · rename_i y hy
        split at h
        · rename_i hi
          obtain ⟨a, ws, e, hm, h1, h2⟩ := cellL_ok ok rs rp hc
          cases rps with
          | cons r1 r2 =>
            cases r2
            obtain ⟨w, hw, rw⟩ := h2.at_ hy
            refine .inr ⟨a, ws, i, k, w, e, by rw [r1.int_inv ok], h1, hi.1, hi.2, by rw [← h2.length]; exact hk, hw, end_wr rs hm h rw (h2.erase k)⟩
        · exact h.elim
      · exact h.elim
    · exact h.elim
  · exact h.elim
theorem mt_popA : MtR X "list.pop" (fun x vs H Q => rPop x vs H Q ∨ rPopAt x vs H Q) := MtR.or mt_pop mt_popAt
def strsOf (S : Sto) (d : D) : Option (List Str) := (seqD S d).bind asStrs
def tJoin : FT := fun d ds S => match asStr d, ds with
  | some a, [x] => match strsOf S x with
    | some ys => if (ys.map (·.length)).sum + ys.length * a.length ≤ 16777216 then .ok (.str (Txt.join a ys)) S else .stuck
    | none => .stuck
  | _, _ => .stuck
abbrev rJoin (K : PySem.W.Frag) : V → List V → Hp → VK → Prop := fun x xs H Q => ∃ a p, ∃ ys : List Str, x = .str a ∧ xs = [.ref p] ∧ (SqL K H p (ys.map V.str) ∨ SqT K H p (ys.map V.str)) ∧ (ys.map (·.length)).sum + ys.length * a.length ≤ 16777216 ∧ Q (.str (Txt.join a ys)) H
theorem tJoin_ok (ok : G.Ok) : MethM G tJoin (rJoin G.K) := by
  intro d v ds vs H M S Q rp rps rs h
  unfold tJoin at h
  split at h
  · rename_i a x ha
    split at h
    · rename_i ys hy
      split at h
      · rename_i hl
        cases rps with
        | cons r1 r2 =>
          cases r2
          obtain ⟨xs, e1, e2⟩ := Option.bind_eq_some_iff.mp hy
          obtain ⟨q, ws, e, h1, h2⟩ := seqD_ok ok rs r1 e1
          rw [asStrs_rep ok h2 e2] at h1
          subst e
          exact ⟨a, q, ys, asStr_rep ok rp ha, rfl, h1.symm, hl, end_v rs h (.str _)⟩
      · exact h.elim
    · exact h.elim
  · exact h.elim
def tSplit : FT := fun d ds S => match asStr d, ds with
  | some a, [.str b] => if (b.length == 0) = false ∧ a.length + 2 ≤ lim then .ok (.lst ((Txt.split a b).map .str)) S else .stuck
  | _, _ => .stuck
theorem reps_strs (zs : List Str) : Reps G H M (zs.map .str) (zs.map V.str) := by
  induction zs with
  | nil => exact .nil
  | cons z zs ih => exact .cons (.str z) ih
theorem tSplit_ok (ok : G.Ok) : MethM G tSplit (fun x xs H Q => ∃ a b, x = .str a ∧ xs = [.str b] ∧ (b.length == 0) = false ∧ a.length + 2 ≤ sizeLine ∧ rNewStrs (Txt.split a b) H Q) := by
  intro d v ds vs H M S Q rp rps rs h
  unfold tSplit at h
  split at h
  · rename_i a b ha
    split at h
    · rename_i hl
      cases rps with
      | cons r1 r2 =>
        cases r2
        exact ⟨a, b, asStr_rep ok rp ha, by rw [r1.str_inv ok], hl.1, lim_ok hl.2, end_lst rs h (reps_strs _)⟩
    · exact h.elim
  · exact h.elim
/-! ## x += e -/
def bAug (i : Nat) (f : D → D → Sto → Out D) (a : ME) : MB := fun L S => match L[i]? with
  | some (some x) => (a L S).bind fun y S1 => (dry (f x y S1)).bind fun z S2 => .ok (.nx (L.set i (some z))) S2
  | _ => .stuck
theorem b_aug {i : Nat} {op : Operator} {ti : TIp} {f : D → D → Sto → Out D} {pos' : Pos} (hf : OpM G f ti) (hN : X.N.Nodup) (hi : X.N[i]? = some x) (hx : L2.Loc X.env.scope x) (ha : PE X e (tE G W ma)) (ho : PIp X op ti) (hl : X.fn x = true ∨ List.lookup x X.env.scope.names = some NameKind.local := by exact .inr rfl) :
    PS X (.AugAssign (.Name x pos') op e pos) (tB G W (bAug i f ma)) := ps_imp (ps_aug hN hi hx ha ho hl) fun D' σ H ⟨L, S, M, rl, rs, h⟩ => by
  unfold bAug at h
  split at h
  · rename_i xd hx
    obtain ⟨xv, h1, h2⟩ := rl.at_ i xd hx
    refine ⟨xv, h1, then_e rl rs h (fun e S z => wE_of e S z) fun v H1 M1 y S1 st rs1 rp rl1 h3 => ?_⟩
    refine hf _ _ _ _ _ M1 S1 _ (Rep.mono st _ _ h2) rp rs1 (Fin.mono (fin_dry (E' := fun _ _ => False) (fin_dry_bind h3)) (fun z S2 h4 => ?_) (fun _ _ z => z))
    intro zv H2 M2 st2 rs2 rz
    exact h4 H2 M2 (st.trans st2) rs2 _ ((rl1.mono st2).set i rz)
  · exact h.elim
end
end MM
set_option linter.all false
set_option maxRecDepth 100000
set_option maxHeartbeats 2000000
namespace MM
open PySem PySem.Spec PyProof.Rows L2
section
variable {X : Cx} {G : Gam} {W : WX} {e a b o : Expr} {es : List Expr} {pos p apos cpos p2 p3 : Pos} {H : Hp} {M : Mem} {S : Sto} {ma mb mo : ME} {d : D} {v : V} {m : MA} {x y z : Str}
/-! ## x, y = a, b -/
def bPar2 (i j : Nat) (m : MA) : MB := fun L S => (m L S).bind fun ds S1 => match ds with
  | [d, e] => .ok (.nx ((L.set i (some d)).set j (some e))) S1
  | _ => .stuck
def bPar3 (i j k : Nat) (m : MA) : MB := fun L S => (m L S).bind fun ds S1 => match ds with
  | [d, e, f] => .ok (.nx (((L.set i (some d)).set j (some e)).set k (some f))) S1
  | _ => .stuck
theorem b_par2 {i j : Nat} {px py pt : Pos} {kt k2 : Nat} {pt2 : Pos} (hc : X.calm = true) (hN : X.N.Nodup) (hi : X.N[i]? = some x) (hj : X.N[j]? = some y) (ne : i ≠ j) (hx : List.lookup x X.env.scope.names = some NameKind.local) (hy : List.lookup y X.env.scope.names = some NameKind.local) (ha : PA X [a, b] (tA G W m))
    (hs : swappedStores [.Tuple [.Name x px, .Name y py] kt pt] (.Tuple [a, b] k2 pt2) X.env = pure (some [x, y]) := by rfl) (hw : swapsWithSole [.Tuple [.Name x px, .Name y py] kt pt] (.Tuple [a, b] k2 pt2) pos.line X.env = pure false := by rfl) :
    PS X (.Assign [.Tuple [.Name x px, .Name y py] kt pt] (.Tuple [a, b] k2 pt2) pos) (tB G W (bPar2 i j m)) := ps_imp (ps_par hc hN hi hj ne hx hy ha hs hw) fun D' σ H ⟨L, S, M, rl, rs, h⟩ => by
  refine then_a rl rs h (fun e S z => wE_of e S z) fun vs H1 M1 ds S1 st rs1 rps rl1 h1 => ?_
  split at h1
  · cases rps with
    | cons r1 r2 =>
      cases r2 with
      | cons r3 r4 =>
        cases r4
        exact ⟨_, _, rfl, h1 H1 M1 st rs1 _ ((rl1.set i r1).set j r3)⟩
  · exact h1.elim
theorem b_par3 {i j k : Nat} {c : Expr} {px py pz pt : Pos} {kt k2 : Nat} {pt2 : Pos} (hc : X.calm = true) (hN : X.N.Nodup) (hi : X.N[i]? = some x) (hj : X.N[j]? = some y) (hk : X.N[k]? = some z) (n1 : i ≠ j) (n2 : i ≠ k) (n3 : j ≠ k) (hx : List.lookup x X.env.scope.names = some NameKind.local) (hy : List.lookup y X.env.scope.names = some NameKind.local) (hz : List.lookup z X.env.scope.names = some NameKind.local) (ha : PA X [a, b, c] (tA G W m))
    (hs : swappedStores [.Tuple [.Name x px, .Name y py, .Name z pz] kt pt] (.Tuple [a, b, c] k2 pt2) X.env = pure (some [x, y, z]) := by rfl) (hw : swapsWithSole [.Tuple [.Name x px, .Name y py, .Name z pz] kt pt] (.Tuple [a, b, c] k2 pt2) pos.line X.env = pure false := by rfl) :
    PS X (.Assign [.Tuple [.Name x px, .Name y py, .Name z pz] kt pt] (.Tuple [a, b, c] k2 pt2) pos) (tB G W (bPar3 i j k m)) := ps_imp (ps_par3 hc hN hi hj hk n1 n2 n3 hx hy hz ha hs hw) fun D' σ H ⟨L, S, M, rl, rs, h⟩ => by
  refine then_a rl rs h (fun e S z => wE_of e S z) fun vs H1 M1 ds S1 st rs1 rps rl1 h1 => ?_
  split at h1
  · cases rps with
    | cons r1 r2 =>
      cases r2 with
      | cons r3 r4 =>
        cases r4 with
        | cons r5 r6 =>
          cases r6
          exact ⟨_, _, _, rfl, h1 H1 M1 st rs1 _ (((rl1.set i r1).set j r3).set k r5)⟩
  · exact h1.elim
/-! ## names of the top -/
structure GlobD (mg : Str → Option Value) (G : Gam) (x : Str) (d : D) : Prop where
  ex : ∃ u v, mg x = some u ∧ RelV v u ∧ ∀ H M, Rep G H M d v
theorem e_glob (F : GlobD X.mg G x d) (hg : Gl X x) (hn : x ≠ ("__name__" : Str) := by decide) (hdb : (x == ("__debug__" : Str)) = false := by decide) : PE X (.Name x pos) (tE G W (mC d)) := by
  obtain ⟨u, v, h1, h2, h3⟩ := F.ex
  exact e_c (pe_glob hg h1 h2 hdb) h3
theorem e_ty {T : String} (hg : Gl X x) (hm : X.mg x = none) (hv : bootBuiltins x = some (.type T)) (hn : x ≠ ("__name__" : Str) := by decide) (hdb : (x == ("__debug__" : Str)) = false := by decide) : PE X (.Name x pos) (tE G W (mC (.ty T))) := e_c (v := .ty T) (pe_bltn hg hm hv rfl hn hdb) fun _ _ => .ty T
/-! ## isinstance -/
abbrev Ty := String ⊕ Str
def tyD (inst : Str → Bool) (S : Sto) : D → Option Ty
  | .non => some (.inl "NoneType")
  | .bl _ => some (.inl "bool")
  | .int _ => some (.inl "int")
  | .str _ => some (.inl "str")
  | .tup _ => some (.inl "tuple")
  | .lst _ => some (.inl "list")
  | .obj C _ _ => if inst C = true then some (.inr C) else none
  | .loc n => match S[n]? with
    | some (.lst _) => some (.inl "list")
    | some (.dct _ _) => some (.inl "dict")
    | some (.ins C _ _) => if inst C = true then some (.inr C) else none
    | _ => none
  | .dct _ _ => some (.inl "dict")
  | _ => none
def clsOf : D → Option Ty
  | .ty n => some (.inl n)
  | .cls C => some (.inr C)
  | _ => none
def clsesOf : List D → Option (List Ty)
  | [] => some []
  | d :: ds => match clsOf d, clsesOf ds with
    | some t, some ts => some (t :: ts)
    | _, _ => none
inductive TyV (G : Gam) : Ty → Value → Prop
  | ty (n : String) : TyV G (.inl n) (.type n)
  | cls {C : Str} {c : Addr} : G.cls C = some c → TyV G (.inr C) (.ref c)
def ktAny (kt : Ty → Ty → Option Bool) (t : Ty) : List Ty → Option Bool
  | [] => some false
  | c :: cs => match kt t c with
    | some true => some true
    | some false => ktAny kt t cs
    | none => none
structure InsOk (K : PySem.W.Frag) (c : Addr) : Prop where
  cls : Cls K c
  find : PySem.W.findIn K (.ref c) "__class__" = some (some (.builtin "object.__class__"))
  spec : PySem.W.specialIn K (.builtin "object.__class__") "__get__" = some (some (.builtin "getset_descriptor.__get__"))
  take : PySem.W.takesIn K (.builtin "object.__class__") = some true
  mro : PySem.W.mroIn K c (.type "object") = some true
structure IsK (G : Gam) (kt : Ty → Ty → Option Bool) (inst : Str → Bool) : Prop where
  kt : ∀ s t b u w, kt s t = some b → TyV G s u → TyV G t w → PySem.W.kitOne G.K u w = some b
  ins : ∀ C c, inst C = true → G.cls C = some c → InsOk G.K c
theorem ktAny_ok {kt : Ty → Ty → Option Bool} {inst : Str → Bool} (F : IsK G kt inst) {s : Ty} {u : Value} (hs : TyV G s u) : ∀ {ts : List Ty} {ws : List Value} {b : Bool}, Paired (TyV G) ts ws → ktAny kt s ts = some b → PySem.W.kitAny G.K u ws = some b
  | [], _, b, .nil, h => by cases h; rfl
  | t :: ts, _, b, .cons (b := w) r1 r2, h => by
    simp only [ktAny] at h
    show (match PySem.W.kitOne G.K u w with
      | some true => some true
      | some false => PySem.W.kitAny G.K u _
      | none => none) = some b
    split at h
    · rename_i q
      rw [F.kt _ _ _ _ _ q hs r1]
      exact h
    · rename_i q
      rw [F.kt _ _ _ _ _ q hs r1]
      exact ktAny_ok F hs r2 h
    · cases h
theorem tyD_ok (ok : G.Ok) {kt : Ty → Ty → Option Bool} {inst : Str → Bool} (F : IsK G kt inst) {t : Ty} (rs : RepS G H M S) (r : Rep G H M d v) (h : tyD inst S d = some t) : ∃ u, TyV G t u ∧ TyX G.K H v u := by
  cases d with
  | non => cases h; rw [r.non_inv ok]; exact ⟨_, .ty _, .base .non⟩
  | bl b => cases h; rw [r.bl_inv ok]; exact ⟨_, .ty _, .base (.bl _)⟩
  | int b => cases h; rw [r.int_inv ok]; exact ⟨_, .ty _, .base (.int _)⟩
  | str b => cases h; rw [r.str_inv ok]; exact ⟨_, .ty _, .base (.str _)⟩
  | tup xs =>
    cases h
    obtain ⟨a, vs, e, h1, h2, h3⟩ := r.tup_inv2 ok
    subst e
    refine ⟨_, .ty _, ?_⟩
    rcases h3 with ⟨_, h3⟩ | ⟨o, its, n, h3, h4, _⟩
    · exact .base (.tup h3)
    · exact .kTuple h3 h4
  | lst xs =>
    cases h
    obtain ⟨a, vs, e, _, h1, h2⟩ := r.lst_inv ok
    subst e
    exact ⟨_, .ty _, .base (.lst h1)⟩
  | obj C ns vs =>
    simp only [tyD] at h
    split at h
    · rename_i hi
      cases h
      cases r with
      | @obj _ a c dx fs _ _ _ h2 h3 _ _ =>
        have I := F.ins C c hi h2
        exact ⟨_, .cls h2, .base (.ins h3 I.cls I.find I.spec I.take I.mro)⟩
      | ext hx => exact (ok.ext _ _ _ _ hx).elim
    · cases h
  | dct ks vs =>
    cases h
    cases r with
    | dctK h1 h2 _ _ =>
      rcases h2 with h2 | ⟨o, h2⟩
      · exact ⟨_, .ty _, .base (.dK h2)⟩
      · exact ⟨_, .ty _, .fDict h2⟩
    | ext hx => exact (ok.ext _ _ _ _ hx).elim
  | loc n =>
    obtain ⟨a, e, hm⟩ := r.loc_inv ok
    subst e
    simp only [tyD] at h
    split at h
    · rename_i xs q
      cases h
      obtain ⟨o, h1, h2⟩ := rs.get hm q
      cases h2 with
      | lst _ => exact ⟨_, .ty _, .base (.lst h1)⟩
    · rename_i ks vs q
      cases h
      obtain ⟨o, h1, h2⟩ := rs.get hm q
      cases h2 with
      | dctK _ _ => exact ⟨_, .ty _, .base (.dK h1)⟩
    · rename_i C ns vs q
      split at h
      · rename_i hi
        cases h
        obtain ⟨o, h1, h2⟩ := rs.get hm q
        cases h2 with
        | @ins _ c dx fs _ _ h3 _ _ =>
          have I := F.ins C c hi h3
          exact ⟨_, .cls h3, .base (.ins h1 I.cls I.find I.spec I.take I.mro)⟩
      · cases h
    · cases h
  | _ => cases h
abbrev rIsiA (K : PySem.W.Frag) : List V → Hp → VK → Prop := fun xs H Q => rIsi K xs H Q ∨ (rIsiT K xs H Q ∨ rIsiK K xs H Q)
theorem call_isiA : CallR X (.builtin "isinstance") (rIsiA X.K) := CallR.or call_isi (CallR.or call_isiT call_isiK)
def bIsi (kt : Ty → Ty → Option Bool) (inst : Str → Bool) : FB := fn2 fun d e S => match tyD inst S d with
  | some t => match e with
    | .tup es => match (clsesOf es).bind (ktAny kt t) with
      | some b => .ok (.bl b) S
      | none => .stuck
    | e => match (clsOf e).bind (kt t) with
      | some b => .ok (.bl b) S
      | none => .stuck
  | none => .stuck
theorem clsOf_ok (ok : G.Ok) {t : Ty} (r : Rep G H M d v) (h : clsOf d = some t) : ∃ u, TyV G t u ∧ ClsV v u := by
  cases d with
  | ty n =>
    cases h
    cases r with
    | ty _ => exact ⟨_, .ty n, .ty n⟩
    | ext hx => exact (ok.ext _ _ _ _ hx).elim
  | cls C =>
    cases h
    cases r with
    | @cls _ c h1 => exact ⟨_, .cls h1, .own c⟩
    | ext hx => exact (ok.ext _ _ _ _ hx).elim
  | _ => cases h
theorem clsesOf_ok (ok : G.Ok) : ∀ {ds : List D} {vs : List V} {ts : List Ty}, Reps G H M ds vs → clsesOf ds = some ts → ∃ us, Paired (TyV G) ts us ∧ Paired ClsV vs us
  | [], vs, ts, r, h => by cases r; cases h; exact ⟨[], .nil, .nil⟩
  | d :: ds, vs, ts, r, h => by
    cases r with
    | cons r1 r2 =>
      simp only [clsesOf] at h
      split at h
      · rename_i t ts' h1 h2
        cases h
        obtain ⟨u, q1, q2⟩ := clsOf_ok ok r1 h1
        obtain ⟨us, q3, q4⟩ := clsesOf_ok ok r2 h2
        exact ⟨u :: us, .cons q1 q3, .cons q2 q4⟩
      · cases h
theorem bIsi_ok (ok : G.Ok) {kt : Ty → Ty → Option Bool} {inst : Str → Bool} (F : IsK G kt inst) : CallM G (bIsi kt inst) (rIsiA G.K) := fn2_ok fun d v e w H M S Q rx ry rs h => by
  split at h
  · rename_i t ht
    obtain ⟨u, hu, hx⟩ := tyD_ok ok F rs rx ht
    split at h
    · rename_i es
      split at h
      · rename_i b hb
        obtain ⟨ts, e1, e2⟩ := Option.bind_eq_some_iff.mp hb
        obtain ⟨a, vs, ea, h1, h2, h3⟩ := ry.tup_inv2 ok
        subst ea
        obtain ⟨us, q1, q2⟩ := clsesOf_ok ok h2 e1
        rcases h3 with ⟨_, h3⟩ | ⟨o, its, n, h3, h4, h5, h6, h7⟩
        · exact .inr (.inl ⟨v, a, vs, u, us, b, rfl, h3, q2, hx, ktAny_ok F hu q1 e2, end_v rs h (.bl _)⟩)
        · have e := ClsV.all q2 h7
          refine .inr (.inr ⟨v, a, o.dict, us, n, o.slots, u, b, rfl, ?_, hx, ktAny_ok F hu q1 e2, end_v rs h (.bl _)⟩)
          rw [h3]
          cases o with
          | mk c dd data sl =>
            have h4 : c = .type "tuple" := h4
            have h5 : data = .seq its n := h5
            subst h4 h5
            rw [← e]
      · exact h.elim
    · rename_i e _
      split at h
      · rename_i b hb
        obtain ⟨t', e1, e2⟩ := Option.bind_eq_some_iff.mp hb
        obtain ⟨u', q1, q2⟩ := clsOf_ok ok ry e1
        exact .inl ⟨v, w, u, u', b, rfl, q2, hx, F.kt _ _ _ _ _ e2 hu q1, end_v rs h (.bl _)⟩
      · exact h.elim
  · exact h.elim
end
end MM
set_option linter.all false
set_option maxRecDepth 100000
set_option maxHeartbeats 2000000
namespace MM
open PySem PySem.Spec PyProof.Rows L2
theorem hu1 {k : Nat} {A : Around} (h : Room k A) : A.units + 1 < cLine := by have := h.un; omega
theorem hu64 {k : Nat} {A : Around} (h : Room k A) : A.units + 64 < cLine := by have := h.un; omega
theorem hu65 {k : Nat} {A : Around} (h : Room k A) : A.units + 65 < cLine := by have := h.un; omega
section
variable {X : Cx} {G : Gam} {W : WX} {K : PySem.W.Frag}
theorem oEqK (ok : G.Ok) (hK : G.K = K) : OpM G oEq (rEqD K) := hK ▸ oEq_ok ok
theorem oNeK (ok : G.Ok) (hK : G.K = K) : OpM G oNe (rNeD K) := hK ▸ oNe_ok ok
theorem oInK (ok : G.Ok) (hK : G.K = K) : OpM G oIn (rInA K false) := hK ▸ oIn_ok ok
theorem oNinK (ok : G.Ok) (hK : G.K = K) : OpM G oNin (rInA K true) := hK ▸ oNin_ok ok
theorem oAddK (ok : G.Ok) (hK : G.K = K) : OpM G oAdd (rAdd K) := hK ▸ oAdd_ok ok
theorem oAddCK (ok : G.Ok) (hK : G.K = K) : OpM G oAddC (rAdd K) := hK ▸ oAddC_ok ok
theorem oLtK (ok : G.Ok) (_ : G.K = K) : OpM G oLt (fun x y H Q => (rI0 fun i j => .bl (decide (i < j))) x y H Q ∨ ∃ i j, x = .str i ∧ y = .str j ∧ Q (.bl (sLt i j)) H) := oLt_ok ok
theorem oLeK (ok : G.Ok) (_ : G.K = K) : OpM G oLe (fun x y H Q => (rI0 fun i j => .bl (decide (i ≤ j))) x y H Q ∨ ∃ i j, x = .str i ∧ y = .str j ∧ Q (.bl (!sLt j i)) H) := oLe_ok ok
theorem oGtK (ok : G.Ok) (_ : G.K = K) : OpM G oGt (fun x y H Q => (rI0 fun i j => .bl (decide (j < i))) x y H Q ∨ ∃ i j, x = .str i ∧ y = .str j ∧ Q (.bl (sLt j i)) H) := oGt_ok ok
theorem oGeK (ok : G.Ok) (_ : G.K = K) : OpM G oGe (fun x y H Q => (rI0 fun i j => .bl (decide (j ≤ i))) x y H Q ∨ ∃ i j, x = .str i ∧ y = .str j ∧ Q (.bl (!sLt i j)) H) := oGe_ok ok
theorem oIsK (ok : G.Ok) (_ : G.K = K) : OpM G oIs rIsN0 := oIs_ok ok
theorem oIsntK (ok : G.Ok) (_ : G.K = K) : OpM G oIsnt rNotN0 := oIsnt_ok ok
theorem bLenK (ok : G.Ok) (hK : G.K = K) : CallM G bLen (rLenA K) := hK ▸ bLen_ok ok
theorem bSumK (ok : G.Ok) (hK : G.K = K) : CallM G bSum (rSum K) := hK ▸ bSum_ok ok
theorem bAllK (ok : G.Ok) (hK : G.K = K) : CallM G bAll (rAll K) := hK ▸ bAll_ok ok
theorem bAnyK (ok : G.Ok) (hK : G.K = K) : CallM G bAny (rAny K) := hK ▸ bAny_ok ok
theorem bMaxK (ok : G.Ok) (hK : G.K = K) : CallM G bMax (fun xs H Q => (∃ i j, xs = [.int i, .int j] ∧ Q (.int (if j > i then j else i)) H) ∨ rMax K xs H Q) := hK ▸ bMax_ok ok
theorem bMinK (ok : G.Ok) (hK : G.K = K) : CallM G bMin (fun xs H Q => (∃ i j, xs = [.int i, .int j] ∧ Q (.int (if j < i then j else i)) H) ∨ rMin K xs H Q) := hK ▸ bMin_ok ok
theorem bTupleK (ok : G.Ok) (hK : G.K = K) : CallM G bTuple (fun xs H Q => ∃ p ys, xs = [.ref p] ∧ ((SqL K H p ys ∧ ∀ l, H l = none → Q (.ref l) (upd H l (.tup ys))) ∨ (SqT K H p ys ∧ Q (.ref p) H))) := hK ▸ bTuple_ok ok
theorem bListK (ok : G.Ok) (hK : G.K = K) : CallM G bList (fun xs H Q => ∃ p ys, xs = [.ref p] ∧ (SqL K H p ys ∨ SqT K H p ys) ∧ ∀ l, H l = none → Q (.ref l) (upd H l (.lst ys))) := hK ▸ bList_ok ok
theorem bListCK (ok : G.Ok) (hK : G.K = K) : CallM G bListC (fun xs H Q => ∃ p ys, xs = [.ref p] ∧ (SqL K H p ys ∨ SqT K H p ys) ∧ ∀ l, H l = none → Q (.ref l) (upd H l (.lst ys))) := hK ▸ bListC_ok ok
theorem bIsiK {kt : Ty → Ty → Option Bool} {inst : Str → Bool} (ok : G.Ok) (hK : G.K = K) (F : IsK G kt inst) : CallM G (bIsi kt inst) (rIsiA K) := hK ▸ bIsi_ok ok F
theorem bAbsK (ok : G.Ok) (_ : G.K = K) : CallM G bAbs (fun xs H Q => ∃ i, xs = [.int i] ∧ Q (.int (if i < 0 then -i else i)) H) := bAbs_ok ok
theorem bIntK (ok : G.Ok) (_ : G.K = K) : CallM G bInt rIntA := bInt_ok ok
theorem strIK (ok : G.Ok) (_ : G.K = K) : CallM G strI rStrI := strI_ok ok
theorem tAppendK (ok : G.Ok) (_ : G.K = K) : MethM G tAppend rAppend := tAppend_ok ok
theorem tPopK (ok : G.Ok) (_ : G.K = K) : MethM G tPop (fun x vs H Q => rPop x vs H Q ∨ rPopAt x vs H Q) := tPop_ok ok
theorem tJoinK (ok : G.Ok) (hK : G.K = K) : MethM G tJoin (rJoin K) := hK ▸ tJoin_ok ok
theorem tSplitK (ok : G.Ok) (_ : G.K = K) : MethM G tSplit (fun x xs H Q => ∃ a b, x = .str a ∧ xs = [.str b] ∧ (b.length == 0) = false ∧ a.length + 2 ≤ sizeLine ∧ rNewStrs (Txt.split a b) H Q) := tSplit_ok ok
theorem iAnyK (ok : G.Ok) (hK : G.K = K) {m : ME} : IterOk G W (iAny m) (iAnyW K (tE G W m)) := hK ▸ iAny_ok ok
theorem iEnmK (ok : G.Ok) (hK : G.K = K) {m : MA} : IterOk G W (iEnm m) (iEnum K (tA G W m)) := hK ▸ iEnm_ok ok
theorem iZpK (ok : G.Ok) (hK : G.K = K) {m : MA} : IterOk G W (iZp m) (RZ.iZipA K (tA G W m)) := hK ▸ iZp_ok ok
theorem oSlK (ok : G.Ok) (_ : G.K = K) : SlM G oSl (rSlX3 G.K) := oSl_ok ok
theorem oAddI_ip (ok : G.Ok) : OpM G oAddI (ipI fun i j => i + j) := iOp_ok0 ok fun i j _ _ => .int (i + j)
/-! ## targets raise nothing -/
theorem gNil_noX : ∀ ds L S e S', gNilM ds L S ≠ .exc e S' := fun ds L S e S' => by
  unfold gNilM
  split <;> exact fun z => nomatch z
theorem gCons_noX {g : MG} {r : MGs} (hg : noXG g) (hr : ∀ ds L S e S', r ds L S ≠ .exc e S') : ∀ ds L S e S', gConsM g r ds L S ≠ .exc e S' := fun ds L S e S' => by
  unfold gConsM
  split
  · rename_i d ds
    cases q : g d L S with
    | ok L1 S1 => exact hr _ _ _ _ _
    | exc x S1 => exact (hg _ _ _ _ _ q).elim
    | stuck => exact fun z => nomatch z
  · exact fun z => nomatch z
theorem gTup_noX {n : Nat} {r : MGs} (hr : ∀ ds L S e S', r ds L S ≠ .exc e S') : noXG (gTupM n r) := fun d L S e S' => by
  unfold gTupM
  split
  · split
    · exact hr _ _ _ _ _
    · exact fun z => nomatch z
  · exact fun z => nomatch z
end
end MM
set_option linter.all false
set_option maxRecDepth 100000
set_option maxHeartbeats 2000000
namespace MM
open PySem PySem.Spec PyProof.Rows L2
section
variable {X : Cx} {G : Gam} {W : WX} {e a b o i : Expr} {es : List Expr} {pos p apos cpos p2 p3 : Pos} {H : Hp} {M : Mem} {S : Sto} {ma mb mo mi mv : ME} {d : D} {v : V} {m : MA} {x y z : Str}
/-! ## y = [..] -/
variable {elt tg iter : Expr} {ifs : List Expr} {scope : Scope} {own : List (Str × Nat)} {mI : MI} {wi : TI} {g : MG} {c : MT} {me : ME}
theorem b_setLc {k : Nat} {py : Pos} {spos : Pos} (hc : X.calm = true) (hN : X.N.Nodup) (hi : X.N[k]? = some y) (hl : List.lookup y X.env.scope.names = some NameKind.local) (hsw : swapsWith (.ListComp elt [⟨tg, iter, ifs, 0⟩] scope pos) (some (.Name y py)) spos.line X.env = pure true)
    (hp : PI X tg iter wi) (hk : IterOk G W mI wi) (ok : BlkOk X.N X.env.scope scope own) (hn : noXG g)
    (hg : ∀ s H C cl fp, PG (blkX X scope s H C cl fp) tg (tG G (some (own.map (·.2))) g)) (ht : ∀ s H C cl fp, PTs (blkX X scope s H C cl fp) ifs (tT G WF c)) (he : ∀ s H C cl fp, PE (blkX X scope s H C cl fp) elt (tE G WF me))
    (hs : ∀ x, foldedSetIterable iter X.env x = pure x := by intro _; rfl) : PS X (.Assign [.Name y py] (.ListComp elt [⟨tg, iter, ifs, 0⟩] scope pos) spos) (tB G W (bAsg (mLc mI (own.map (·.2)) g c me) (gN k))) :=
  ps_imp (ps_setLc hc hN hi hl hsw hp ok hg ht he hs) fun D' σ H h => by
    have h2 := asg_imp (t := gName k) (gN_noX k) (fun v σ H Q ⟨d, L, S, M, rp, rl, rs, h⟩ => h H M _ (Step.refl H M) rs (rl.set k rp) trivial) h
    exact lc_pure hk hn h2
theorem b_setLcC {k : Nat} {py : Pos} {spos : Pos} (hc : X.calm = true) (hN : X.N.Nodup) (hi : X.N[k]? = some y) (hl : List.lookup y X.env.scope.names = some NameKind.local) (hsw : swapsWith (.ListComp elt [⟨tg, iter, ifs, 0⟩] scope pos) (some (.Name y py)) spos.line X.env = pure true)
    (hp : PI X tg iter wi) (hk : IterOk G W mI wi) (ok : BlkOk X.N X.env.scope scope own) (hn : noXG g)
    (hg : ∀ s H C cl fp, PG (blkX X scope s H C cl fp) tg (tG G (some (own.map (·.2))) g)) (ht : ∀ s H C cl fp, PTs (blkX X scope s H C cl fp) ifs (tT G WF c)) (he : ∀ s H C cl fp, PE (blkX X scope s H C cl fp) elt (tE G WF me))
    (hs : ∀ x, foldedSetIterable iter X.env x = pure x := by intro _; rfl) : PS X (.Assign [.Name y py] (.ListComp elt [⟨tg, iter, ifs, 0⟩] scope pos) spos) (tB G W (bAsg (mLcC mI (own.map (·.2)) g c me) (gN k))) :=
  ps_imp (ps_setLc hc hN hi hl hsw hp ok hg ht he hs) fun D' σ H h => by
    have h2 := asg_imp (t := gName k) (gN_noX k) (fun v σ H Q ⟨d, L, S, M, rp, rl, rs, h⟩ => h H M _ (Step.refl H M) rs (rl.set k rp) trivial) h
    exact lc_cell hk hn h2
/-! ## xs[i] = v -/
def lput (d k v : D) (S : Sto) : Out Unit := match cellL S d, asInt k with
  | some (n, xs), some i => match ixN xs.length i with
    | some j => .ok () (S.set n (.lst (xs.set j v)))
    | none => .stuck
  | _, _ => .stuck
def bLPut (o i v : ME) : MB := fun L S => (v L S).bind fun x S1 => (o L S1).bind fun d S2 => (i L S2).bind fun k S3 => (lput d k x S3).bind fun _ S4 => .ok (.nx L) S4
theorem Reps.set {xs : List D} {vs : List V} (r : Reps G H M xs vs) (rd : Rep G H M d v) : ∀ j, Reps G H M (xs.set j d) (vs.set j v) := by
  induction xs generalizing vs with
  | nil => intro j; cases r; exact .nil
  | cons x xs ih =>
    intro j
    cases r with
    | cons r1 r2 =>
      cases j with
      | zero => exact .cons rd r2
      | succ j => exact .cons r1 (ih r2 j)
theorem lput_noX {d k v : D} {S : Sto} {e : EV} {S' : Sto} : lput d k v S ≠ .exc e S' := by
  unfold lput
  split
  · split <;> exact fun z => nomatch z
  · exact fun z => nomatch z
theorem b_lput (ok : G.Ok) {pos' : Pos} (ho : PE X o (tE G W mo)) (hi : PE X i (tE G W mi)) (hv : PE X e (tE G W mv)) (hs : swapsWithSole [.Subscript o i pos'] e pos.line X.env = pure false := by rfl) (hw : swappedStores [.Subscript o i pos'] e X.env = pure none := by rfl)
    (h1 : (assignEach [.Subscript o i pos'] X.env).map (·.2) = [assign (.Subscript o i pos') X.env] := by rfl)
    (ha : ∀ v, assign (.Subscript o i pos') X.env v = (do
      let ov ← holding [v] (eval o X.env)
      let iv ← holding [v, ov] (eval i X.env)
      standAt pos'
      holding [v, ov, iv] (setItem ov iv v)
      release [v, ov, iv] []) := by intro _; rfl) : PS X (.Assign [.Subscript o i pos'] e pos) (tB G W (bLPut mo mi mv)) :=
  ps_imp (ps_asg hv (pg_sub ho hi set_list ha) hs hw h1) fun D' σ H ⟨L, S, M, rl, rs, h⟩ => by
    refine then_e rl rs h (fun e S z => wE_of e S z) fun v H1 M1 x S1 st rs1 rp rl1 h1 => ?_
    refine then_e rl1 rs1 h1 (fun e S' z => wE_of e S' (PostX.step st e S' z)) fun dv H2 M2 dd S2 st2 rs2 rp2 rl2 h2 => ?_
    refine then_e rl2 rs2 h2 (fun e S' z => wE_of e S' (PostX.step (st.trans st2) e S' z)) fun kv H3 M3 k S3 st3 rs3 rp3 rl3 h3 => ?_
    have h3 := fin_bind h3
    unfold lput at h3
    split at h3
    · rename_i n xs ii hc hii
      split at h3
      · rename_i j hj
        obtain ⟨a, vs, e1, hm, h4, h5⟩ := cellL_ok ok rs3 (Rep.mono st3 _ _ rp2) hc
        refine ⟨a, vs, ii, j, e1, asInt_rep ok rp3 hii, h4, by rw [← h5.length]; exact hj, ?_⟩
        have sw := Step.wr (H := H3) (M := M3) (o := HO.lst (vs.set j v)) (.inl (List.mem_of_getElem? hm))
        have h6 := h5.set (Rep.mono (st2.trans st3) _ _ rp) j
        exact h3 _ M3 (((st.trans st2).trans st3).trans sw) (rs3.wr hm (.lst (Reps.mono sw _ _ h6))) σ (rl3.mono sw)
      · exact h3.elim
    · exact h3.elim
/-! ## xs.index(n) of numbers -/
def idxI (n : Int) : List Int → Option Nat
  | [] => none
  | k :: ks => if k = n then some 0 else (idxI n ks).map (· + 1)
def tIndex : FT := fun d ds S => match (asLst S d).bind asInts, ds with
  | some ns, [.int n] => match idxI n ns with
    | some j => .ok (.int j) S
    | none => .stuck
  | _, _ => .stuck
theorem idxI_ok {n : Int} : ∀ {ns : List Int} {j : Nat}, idxI n ns = some j → ns[j]? = some n ∧ ∀ m, m < j → ns[m]? ≠ some n
  | [], j, h => by cases h
  | k :: ks, j, h => by
    simp only [idxI] at h
    split at h
    · rename_i e
      cases h
      exact ⟨by rw [e]; rfl, fun m hm => by omega⟩
    · rename_i e
      obtain ⟨j', h1, h2⟩ := Option.map_eq_some_iff.mp h
      subst h2
      obtain ⟨h3, h4⟩ := idxI_ok h1
      refine ⟨h3, fun m hm => ?_⟩
      cases m with
      | zero => simpa using e
      | succ m => exact h4 m (by omega)
theorem tIndex_ok (ok : G.Ok) : MethM G tIndex (rIndex G.K) := by
  intro d v ds vs H M S Q rp rps rs h
  unfold tIndex at h
  split at h
  · rename_i ns n hns
    split at h
    · rename_i j hj
      obtain ⟨xs, e1, e2⟩ := Option.bind_eq_some_iff.mp hns
      obtain ⟨a, ws, e, h1, h2⟩ := asLst_rep ok rs rp e1
      rw [asInts_rep ok h2 e2] at h1
      obtain ⟨h3, h4⟩ := idxI_ok hj
      cases rps with
      | cons r1 r2 =>
        cases r2
        refine ⟨a, ns.map V.int, .int n, j, .int n, e, by rw [r1.int_inv ok], .of h1, rfl, ?_, ?_, ?_, fun m z hm hz => ?_, end_v rs h (.int _)⟩
        · rw [List.all_map]
          rw [List.all_eq_true]
          intro _ _
          rfl
        · rw [List.getElem?_map, h3]
          rfl
        · show (n == n) = true
          simp
        · rw [List.getElem?_map] at hz
          obtain ⟨k, hk, e3⟩ := Option.map_eq_some_iff.mp hz
          subst e3
          show (k == n) = false
          have := h4 m hm
          rw [hk] at this
          simpa using this
    · exact h.elim
  · exact h.elim
theorem tIndexK {K : PySem.W.Frag} (ok : G.Ok) (hK : G.K = K) : MethM G tIndex (rIndex K) := hK ▸ tIndex_ok ok
/-! ## f(x = a, y = b): keywords alone -/
def permD (perm : List Nat) (ds : List D) : List D := perm.map fun i => ds.getD i .non
def mCallK (n : Nat) (perm : List Nat) (fn : FnM) (a : MA) : ME := fun L S => (a L S).bind fun ds S1 => if ds.length = n then fn (permD perm ds) S1 else .stuck
structure KwI (P : Program) (w : World) (K : PySem.W.Frag) (mg : Str → Option Value) (base : Heap) (G : Gam) (k : Nat) (x : Str) (ks : List Str) (perm : List Nat) (fn : FnM) : Prop where
  ex : ∃ f fd ps, mg x = some (.ref f) ∧ PySem.W.keepIn K (.ref f) = true ∧ (∀ s (us : List Value), K.In s.heap → us.length = ks.length → BindsTo s fd ⟨[], ks.zip us⟩ (ps.zip (perm.map fun i => us.getD i .none))) ∧ ps.length = perm.length ∧ (∀ i ∈ perm, i < ks.length) ∧ FnOk P w K mg base (L2.CX P w) k f fd ps (spM G perm.length fn)
abbrev KwX (X : Cx) := KwI X.prog X.w X.K X.mg X.base
theorem vals_at : ∀ {vs : List V} {us : List Value}, Vals vs us → ∀ i, i < us.length → RelV (vs.getD i .non) (us.getD i .none)
  | _, _, .cons r t, 0, _ => r
  | _, _, .cons r t, i + 1, h => vals_at t i (by simpa using h)
theorem vals_perm {vs : List V} {us : List Value} (r : Vals vs us) : ∀ {perm : List Nat}, (∀ i ∈ perm, i < us.length) → Vals (perm.map fun i => vs.getD i .non) (perm.map fun i => us.getD i .none)
  | [], _ => .nil
  | i :: perm, h => .cons (vals_at r i (h i List.mem_cons_self)) (vals_perm r fun j hj => h j (List.mem_cons_of_mem _ hj))
theorem reps_atD {ds : List D} {vs : List V} (r : Reps G H M ds vs) : ∀ i, i < ds.length → Rep G H M (ds.getD i .non) (vs.getD i .non) := by
  induction ds generalizing vs with
  | nil => intro i hi; simp at hi
  | cons d ds ih =>
    intro i hi
    cases r with
    | cons r1 r2 =>
      cases i with
      | zero => exact r1
      | succ i => exact ih r2 i (by simpa using hi)
theorem reps_perm {ds : List D} {vs : List V} (r : Reps G H M ds vs) : ∀ {perm : List Nat}, (∀ i ∈ perm, i < ds.length) → Reps G H M (permD perm ds) (perm.map fun i => vs.getD i .non)
  | [], _ => .nil
  | i :: perm, h => .cons (reps_atD r i (h i List.mem_cons_self)) (reps_perm r fun j hj => h j (List.mem_cons_of_mem _ hj))
theorem pk_nil' : PK X [] (tA G W mNil) := ⟨fun pos pins s σ H Q I ⟨L, S, M, rl, rs, h⟩ => pk_nil.run pos pins s σ H Q I (h [] H M (Step.refl H M) rs .nil)⟩
theorem pk_cons' {kpos : Pos} {kws : List Keyword} {nm : Option Str} {mr : MA} (ha : PE X e (tE G W ma)) (hr : PK X kws (tA G W mr)) : PK X (⟨nm, e, kpos⟩ :: kws) (tA G W (mCons ma mr)) := ⟨fun pos pins s σ H Q I ⟨L, S, M, rl, rs, h⟩ => (pk_cons ha hr).run pos pins s σ H Q I (by
  refine then_e rl rs h (fun _ _ z => z) fun v H1 M1 x S1 st rs1 rp rl1 h1 => ?_
  refine then_a rl1 rs1 h1 (fun e S' z => PostX.step st e S' z) fun vs H2 M2 xs S2 st2 rs2 rps rl2 h2 => ?_
  exact h2 _ H2 M2 (st.trans st2) rs2 (.cons (Rep.mono st2 _ _ rp) rps))⟩
theorem e_callKw {k : Nat} {ks : List Str} {perm : List Nat} {fn : FnM} {kws : List Keyword} (F : KwX X G k x ks perm fn) (hr : Room k X.A) (tk : Takes X W) (hg : Gl X x) (hk : PK X kws (tA G W m)) (h1 : ((backToKw pos (keywordEach kws X.env)).all fun x => x.1.isSome) = true := by rfl)
    (h2 : (backToKw pos (keywordEach kws X.env)).filterMap (·.1) = ks := by rfl) (hdb : (x == ("__debug__" : Str)) = false := by decide) (hno : ((backTo pos (starEach [] X.env)).any (·.1) || (backToKw pos (keywordEach kws X.env)).any fun x => x.1.isNone) = false := by rfl) : PE X (.Call (.Name x p) [] kws pos) (tE G W (mCallK ks.length perm fn m)) := by
  obtain ⟨f, fd, ps, hm, kp, hb, hp, hi, F⟩ := F.ex
  refine ⟨fun pins s σ H Q I h => ?_⟩
  obtain ⟨L, S, M, rl, rs, h⟩ := h
  have ha : tA G W m σ H fun vs H1 => vs.length = ks.length ∧ spM G perm.length fn (perm.map fun i => vs.getD i .non) H1 Q (WE W σ) := by
    refine then_a rl rs h (fun _ _ z => z) fun vs H1 M1 ds S1 st rs1 rps rl1 h1 => ?_
    by_cases hl : ds.length = ks.length
    · rw [if_pos hl] at h1
      refine ⟨by rw [← rps.length]; exact hl, ?_⟩
      exact call_fin st rs1 (reps_perm rps fun i hi' => by rw [hl]; exact hi i hi') (by simp [permD]) h1
    · rw [if_neg hl] at h1; exact h1.elim
  refine wpAny_Call_Name_kw (ld_glob I hg hm ?_ hdb)
  refine PySem.W.callWith_KW0 (h₀ := X.base) I.ok.mod.kin kp h1 (thn (hk.run pos pins s σ H _ I ha) fun us s1 ⟨vs, H1, I1, r, hl, q⟩ => ⟨I1.kIn, ?_⟩) hno
  rw [h2]
  have hul : us.length = ks.length := by rw [← r.length]; exact hl
  have r2 := vals_perm r (perm := perm) fun i hi' => by rw [hul]; exact hi i hi'
  refine wpAny_call (codeAny_mono (F.run _ X.stack _ _ ⟨[], ks.zip us⟩ _ _ _ (WE W σ) hr I1.env0 (hb _ us I1.kIn hul) r2 q) fun r s' hq' => ?_)
  cases r with
  | error e => exact passAt tk σ pins _ _ e s' I1 hq'
  | ok fl =>
    cases fl with
    | ret u =>
      obtain ⟨v, H', I3, rv, q3⟩ := I1.after hq'
      exact ⟨v, H', I3, rv, q3⟩
    | next => exact False.elim hq'
    | brk => exact False.elim hq'
    | cont => exact False.elim hq'
end
end MM
set_option linter.all false
set_option maxRecDepth 100000
set_option maxHeartbeats 4000000
namespace MM
open PySem PySem.Spec PyProof.Rows L2
/-! ## comprehensions of two fors -/
noncomputable def lcF2 (g : MG) (c : MT) (mi1 : MI) (vs1 : List Nat) (g1 : MG) (c1 : MT) (e : ME) (L : Loc) (gd : Grd) : List D → List D → Sto → Out (List D)
  | [], acc, S => open Classical in if grdOk gd S then .ok acc S else .stuck
  | x :: xs, acc, S => open Classical in if grdOk gd S then (g x L S).bind fun L1 S1 => (c L1 S1).bind fun b S2 => if b = true then (mi1 L1 S2).bind fun x1 S3 => (lcF g1 c1 e (wipeL L1 vs1) x1.gd x1.xs acc S3).bind fun acc' S4 => lcF2 g c mi1 vs1 g1 c1 e L gd xs acc' S4 else lcF2 g c mi1 vs1 g1 c1 e L gd xs acc S2 else .stuck
noncomputable def lcM2 (mi : MI) (vs : List Nat) (g : MG) (c : MT) (mi1 : MI) (vs1 : List Nat) (g1 : MG) (c1 : MT) (e : ME) : MA := fun L S => (mi L S).bind fun x S1 => dry (lcF2 g c mi1 vs1 g1 c1 e (wipeL L vs) x.gd x.xs [] S1)
noncomputable def mLc2 (mi : MI) (vs : List Nat) (g : MG) (c : MT) (mi1 : MI) (vs1 : List Nat) (g1 : MG) (c1 : MT) (e : ME) : ME := fun L S => (lcM2 mi vs g c mi1 vs1 g1 c1 e L S).bind fun xs S1 => .ok (.lst xs) S1
section
variable {X : Cx} {G : Gam} {W : WX} {H1 : Hp} {M1 : Mem} {D0 : Addr}
/-- the state while a list is made at D0 -/
structure Mk2 (G : Gam) (H1 : Hp) (M1 : Mem) (D0 : Addr) (Hc : Hp) (N : List Addr) (S : Sto) (acc : List V) (ds : List D) : Prop where
  st : Step H1 M1 Hc (M1.app N)
  rs : RepS G Hc ((M1.app N).hot D0 (.lst acc)) S
  rp : Reps G Hc ((M1.app N).hot D0 (.lst acc)) ds acc
/-- what stood for something at (Hb, Mb) still does -/
theorem inner_imp {g : MG} {c : MT} {e : ME} {vs : List Nat} (hn : noXG g) (hD : H1 D0 = none) (hDp : ∀ q ∈ M1.p, q.1 ≠ D0) {σ : Stt} {L : Loc} {x : Items} {J : It} {P : List D → Sto → Prop} {Nx : Hp → Prop} {Hb : Hp} {Nb : List Addr} {Sb : Sto} {accb : List V} {dsb : List D}
    (B : Mk2 G H1 M1 D0 Hb Nb Sb accb dsb) (rl : RepL G Hb ((M1.app Nb).hot D0 (.lst accb)) L σ) (jo : JOk G J Hb ((M1.app Nb).hot D0 (.lst accb)) x)
    (hf : ∀ Hc N Sc acc ds, Mk2 G H1 M1 D0 Hc N Sc acc ds → Tr Hb ((M1.app Nb).hot D0 (.lst accb)) Hc ((M1.app N).hot D0 (.lst acc)) → P ds Sc → Nx Hc)
    (h : Fin (lcF g c e (wipeL L vs) x.gd x.xs dsb Sb) P (fun _ _ => False)) :
    ∃ W1 : Nat → Nat → Hp → Prop, (∃ m, W1 0 m Hb) ∧ ∀ j k H, W1 j k H → (J.stop j H ∧ Nx H) ∨ (J.go j H ∧ ∃ Nx1 : Hp → Prop, (∀ H', Nx1 H' → ∃ k', k' < k ∧ W1 (j + 1) k' H') ∧ ∀ y H', J.yld j H y H' → tG G (some vs) g y (wipe σ vs) H' fun σ3 H5 => wipe σ3 vs = wipe σ vs ∧ tT G WF c σ3 H5 fun b H6 => if b = true then tE G WF e σ3 H6 fun z H7 => ∃ acc, H7 D0 = some (.lst acc) ∧ acc.length < sizeLine ∧ Nx1 (upd H7 D0 (.lst (acc ++ [z]))) else Nx1 H6) := by
  refine ⟨fun i m Hc => ∃ N Sc acc ds, m = x.xs.length - i ∧ i ≤ x.xs.length ∧ Mk2 G H1 M1 D0 Hc N Sc acc ds ∧ Tr Hb ((M1.app Nb).hot D0 (.lst accb)) Hc ((M1.app N).hot D0 (.lst acc)) ∧ Fin (lcF g c e (wipeL L vs) x.gd (x.xs.drop i) ds Sc) P (fun _ _ => False),
    ⟨_, Nb, Sb, accb, dsb, rfl, Nat.zero_le _, B, (Step.refl _ _).tr, h⟩, ?_⟩
  rintro i m Hc ⟨N, Sc, acc, ds, em, hi, ⟨st2, rs2, rps⟩, t2, h2⟩
  have tp : ∀ q ∈ ((M1.app Nb).hot D0 (.lst accb)).p, ¬ q.1 ∈ ((M1.app Nb).hot D0 (.lst accb)).z → q ∈ ((M1.app N).hot D0 (.lst acc)).p := fun q hq hz => by
    rcases List.mem_cons.mp hq with z | z
    · rw [z] at hz
      exact absurd List.mem_cons_self hz
    · exact List.mem_cons_of_mem _ z
  cases hx : x.xs[i]? with
  | none =>
    have ei : i = x.xs.length := by
      have := List.getElem?_eq_none_iff.mp hx
      omega
    rw [ei, List.drop_length] at h2
    simp only [lcF] at h2
    split at h2
    · rename_i hgd
      exact .inl ⟨by rw [ei]; exact jo.stop Hc _ Sc t2 tp rs2 hgd, hf Hc N Sc acc ds ⟨st2, rs2, rps⟩ t2 h2⟩
    · exact h2.elim
  | some d =>
    have hlt := (List.getElem?_eq_some_iff.mp hx).1
    have ed : x.xs.drop i = d :: x.xs.drop (i + 1) := by
      rw [List.drop_eq_getElem_cons hlt]
      rw [List.getElem?_eq_getElem hlt] at hx
      rw [Option.some.inj hx]
    rw [ed] at h2
    simp only [lcF] at h2
    split at h2
    · rename_i hgd
      obtain ⟨hgo, hy⟩ := jo.go Hc _ Sc i d t2 tp rs2 hgd hx
      refine .inr ⟨hgo, fun H3 => ∃ N3 S3 acc3 ds3, Mk2 G H1 M1 D0 H3 N3 S3 acc3 ds3 ∧ Tr Hb ((M1.app Nb).hot D0 (.lst accb)) H3 ((M1.app N3).hot D0 (.lst acc3)) ∧ Fin (lcF g c e (wipeL L vs) x.gd (x.xs.drop (i + 1)) ds3 S3) P (fun _ _ => False), ?_, ?_⟩
      · rintro H3 ⟨N3, S3, acc3, ds3, z1, z2, z4⟩
        exact ⟨x.xs.length - (i + 1), by omega, N3, S3, acc3, ds3, rfl, hlt, z1, z2, z4⟩
      · intro y Hy hyld
        obtain ⟨sy, ky, ry⟩ := hy y Hy hyld
        have rlh := (rl.tr t2).mono sy
        have rsy := rs2.keep sy (fun a o _ e => ky a o e) (fun q hq => ky _ _ (rs2.pz q hq))
        refine ⟨d, wipeL L vs, Sc, _, ry, rlh.wipe vs, rsy, ?_⟩
        cases q2 : g d (wipeL L vs) Sc with
        | stuck => rw [q2] at h2; exact h2
        | exc e S3 => exact (hn _ _ _ _ _ q2).elim
        | ok L3 S3 =>
          rw [q2] at h2
          intro H3 M3 σ3 st3 rs3 rl3 w3
          refine ⟨Eq.trans w3 (wipe_wipe σ vs), L3, S3, M3, rl3, rs3, ?_⟩
          simp only [bind_ok] at h2
          cases q3 : c L3 S3 with
          | stuck => rw [q3] at h2; exact h2
          | exc e S4 => rw [q3] at h2; exact h2.elim
          | ok b S4 =>
            rw [q3] at h2
            simp only [bind_ok] at h2
            intro H4 M4 st4 rs4
            cases b with
            | false =>
              have s5 := (sy.trans st3).trans st4
              obtain ⟨N5, e5, st5⟩ := step_hot st2 hD s5
              subst e5
              exact ⟨N5, S4, acc, ds, ⟨st5, rs4, Reps.mono s5 _ _ rps⟩, t2.trans s5.tr, h2⟩
            | true =>
              simp only [if_true] at h2 ⊢
              refine ⟨L3, S4, M4, rl3.mono st4, rs4, ?_⟩
              cases q4 : e L3 S4 with
              | stuck => rw [q4] at h2; exact h2
              | exc e S5 => rw [q4] at h2; exact h2.elim
              | ok yd S5 =>
                rw [q4] at h2
                simp only [bind_ok] at h2
                intro yv H5 M5 st5 rs5 ry5
                have s6 := ((sy.trans st3).trans st4).trans st5
                obtain ⟨N6, e6, st6⟩ := step_hot st2 hD s6
                subst e6
                have rps6 := Reps.mono s6 _ _ rps
                split at h2
                · rename_i hlim
                  refine ⟨acc, rs5.pz (D0, .lst acc) List.mem_cons_self, by rw [← rps.length]; exact Nat.lt_of_lt_of_le hlim (lim_ok (Nat.le_refl _)), N6, S5, acc ++ [yv], ds ++ [yd], ⟨hot_write (acc' := acc) st6 hD, rehot_S rs5 hDp, ?_⟩, (t2.trans s6.tr).trans rehot_tr, h2⟩
                  exact Reps.tr rehot_tr _ _ (rps6.app (.cons ry5 .nil))
                · exact h2.elim
    · exact h2.elim
end
theorem ps_setLc2 {X : Cx} {elt tg iter tg1 iter1 : Expr} {ifs ifs1 : List Expr} {scope : Scope} {own : List (Str × Nat)} {vs1 : List Nat} {pos spos py : Pos} {wi wi1 : TI} {g g1 : TG} {tt tt1 : TT} {te : TE} {y : Str} {k : Nat} (hc : X.calm = true) (hN : X.N.Nodup) (hi : X.N[k]? = some y) (hl : List.lookup y X.env.scope.names = some NameKind.local)
    (hsw : swapsWith (.ListComp elt [⟨tg, iter, ifs, 0⟩, ⟨tg1, iter1, ifs1, 0⟩] scope pos) (some (.Name y py)) spos.line X.env = pure true) (hp : PI X tg iter wi) (ok : BlkOk X.N X.env.scope scope own) (hv : ∀ i ∈ vs1, i ∈ own.map (·.2))
    (hg : ∀ s H C cl fp, PG (blkX X scope s H C cl fp) tg g) (ht : ∀ s H C cl fp, PTs (blkX X scope s H C cl fp) ifs tt) (hi1 : ∀ s H C cl fp, PI (blkX X scope s H C cl fp) tg1 iter1 wi1)
    (hg1 : ∀ s H C cl fp, PG (blkX X scope s H C cl fp) tg1 g1) (ht1 : ∀ s H C cl fp, PTs (blkX X scope s H C cl fp) ifs1 tt1) (he : ∀ s H C cl fp, PE (blkX X scope s H C cl fp) elt te)
    (hs : ∀ x, foldedSetIterable iter X.env x = pure x) (hs1 : ∀ (env : Env) x, foldedSetIterable iter1 env x = pure x) :
    PS X (.Assign [.Name y py] (.ListComp elt [⟨tg, iter, ifs, 0⟩, ⟨tg1, iter1, ifs1, 0⟩] scope pos) spos) (tAsg (tLc2 wi g tt wi1 g1 tt1 te (own.map (·.2)) vs1) (gName k)) := by
  refine ⟨fun pins s σ H D I h => ?_⟩
  rw [exec_Assign_Name_used y py _ spos hsw, arm_evalThenUse_ListComp]
  refine wpAny_bind (wpAny_standAt ?_)
  refine wpAny_bind (wpAny_bind (lc2_core hc hN (I.tok _) hp ok hv hg ht he hs hi1 hg1 ht1 hs1 h fun D0 C s' m H' I' q hns hfp => ?_))
  obtain ⟨o, es, ep, ho, hd, hsk, hnf⟩ := id hns
  have I2 := I'.pinned (fp := [C]) (fun b hb => by rw [List.mem_singleton.mp hb]; exact hfp) (fun b hb => by rw [List.mem_singleton.mp hb]; exact ⟨o, ho, fun v e => by rw [hd] at e; cases e⟩)
  have hp1 : pinsAt [C] s'.heap = [(C, o)] := by
    unfold pinsAt
    simp [ho]
  rw [hp1] at I2
  refine thn ((pg_name (pos := py) hN hi (.inl hl) (.inr hl)).run _ s' σ H' (.ref D0) (.ref D0) D.nx I2 rfl q) fun _ s2 ⟨σ2, H2, I3, hn⟩ => ?_
  have hpin := I3.pin (C, o) (List.mem_append_right _ (List.mem_append_right _ List.mem_cons_self))
  obtain ⟨p1, p2, p3, p4, p5⟩ := hpin
  refine ⟨m, ⟨o, es, ep, p1, hd, hsk, hnf⟩, fun h' hb => ?_⟩
  obtain ⟨f1, f2, f3, f4, f5, f6⟩ := hfp
  have I4 := I3.unpinned.turned (h' := h') (t' := s2.toks) (it := C) (fun b u hne hu => by rw [hb.2 b hne]; exact hu) p2 p3 f4 f5 f6
  exact wpAny_pure (wpAny_pure ⟨σ2, H2, I4, hn⟩)
section
variable {X : Cx} {G : Gam} {W : WX} {H1 : Hp} {M1 : Mem} {D0 : Addr}
variable {elt tg iter tg1 iter1 : Expr} {ifs ifs1 : List Expr} {scope : Scope} {own : List (Str × Nat)} {pos : Pos} {mi mi1 : MI} {wi wi1 : TI} {g g1 : MG} {c c1 : MT} {e : ME}
theorem lc2_imp {vs vs1 : List Nat} (hk : IterOk G W mi wi) (hk1 : IterOk G WF mi1 wi1) (hn : noXG g) (hn1 : noXG g1) {σ : Stt} {H : Hp} {Q : VK} (h : tE G W (mLc2 mi vs g c mi1 vs1 g1 c1 e) σ H Q) : tLc2 wi (tG G (some vs) g) (tT G WF c) wi1 (tG G (some vs1) g1) (tT G WF c1) (tE G WF e) vs vs1 σ H Q := by
  obtain ⟨L, S, M, rl, rs, h⟩ := h
  refine hk σ H _ L S M rl rs ?_
  have h := fin_bind h
  unfold lcM2 at h
  cases q : mi L S with
  | stuck => rw [q] at h; exact h
  | exc e S1 => rw [q] at h; exact h
  | ok x S1 =>
    rw [q] at h
    intro J H1 M1 st rs1 jo D0 hD
    have h : Fin (lcF2 g c mi1 vs1 g1 c1 e (wipeL L vs) x.gd x.xs [] S1) (fun ds S' => PostV G H M Q (.lst ds) S') (fun _ _ => False) := fin_dry h
    have hD1 : ¬ M1.has D0 := rs1.fresh hD
    have hDp : ∀ q ∈ M1.p, q.1 ≠ D0 := fun q hq e => by
      have := rs1.pz q hq
      rw [e, hD] at this
      cases this
    have start0 : Step H1 M1 (upd H1 D0 (.lst [])) (M1.app []) := by
      rw [Mem.app_nil]
      exact Step.new hD
    have startT := hot_tr (u := .lst []) start0 hD
    have startS : RepS G (upd H1 D0 (.lst [])) ((M1.app []).hot D0 (.lst [])) S1 := by
      rw [Mem.app_nil] at startT ⊢
      refine rs1.to startT rfl (fun a o _ h => by rw [upd_ne (ne_of_none h hD)]; exact h) (fun a ha e => ?_) (fun a ha => ?_) (fun q hq => ?_) (fun q hq => ?_)
      · rcases List.mem_cons.mp ha with z | z
        · rw [z, upd_same] at e
          cases e
        · exact rs1.hz a z (dom_up e)
      · rcases List.mem_cons.mp ha with z | z
        · rw [z]
          exact fun y => hD1 (.inl y)
        · exact rs1.dj a z
      · rcases List.mem_cons.mp hq with z | z
        · rw [z]
          exact upd_same
        · rw [upd_ne (hDp q z)]
          exact rs1.pz q z
      · rcases List.mem_cons.mp hq with z | z
        · rw [z]
          exact fun y => hD1 (.inl y)
        · exact rs1.pj q z
    refine ⟨fun i m Hc => ∃ N Sc acc ds, m = x.xs.length - i ∧ i ≤ x.xs.length ∧ Mk2 G H1 M1 D0 Hc N Sc acc ds ∧ Fin (lcF2 g c mi1 vs1 g1 c1 e (wipeL L vs) x.gd (x.xs.drop i) ds Sc) (fun ds S' => PostV G H M Q (.lst ds) S') (fun _ _ => False),
      ⟨_, [], S1, [], [], rfl, Nat.zero_le _, ⟨start0, startS, .nil⟩, h⟩, ?_⟩
    rintro i m Hc ⟨N, Sc, acc, ds, em, hi, ⟨st2, rs2, rps⟩, h2⟩
    have t2 := hot_tr (u := .lst acc) st2 hD
    have tp : ∀ q ∈ M1.p, ¬ q.1 ∈ M1.z → q ∈ ((M1.app N).hot D0 (.lst acc)).p := fun q hq _ => List.mem_cons_of_mem _ hq
    cases hx : x.xs[i]? with
    | none =>
      have ei : i = x.xs.length := by
        have := List.getElem?_eq_none_iff.mp hx
        omega
      rw [ei, List.drop_length] at h2
      simp only [lcF2] at h2
      split at h2
      · rename_i hgd
        refine .inl ⟨by rw [ei]; exact jo.stop Hc _ Sc t2 tp rs2 hgd, ?_⟩
        refine h2 _ _ (M1.app N) (st.trans st2) (cool_S rs2) (.lst ?_ (rs2.pz (D0, .lst acc) List.mem_cons_self) (Reps.tr cool_tr _ _ rps))
        rintro (z | z)
        · exact rs2.dj D0 List.mem_cons_self z
        · exact hD1 (.inr z)
      · exact h2.elim
    | some d =>
      have hlt := (List.getElem?_eq_some_iff.mp hx).1
      have ed : x.xs.drop i = d :: x.xs.drop (i + 1) := by
        rw [List.drop_eq_getElem_cons hlt]
        rw [List.getElem?_eq_getElem hlt] at hx
        rw [Option.some.inj hx]
      rw [ed] at h2
      simp only [lcF2] at h2
      split at h2
      · rename_i hgd
        obtain ⟨hgo, hy⟩ := jo.go Hc _ Sc i d t2 tp rs2 hgd hx
        refine .inr ⟨hgo, fun H3 => ∃ N3 S3 acc3 ds3, Mk2 G H1 M1 D0 H3 N3 S3 acc3 ds3 ∧ Fin (lcF2 g c mi1 vs1 g1 c1 e (wipeL L vs) x.gd (x.xs.drop (i + 1)) ds3 S3) (fun ds S' => PostV G H M Q (.lst ds) S') (fun _ _ => False), ?_, ?_⟩
        · rintro H3 ⟨N3, S3, acc3, ds3, z1, z4⟩
          exact ⟨x.xs.length - (i + 1), by omega, N3, S3, acc3, ds3, rfl, hlt, z1, z4⟩
        · intro y Hy hyld
          obtain ⟨sy, ky, ry⟩ := hy y Hy hyld
          have rlh := ((rl.mono st).tr t2).mono sy
          have rsy := rs2.keep sy (fun a o _ e => ky a o e) (fun q hq => ky _ _ (rs2.pz q hq))
          refine ⟨d, wipeL L vs, Sc, _, ry, rlh.wipe vs, rsy, ?_⟩
          cases q2 : g d (wipeL L vs) Sc with
          | stuck => rw [q2] at h2; exact h2
          | exc e S3 => exact (hn _ _ _ _ _ q2).elim
          | ok L3 S3 =>
            rw [q2] at h2
            intro H3 M3 σ3 st3 rs3 rl3 w3
            refine ⟨Eq.trans w3 (wipe_wipe σ vs), L3, S3, M3, rl3, rs3, ?_⟩
            simp only [bind_ok] at h2
            cases q3 : c L3 S3 with
            | stuck => rw [q3] at h2; exact h2
            | exc e S4 => rw [q3] at h2; exact h2.elim
            | ok b S4 =>
              rw [q3] at h2
              simp only [bind_ok] at h2
              intro H4 M4 st4 rs4
              have s5 := (sy.trans st3).trans st4
              obtain ⟨N5, e5, st5⟩ := step_hot st2 hD s5
              subst e5
              cases b with
              | false => exact ⟨N5, S4, acc, ds, ⟨st5, rs4, Reps.mono s5 _ _ rps⟩, h2⟩
              | true =>
                simp only [if_true] at h2 ⊢
                refine hk1 σ3 H4 _ L3 S4 _ (rl3.mono st4) rs4 ?_
                cases q4 : mi1 L3 S4 with
                | stuck => rw [q4] at h2; exact h2
                | exc e S5 => rw [q4] at h2; exact h2.elim
                | ok x1 S5 =>
                  rw [q4] at h2
                  simp only [bind_ok] at h2
                  intro J1 H5 M5 st6 rs6 jo1
                  have s7 := s5.trans st6
                  obtain ⟨N7, e7, st7⟩ := step_hot st2 hD s7
                  subst e7
                  exact inner_imp hn1 hD hDp ⟨st7, rs6, Reps.mono s7 _ _ rps⟩ ((rl3.mono st4).mono st6) jo1 (fun Hc' N' Sc' acc' ds' mk _ hP => ⟨N', Sc', acc', ds', mk, hP⟩) (fin_bind h2)
      · exact h2.elim
theorem e_lc2 {vs1 : List Nat} (hc : X.calm = true) (hN : X.N.Nodup) (hi : PI X tg iter wi) (hk : IterOk G W mi wi) (ok : BlkOk X.N X.env.scope scope own) (hv : ∀ i ∈ vs1, i ∈ own.map (·.2)) (hn : noXG g) (hn1 : noXG g1)
    (hg : ∀ s H C cl fp, PG (blkX X scope s H C cl fp) tg (tG G (some (own.map (·.2))) g)) (ht : ∀ s H C cl fp, PTs (blkX X scope s H C cl fp) ifs (tT G WF c)) (hi1 : ∀ s H C cl fp, PI (blkX X scope s H C cl fp) tg1 iter1 wi1) (hk1 : IterOk G WF mi1 wi1)
    (hg1 : ∀ s H C cl fp, PG (blkX X scope s H C cl fp) tg1 (tG G (some vs1) g1)) (ht1 : ∀ s H C cl fp, PTs (blkX X scope s H C cl fp) ifs1 (tT G WF c1)) (he : ∀ s H C cl fp, PE (blkX X scope s H C cl fp) elt (tE G WF e))
    (hs : ∀ x, foldedSetIterable iter X.env x = pure x := by intro _; rfl) (hs1 : ∀ (env : Env) x, foldedSetIterable iter1 env x = pure x := by intro _ _; rfl) : PE X (.ListComp elt [⟨tg, iter, ifs, 0⟩, ⟨tg1, iter1, ifs1, 0⟩] scope pos) (tE G W (mLc2 mi (own.map (·.2)) g c mi1 vs1 g1 c1 e)) :=
  pe_imp (pe_lc2 hc hN hi ok hv hg ht hi1 hg1 ht1 he hs hs1) fun _ _ _ h => lc2_imp hk hk1 hn hn1 h
theorem b_setLc2 {vs1 : List Nat} {k : Nat} {y : Str} {py spos : Pos} (hc : X.calm = true) (hN : X.N.Nodup) (hy : X.N[k]? = some y) (hl : List.lookup y X.env.scope.names = some NameKind.local) (hsw : swapsWith (.ListComp elt [⟨tg, iter, ifs, 0⟩, ⟨tg1, iter1, ifs1, 0⟩] scope pos) (some (.Name y py)) spos.line X.env = pure true)
    (hi : PI X tg iter wi) (hk : IterOk G W mi wi) (ok : BlkOk X.N X.env.scope scope own) (hv : ∀ i ∈ vs1, i ∈ own.map (·.2)) (hn : noXG g) (hn1 : noXG g1)
    (hg : ∀ s H C cl fp, PG (blkX X scope s H C cl fp) tg (tG G (some (own.map (·.2))) g)) (ht : ∀ s H C cl fp, PTs (blkX X scope s H C cl fp) ifs (tT G WF c)) (hi1 : ∀ s H C cl fp, PI (blkX X scope s H C cl fp) tg1 iter1 wi1) (hk1 : IterOk G WF mi1 wi1)
    (hg1 : ∀ s H C cl fp, PG (blkX X scope s H C cl fp) tg1 (tG G (some vs1) g1)) (ht1 : ∀ s H C cl fp, PTs (blkX X scope s H C cl fp) ifs1 (tT G WF c1)) (he : ∀ s H C cl fp, PE (blkX X scope s H C cl fp) elt (tE G WF e))
    (hs : ∀ x, foldedSetIterable iter X.env x = pure x := by intro _; rfl) (hs1 : ∀ (env : Env) x, foldedSetIterable iter1 env x = pure x := by intro _ _; rfl) : PS X (.Assign [.Name y py] (.ListComp elt [⟨tg, iter, ifs, 0⟩, ⟨tg1, iter1, ifs1, 0⟩] scope pos) spos) (tB G W (bAsg (mLc2 mi (own.map (·.2)) g c mi1 vs1 g1 c1 e) (gN k))) :=
  ps_imp (ps_setLc2 hc hN hy hl hsw hi ok hv hg ht hi1 hg1 ht1 he hs hs1) fun D' σ H h => by
    have h2 := asg_imp (t := gName k) (gN_noX k) (fun v σ H Q ⟨d, L, S, M, rp, rl, rs, h⟩ => h H M _ (Step.refl H M) rs (rl.set k rp) trivial) h
    exact lc2_imp hk hk1 hn hn1 h2
end
end MM
set_option linter.all false
set_option maxRecDepth 100000
set_option maxHeartbeats 2000000
namespace MM
open PySem PySem.Spec PyProof.Rows L2 PySem.W PySem.Calls
/-! ## sorted of a list or a tuple of data -/
section
variable {prog : Program} {w : World} {A : Around} {E : Value → Shared → Prop} {s : Shared}
theorem collect_tup {l : Addr} {vs : List Value} {Q : List Value → Shared → Prop} (hl : IsTup s.heap l vs.toArray)
    (h : Q vs { s with heap := (s.heap.push (seqObj "list" #[] 0)).update s.heap.objs.size (Obj.mapSeq (· ++ vs.toArray)) }) (hsz : vs.length ≤ sizeLine) :
    wpAny (model prog w) A (collect (.ref l)) Q E s := by
  obtain ⟨o, ho, hc, n, hd⟩ := id hl
  unfold collect
  refine wpAny_bind (wpAny_runValue (codeAny_builtin entry_proto_collect' ?_))
  show wpAny _ _ (do again (.builtin "list.__iadd__" ⟨[← newList [], .ref l], []⟩)) _ _ s
  refine wpAny_bind (wpAny_newList (wpAny_pure ⟨Code.quiet_builtin _ (by decide +kernel), codeAny_builtin entry_list_iadd' ?_⟩))
  show wpAny _ _ (Builtin.List.listExtendWith (.ref s.heap.objs.size) (.ref l) (.ref s.heap.objs.size)) _ _ { s with heap := s.heap.push (seqObj "list" #[] 0) }
  unfold Builtin.List.listExtendWith
  have ho' : (s.heap.push (seqObj "list" #[] 0)).get? l = some o := Heap.get?_push_of_some _ ho
  refine wpAny_bind (wpAny_typeOf (T := "tuple") ⟨o, ho', hc⟩ ?_)
  have ht : (Value.type "tuple" == Value.type "tuple") = true := by rfl
  rw [if_pos (by rw [ht]; simp)]
  refine wpAny_bind (listItems_at ho' hd ?_)
  refine wpAny_bind (listItems_at (xs := #[]) (n := 0) (Heap.get?_push_size _ rfl) rfl ?_)
  rw [if_neg (by simp)]
  refine wpAny_bind (listUpdate_at (xs := #[]) (n := 0) (Heap.get?_push_size _ rfl) rfl ?_ (Nat.zero_le _) (by show (#[] ++ vs.toArray).size ≤ sizeLine + 1; simp only [Array.size_append, List.size_toArray, List.length_nil]; omega))
  refine wpAny_pure ?_
  show wpAny (model prog w) A (do
      let o ← load s.heap.objs.size
      match o.data with
      | .seq xs _ => pure xs.toList
      | _ => unsupported "internal:collect") Q E { s with heap := (s.heap.push (seqObj "list" #[] 0)).update s.heap.objs.size (Obj.mapSeq (· ++ vs.toArray)) }
  refine wpAny_bind (wpAny_load (get?_update_seq (Heap.get?_push_size _ rfl) _) ?_)
  show wpAny _ _ (pure ((#[] : Array Value) ++ vs.toArray).toList) Q E _
  rw [show ((#[] : Array Value) ++ vs.toArray).toList = vs by simp]
  exact wpAny_pure h
theorem sorted_tup {κ : PyProof.Rows.KeyKind} {l : Addr} {vs : List Value} {Q : Value → Shared → Prop} (hl : IsTup s.heap l vs.toArray) (hL : vs.length ≤ sizeLine)
    (S : SortsAt prog w A.in1.in1 { s with heap := sortingHeap (copyHeap s.heap vs) (s.heap.objs.size + 1) vs } κ vs)
    (h : Q (.ref (s.heap.objs.size + 1)) { s with heap := sortedAll s.heap vs (sortVals κ false vs vs).toArray }) :
    wpAny (model prog w) A (call (.builtin "sorted") [.ref l]) Q E s := by
  refine Calls.call_function_entry kind_sorted plain_sorted entry_sorted (args_sorted1 _) ?_
  unfold Builtin.«sorted»
  refine wpAny_bind (m := checkCount "sorted" 1 1 _) (wpAny_pure ?_)
  refine wpAny_bind (collect_tup hl ?_ hL)
  refine wpAny_bind (wpAny_newList ?_ hL)
  have hsz : ((s.heap.push (seqObj "list" #[] 0)).update s.heap.objs.size (Obj.mapSeq (· ++ vs.toArray))).objs.size = s.heap.objs.size + 1 := by
    rw [Heap.size_update, size_push']
  show wpAny _ _ _ _ _ { s with heap := copyHeap s.heap vs }
  rw [hsz]
  refine wpAny_bind (wpAny_holding (wpAny_call_entry slot_list_sort ⟨_, copyHeap_at s.heap vs, rfl⟩ entry_list_sort ?body (args_list_sort _)))
  case body => exact list_sort_vals (s := { s with heap := copyHeap s.heap vs }) (copyHeap_at s.heap vs) S hL ⟨_, rfl, wpAny_pure ⟨_, rfl, h⟩⟩
theorem sortsAt_one {vs : List Value} {ds : List PyData} (e : EachIs (fun v d => ∃ as, Reads s.heap v d as) vs ds) (hal : AllAlike ds) (h1 : ds.length ≤ 1) (hn : ∀ d, d ∈ ds → d ≠ .none) (hu : ∀ d, d ∈ ds → A.units + d.depth < cLine) : SortsAt prog w A s (dataKind s.heap ds) vs := by
  have room : ∀ {d d' : PyData}, d ∈ ds → A.units + min d.depth d'.depth < cLine := fun {d d'} hd => Nat.lt_of_le_of_lt (Nat.add_le_add_left (Nat.min_le_left _ _) _) (hu d hd)
  refine ⟨fun v hv => ?_, general', ?_, fun h2 => ?_⟩
  · obtain ⟨d, hd, as, r⟩ := e.left v hv
    exact ⟨_, dataKind_some hal hd r⟩
  · intro E x y a b Q ha hb hq
    obtain ⟨d, as, hd, ra, rfl⟩ := dataKind_inv ha
    obtain ⟨d', as', hd', rb, rfl⟩ := dataKind_inv hb
    have : keyLt' general' x y = oneLt' false x y := rfl
    rw [this]
    exact oneLt_alike (fun h => nomatch h) ra rb (hal d hd d' hd') (hn d hd) (room hd) hq
  · have := e.length
    omega
theorem sortsAt_any {vs : List Value} {ds : List PyData} (e : EachIs (fun v d => ∃ as, Reads s.heap v d as) vs ds) (hal : AllAlike ds) (hk : Sortable ds ∨ (ds.length ≤ 1 ∧ ∀ d, d ∈ ds → d ≠ .none)) (hu : ∀ d, d ∈ ds → A.units + d.depth < cLine) : SortsAt prog w A s (dataKind s.heap ds) vs :=
  hk.elim (fun hk => SortsAt.data e hal hk hu) fun hk => sortsAt_one e hal hk.1 hk.2 hu
theorem sorted_lst_data {β : Type} {vs : List Value} {bs : List β} {enc : β → PyData} {R : Value → β → Prop} {l : Addr} {Q : Value → Shared → Prop} (hl : s.heap.IsList l vs.toArray) (e : EachIs R vs bs) (er : EachIs (fun v b => ∃ as, Reads s.heap v (enc b) as) vs bs) (hal : AllAlike (bs.map enc)) (hk : Sortable (bs.map enc) ∨ ((bs.map enc).length ≤ 1 ∧ ∀ d, d ∈ bs.map enc → d ≠ .none)) (hL : bs.length ≤ sizeLine)
    (hu : ∀ b, b ∈ bs → A.units + 2 + (enc b).depth < cLine) (h : ∀ out, out.length = bs.length → EachIs R out (bs.mergeSort (dataLe false enc)) → Q (.ref (s.heap.objs.size + 1)) { s with heap := sortedAll s.heap vs (List.toArray out) }) :
    wpAny (model prog w) A (call (.builtin "sorted") [.ref l]) Q E s := by
  have er' : EachIs (fun v b => ∃ as, Reads (sortingHeap (copyHeap s.heap vs) (s.heap.objs.size + 1) vs) v (enc b) as) vs bs := er.mono fun _ _ ⟨as, r⟩ => ⟨as, PyProof.Rows.Reads.keeps (fun _ _ => sorting_copy_old) r⟩
  exact sorted_vals hl (sortsAt_any (s := { s with heap := sortingHeap (copyHeap s.heap vs) (s.heap.objs.size + 1) vs }) (each_map (R := fun v d => ∃ as, Reads (sortingHeap (copyHeap s.heap vs) (s.heap.objs.size + 1) vs) v d as) enc er') hal hk (bound_map hu)) (by rw [e.length]; exact hL)
    (h _ (by rw [sortVals_length false rfl]; exact e.length) (sortVals_data false e er' hal))
theorem sorted_tup_data {β : Type} {vs : List Value} {bs : List β} {enc : β → PyData} {R : Value → β → Prop} {l : Addr} {Q : Value → Shared → Prop} (hl : IsTup s.heap l vs.toArray) (e : EachIs R vs bs) (er : EachIs (fun v b => ∃ as, Reads s.heap v (enc b) as) vs bs) (hal : AllAlike (bs.map enc)) (hk : Sortable (bs.map enc) ∨ ((bs.map enc).length ≤ 1 ∧ ∀ d, d ∈ bs.map enc → d ≠ .none)) (hL : bs.length ≤ sizeLine)
    (hu : ∀ b, b ∈ bs → A.units + 2 + (enc b).depth < cLine) (h : ∀ out, out.length = bs.length → EachIs R out (bs.mergeSort (dataLe false enc)) → Q (.ref (s.heap.objs.size + 1)) { s with heap := sortedAll s.heap vs (List.toArray out) }) :
    wpAny (model prog w) A (call (.builtin "sorted") [.ref l]) Q E s := by
  have er' : EachIs (fun v b => ∃ as, Reads (sortingHeap (copyHeap s.heap vs) (s.heap.objs.size + 1) vs) v (enc b) as) vs bs := er.mono fun _ _ ⟨as, r⟩ => ⟨as, PyProof.Rows.Reads.keeps (fun _ _ => sorting_copy_old) r⟩
  exact sorted_tup hl (by rw [e.length]; exact hL) (sortsAt_any (s := { s with heap := sortingHeap (copyHeap s.heap vs) (s.heap.objs.size + 1) vs }) (each_map (R := fun v d => ∃ as, Reads (sortingHeap (copyHeap s.heap vs) (s.heap.objs.size + 1) vs) v d as) enc er') hal hk (bound_map hu))
    (h _ (by rw [sortVals_length false rfl]; exact e.length) (sortVals_data false e er' hal))
end
end MM
set_option linter.all false
set_option maxRecDepth 100000
set_option maxHeartbeats 2000000
namespace MM
open PySem PySem.Spec PyProof.Rows L2
def encD (d : D) : PyData := (toP d).getD .none
noncomputable def leD (x y : D) : Bool := PySem.W.dataLe false encD x y
def tup1 : PyData → Bool
  | .tuple (_ :: _) => true
  | _ => false
def noTup : PyData → Bool
  | .tuple _ => false
  | .none => false
  | _ => true
def notNone : PyData → Bool
  | .none => false
  | _ => true
theorem notNone_spec {d : PyData} (h : notNone d = true) : d ≠ .none := fun e => by rw [e] at h; cases h
theorem noTup_spec : ∀ {d : PyData}, noTup d = true → d ≠ .none ∧ ∀ xs, d ≠ .tuple xs
  | .none, h => nomatch h
  | .tuple _, h => nomatch h
  | .bool _, _ => ⟨(fun z => nomatch z), (fun _ z => nomatch z)⟩
  | .int _, _ => ⟨(fun z => nomatch z), (fun _ z => nomatch z)⟩
  | .str _, _ => ⟨(fun z => nomatch z), (fun _ z => nomatch z)⟩
  | .list _, _ => ⟨(fun z => nomatch z), (fun _ z => nomatch z)⟩
  | .dict _, _ => ⟨(fun z => nomatch z), (fun _ z => nomatch z)⟩
theorem tup1_spec : ∀ {d : PyData}, tup1 d = true → ∃ x r, d = .tuple (x :: r)
  | .tuple (x :: r), _ => ⟨x, r, rfl⟩
  | .tuple [], h => nomatch h
  | .none, h => nomatch h
  | .bool _, h => nomatch h
  | .int _, h => nomatch h
  | .str _, h => nomatch h
  | .list _, h => nomatch h
  | .dict _, h => nomatch h
def sortOk (xs : List D) : Bool := xs.all (fun d => (toP d).isSome) && xs.all (fun x => xs.all fun y => PySem.W.alike (encD x) (encD y)) && ((xs.all (fun d => tup1 (encD d)) || xs.all fun d => noTup (encD d)) || (decide (xs.length ≤ 1) && xs.all fun d => notNone (encD d))) && xs.all fun d => decide ((encD d).depth ≤ 60)
noncomputable def bSorted : FB := fn1 fun d S => match seqD S d with
  | some xs => if sortOk xs = true then .ok (.lst (xs.mergeSort leD)) S else .stuck
  | none => .stuck
noncomputable def bSortedC : FB := fn1 fun d S => match seqD S d with
  | some xs => if sortOk xs = true then .ok (.loc S.length) (S ++ [.lst (xs.mergeSort leD)]) else .stuck
  | none => .stuck
def rSortedD (K : PySem.W.Frag) : List V → Hp → VK → Prop := fun vs H Q => ∃ (a : Addr) (zs : List (V × D)), vs = [V.ref a] ∧ (SqT K H a (zs.map (·.1)) ∨ SqL K H a (zs.map (·.1))) ∧ (∀ z ∈ zs, Dp K H z.1 (encD z.2)) ∧ sortOk (zs.map (·.2)) = true ∧
  ∀ l, H l = none → Q (.ref l) (upd H l (.lst ((zs.mergeSort fun p q => leD p.2 q.2).map (·.1))))
section
variable {X : Cx} {G : Gam} {W : WX} {H : Hp} {M : Mem} {S : Sto}
theorem reps_zip : ∀ {xs : List D} {vs : List V}, Reps G H M xs vs → ∃ zs : List (V × D), zs.map (·.1) = vs ∧ zs.map (·.2) = xs ∧ ∀ z ∈ zs, Rep G H M z.2 z.1
  | _, _, .nil => ⟨[], rfl, rfl, fun _ z => nomatch z⟩
  | _, _, .cons (d := d) (v := v) r rs => by
    obtain ⟨zs, e1, e2, h⟩ := reps_zip rs
    refine ⟨(v, d) :: zs, by rw [List.map_cons, e1], by rw [List.map_cons, e2], fun z hz => ?_⟩
    rcases List.mem_cons.mp hz with rfl | hz
    · exact r
    · exact h z hz
theorem zip_reps : ∀ {zs : List (V × D)}, (∀ z ∈ zs, Rep G H M z.2 z.1) → Reps G H M (zs.map (·.2)) (zs.map (·.1))
  | [], _ => .nil
  | z :: zs, h => .cons (h z List.mem_cons_self) (zip_reps fun y hy => h y (List.mem_cons_of_mem _ hy))
theorem sorted_pairs {xs : List D} {vs : List V} (hr : Reps G H M xs vs) (ok : G.Ok) (hs : sortOk xs = true) : ∃ zs : List (V × D), zs.map (·.1) = vs ∧ zs.map (·.2) = xs ∧ (∀ z ∈ zs, Dp G.K H z.1 (encD z.2)) ∧ Reps G H M (xs.mergeSort leD) ((zs.mergeSort fun p q => leD p.2 q.2).map (·.1)) := by
  obtain ⟨zs, e1, e2, h⟩ := reps_zip hr
  refine ⟨zs, e1, e2, fun z hz => ?_, ?_⟩
  · have hm : z.2 ∈ xs := e2 ▸ List.mem_map_of_mem hz
    unfold sortOk at hs
    simp only [Bool.and_eq_true, List.all_eq_true] at hs
    obtain ⟨p, hp⟩ := Option.isSome_iff_exists.mp (hs.1.1.1 _ hm)
    have : encD z.2 = p := by unfold encD; rw [hp]; rfl
    rw [this]
    exact toP_ok ok _ _ _ (h z hz) hp
  · have e : xs.mergeSort leD = (zs.mergeSort fun p q => leD p.2 q.2).map (·.2) := by
      rw [← e2]
      exact (PySem.W.sort_maps (r := fun p q : V × D => leD p.2 q.2) (s := leD) (fun p => p.2) fun _ _ _ _ => rfl).symm
    rw [e]
    exact zip_reps fun z hz => h z ((List.mergeSort_perm _ _).mem_iff.mp hz)
theorem bSorted_ok (ok : G.Ok) : CallM G bSorted (rSortedD G.K) := fn1_ok fun d v H M S Q rx rs h => by
  split at h
  · rename_i xs hx
    split at h
    · rename_i hs
      obtain ⟨a, vs, e, h1, h2⟩ := seqD_ok ok rs rx hx
      subst e
      obtain ⟨zs, e1, e2, h3, h4⟩ := sorted_pairs h2 ok hs
      subst e1 e2
      exact ⟨a, zs, rfl, h1, h3, hs, end_lst rs h h4⟩
    · exact h.elim
  · exact h.elim
theorem bSortedC_ok (ok : G.Ok) : CallM G bSortedC (rSortedD G.K) := fn1_ok fun d v H M S Q rx rs h => by
  split at h
  · rename_i xs hx
    split at h
    · rename_i hs
      obtain ⟨a, vs, e, h1, h2⟩ := seqD_ok ok rs rx hx
      subst e
      obtain ⟨zs, e1, e2, h3, h4⟩ := sorted_pairs h2 ok hs
      subst e1 e2
      exact ⟨a, zs, rfl, h1, h3, hs, end_cell rs h h4⟩
    · exact h.elim
  · exact h.elim
theorem bSortedK {K : PySem.W.Frag} (ok : G.Ok) (hK : G.K = K) : CallM G bSorted (rSortedD K) := hK ▸ bSorted_ok ok
theorem bSortedCK {K : PySem.W.Frag} (ok : G.Ok) (hK : G.K = K) : CallM G bSortedC (rSortedD K) := hK ▸ bSortedC_ok ok
theorem vals_each : ∀ {zs : List (V × D)} {us : List Value}, Vals (zs.map (·.1)) us → PySem.W.EachIs (fun (u : Value) (z : V × D) => RelV z.1 u) us zs
  | [], _, .nil => .nil
  | z :: zs, _, .cons r t => .cons r (vals_each t)
theorem each_vals : ∀ {zs : List (V × D)} {us : List Value}, PySem.W.EachIs (fun (u : Value) (z : V × D) => RelV z.1 u) us zs → Vals (zs.map (·.1)) us
  | [], _, .nil => .nil
  | z :: zs, _, .cons r t => .cons r (each_vals t)
theorem each_with {α β : Type} {R R' : α → β → Prop} {P : β → Prop} (hm : ∀ a b, R a b → P b → R' a b) : ∀ {as : List α} {bs : List β}, PySem.W.EachIs R as bs → (∀ b ∈ bs, P b) → PySem.W.EachIs R' as bs
  | _, _, .nil, _ => .nil
  | _, _, .cons r t, h => .cons (hm _ _ r (h _ List.mem_cons_self)) (each_with hm t fun b hb => h b (List.mem_cons_of_mem _ hb))
theorem call_sortedA (hu : X.A.units + 65 < cLine) : CallR X (.builtin "sorted") (rSortedD X.K) := by
  intro pins s σ H vs us Q I r h
  obtain ⟨a, zs, rfl, hs, hd, hk, q⟩ := h
  rw [Vals.ref1 r]
  unfold sortOk at hk
  simp only [Bool.and_eq_true, Bool.or_eq_true, List.all_eq_true, List.mem_map, decide_eq_true_eq] at hk
  obtain ⟨⟨⟨_, k2⟩, k3⟩, k4⟩ := hk
  have hal : PySem.W.AllAlike (zs.map fun z => encD z.2) := fun d hd d' hd' => by
    obtain ⟨z, hz, rfl⟩ := List.mem_map.mp hd
    obtain ⟨z', hz', rfl⟩ := List.mem_map.mp hd'
    exact k2 _ ⟨z, hz, rfl⟩ _ ⟨z', hz', rfl⟩
  have hso : PySem.W.Sortable (zs.map fun z => encD z.2) ∨ ((zs.map fun z => encD z.2).length ≤ 1 ∧ ∀ d, d ∈ zs.map (fun z => encD z.2) → d ≠ .none) := by
    rcases k3 with (k3 | k3) | k3
    · refine .inl (.inl fun d hd => ?_)
      obtain ⟨z, hz, rfl⟩ := List.mem_map.mp hd
      exact tup1_spec (k3 _ ⟨z, hz, rfl⟩)
    · refine .inl (.inr fun d hd => ?_)
      obtain ⟨z, hz, rfl⟩ := List.mem_map.mp hd
      exact noTup_spec (k3 _ ⟨z, hz, rfl⟩)
    · refine .inr ⟨by simpa using k3.1, fun d hd => ?_⟩
      obtain ⟨z, hz, rfl⟩ := List.mem_map.mp hd
      exact notNone_spec (k3.2 _ ⟨z, hz, rfl⟩)
  have hdep : ∀ b ∈ zs, X.A.units + 2 + (encD b.2).depth < cLine := fun b hb => by
    have := k4 _ ⟨b, hb, rfl⟩
    omega
  have fin : ∀ its : List Value, Vals (zs.map (·.1)) its → zs.length ≤ sizeLine → ∀ out : List Value, out.length = zs.length → PySem.W.EachIs (fun (u : Value) (z : V × D) => RelV z.1 u) out (zs.mergeSort (PySem.W.dataLe false fun z => encD z.2)) →
      ∃ v H', Inv X pins σ H' { s with heap := sortedAll s.heap its (List.toArray out) } ∧ RelV v (.ref (s.heap.objs.size + 1)) ∧ Q v H' := fun its rv hz out hl he => by
    obtain ⟨ep, he'⟩ := PyProof.Rows.sortedAll_at s.heap its out.toArray
    have hlen : ((zs.mergeSort fun p q => leD p.2 q.2).map (·.1)).length ≤ sizeLine := by
      rw [List.length_map, List.length_mergeSort]
      exact hz
    exact ⟨.ref _, upd H (s.heap.objs.size + 1) (.lst ((zs.mergeSort fun p q => leD p.2 q.2).map (·.1))), I.laid (t' := s.toks) (fun _ _ => PyProof.Rows.sortedAll_old) (Nat.le_succ _) ⟨hlen, out, ep, each_vals he, he'⟩, rfl, q _ (I.hok.fresh (Nat.le_succ _))⟩
  rcases hs with hs | hs
  · obtain ⟨its, rv, hl, hz⟩ := I.tuple hs
    rw [List.length_map] at hz
    have e := vals_each rv
    exact sorted_tup_data (enc := fun z : V × D => encD z.2) hl e (each_with (fun u z r hz => Dp.reads I (encD z.2) _ u hz r) e hd) hal hso hz hdep fun out h1 h2 => fin its rv hz out h1 h2
  · obtain ⟨its, rv, hl, hz⟩ := I.list hs
    rw [List.length_map] at hz
    have e := vals_each rv
    exact sorted_lst_data (enc := fun z : V × D => encD z.2) hl.isList e (each_with (fun u z r hz => Dp.reads I (encD z.2) _ u hz r) e hd) hal hso hz hdep fun out h1 h2 => fin its rv hz out h1 h2
end
end MM
set_option linter.all false
set_option maxRecDepth 100000
set_option maxHeartbeats 2000000
namespace MM
open PySem PySem.Spec PyProof.Rows L2
set_option maxHeartbeats 4000000 in
theorem meets_enum1 {v : Value} {o : Obj} {H : Heap → Prop} (B : Begins v o H) :
    Meets (Builtin.«enumerate.__new__» ⟨[.type "enumerate", v], []⟩) (fun _ R s => H s.heap ∧
      R (.ok (.ret (.ref (s.heap.push o).objs.size))) { s with heap := (s.heap.push o).push { cls := .type "enumerate", data := .fields #[.none, .bool false, .ref s.heap.objs.size, rawInt 0, .none, .none] } }) :=
  .of_wp fun prog w A R s h => by
    obtain ⟨hp, g, d, tk, os⟩ := s; obtain ⟨h1, h⟩ := h
    have hsub := sub_enumerate
    have q1 : ∀ {A' : Around} {E : Value → Shared → Prop} {Q : Value → Shared → Prop}, Q (.ref hp.objs.size) ⟨hp.push o, g, d, tk, os⟩ → wpAny (model prog w) A' (pyIter v) Q E ⟨hp, g, d, tk, os⟩ :=
      fun q => B.iter prog w _ _ ⟨hp, g, d, tk, os⟩ _ h1 q
    wp_walk using q1
    refine wpAny_stack_any fun st => wpAny_pure ?_
    split
    · rename_i c _ _ _ _ _
      cases (c == Value.type "enumerate")
      · wp_walk using q1
        exact ⟨_, rfl, h⟩
      · wp_walk using q1
        exact ⟨_, rfl, h⟩
    · wp_walk using q1
      exact ⟨_, rfl, h⟩
section
variable {prog : Program} {w : World} {A : Around} {E : Value → Shared → Prop} {s : Shared}
theorem enum_begins1 {v : Value} {o : Obj} {H : Heap → Prop} {Q : Value → Shared → Prop} (B : Begins v o H) (h1 : H s.heap)
    (h : ∀ h', IsEnum h' (s.heap.objs.size + 1) s.heap.objs.size 0 .none → h'.get? s.heap.objs.size = some o → h'.objs.size = s.heap.objs.size + 2 →
      (∀ b o, s.heap.get? b = some o → h'.get? b = some o) → Q (.ref (s.heap.objs.size + 1)) { s with heap := h' }) :
    wpAny (model prog w) A (call (.type "enumerate") [v]) Q E s := by
  refine callType_new F.called_enumerate (by decide) (F.typeCall_enumerate_1 _) (F.newCall_enumerate_1 _) (fun obj => F.args_object_init_2 obj _) F.entry_enumerate_new
    (meets_enum1 B) ⟨h1, ?_⟩
  have hz : (s.heap.push o).objs.size = s.heap.objs.size + 1 := Heap.size_push ..
  show _ ∧ _
  rw [hz]
  have he : IsEnum ((s.heap.push o).push { cls := .type "enumerate", data := .fields #[.none, .bool false, .ref s.heap.objs.size, rawInt 0, .none, .none] }) (s.heap.objs.size + 1) s.heap.objs.size 0 .none := by
    have := Heap.get?_push_size (s.heap.push o) (o := { cls := .type "enumerate", data := .fields #[.none, .bool false, .ref s.heap.objs.size, rawInt 0, .none, .none] }) rfl
    rw [hz] at this; exact this
  refine ⟨⟨_, he, rfl⟩, h _ he (Heap.get?_push_of_some _ (Heap.get?_push_size _ B.free)) (by rw [Heap.size_push, hz]) fun b o x => Heap.get?_push_of_some _ (Heap.get?_push_of_some _ x)⟩
end
/-- the tuple at a, each item in a new pair -/
def IteT (K : PySem.W.Frag) (a : Addr) : It :=
  ⟨fun i H => ∃ (xs : List V) (x : V), SqT K H a xs ∧ xs[i]? = some x, fun i H v H' => ∃ T x, v = .ref T ∧ H T = none ∧ H' = upd H T (.tup [.int (i : Nat), x]) ∧ ∀ xs, SqT K H a xs → xs[i]? = some x, fun i H => ∃ xs : List V, SqT K H a xs ∧ xs.length ≤ i⟩
theorem tup_inj {X : Cx} {pins : List (Addr × Obj)} {σ : L2.St} {H : Hp} {s : Shared} {a : Addr} {xs ys : List V} (I : Inv X pins σ H s) (h : SqT X.K H a xs) (h' : SqT X.K H a ys) : xs = ys := by
  obtain ⟨its, r, ⟨o, e, _, n, d⟩, _⟩ := I.tuple h
  obtain ⟨its', r', ⟨o', e', _, n', d'⟩, _⟩ := I.tuple h'
  rw [e] at e'; cases e'
  rw [d] at d'
  injection d' with d1 _
  have : its = its' := by simpa using congrArg Array.toList d1
  subst this
  exact r.inj r'
theorem turn_enumT {P : Program} {w : World} {K : PySem.W.Frag} {elts : List Expr} {kk : Nat} {tpos : Pos} (a e it : Addr) :
    Turn P w K (.Tuple elts kk tpos) (IteT K a) [e, it] e (fun i h => (∃ old, IsEnum h e it ((i : Nat) : Int) old) ∧ h.IsTupleIter it a i ∧ e ≠ it ∧ a ≠ e ∧ a ≠ it) where
  mem := by simp
  obj := fun i h st b hb => by
    obtain ⟨⟨old, he⟩, ⟨o, ho, hc, hd⟩, _⟩ := st
    have e' : b = e ∨ b = it := by simpa using hb
    rcases e' with z | z
    · rw [z]; exact ⟨_, he, fun v q => nomatch q⟩
    · rw [z]; exact ⟨o, ho, fun v q => by rw [hd] at q; cases q⟩
  keep := fun i h h' st k => let ⟨⟨old, he⟩, hi, hne⟩ := st; ⟨⟨old, k e (by simp) _ he⟩, hi.at fun o q => k it (by simp) o q, hne⟩
  item := by
    intro X hP hw hK hc i pins s σ H E I hf st hg
    subst hP hw hK
    obtain ⟨⟨old, he⟩, hit, hne, ha1, ha2⟩ := st
    obtain ⟨xs, x, hq, hx⟩ := hg
    obtain ⟨its, rv, p, hz⟩ := I.tuple hq
    obtain ⟨u, hu, ru⟩ := rv.get hx
    have hel : e < s.heap.objs.size := Heap.lt_size he
    have hil : it < s.heap.objs.size := by obtain ⟨_, q, _⟩ := hit; exact Heap.lt_size q
    refine wpAny_pyNext_enum_itemD (Draws.tuple (A := X.A.in1) (show X.A.in1.handled = none from I.ok.hd hc) it a ha2 its.toArray) he ⟨hit, p⟩ (by simp; exact (List.getElem?_eq_some_iff.mp hu).1) hne (by simp; exact ⟨hne, fun z => ha1 z.symm⟩) fun y h' tk hy ho hit' hT hsz hk => ?_
    have hyu : y = u := by
      have : its[i]? = some y := by simpa using hy
      rw [hu] at this
      exact (Option.some.inj this).symm
    subst hyu
    refine ⟨_, rfl, wpAny_letOwnedTupleGo_enum (s := { s with heap := h', toks := tk + 1 }) ho fun h'' he' sb => ?_⟩
    have hT2 : h''.get? s.heap.objs.size = some { cls := .type "tuple", data := .seq #[.int i tk, y] } := (sb.2 _ (Nat.ne_of_gt hel)).trans hT
    have new : ObjOk X.prog X.w (upd H s.heap.objs.size (.tup [.int (i : Nat), x])) h'' s.heap.objs.size (.tup [.int (i : Nat), x]) :=
      ⟨by show 2 ≤ sizeLine; decide, [.int i tk, y], .cons ⟨_, rfl⟩ (.cons ru .nil), ⟨_, hT2, rfl, _, rfl⟩⟩
    have I1 : Inv X pins σ (upd H s.heap.objs.size (.tup [.int (i : Nat), x])) { s with heap := h'', toks := tk + 1 } :=
      I.turnedNew (ch := [e, it]) (fun b ob hb q => (sb.2 b (fun z => hb (by simp [z]))).trans (hk b ob (fun z => hb (by simp [z])) (fun z => hb (by simp [z])) q)) hf (Nat.le_refl _) new
    refine ⟨.ref s.heap.objs.size, _, I1, rfl, ⟨_, x, rfl, I.hok.fresh (Nat.le_refl _), rfl, fun ys hy => by rw [tup_inj I hy hq]; exact hx⟩, ⟨⟨y, ?_⟩, hit'.1.at fun o q => (sb.2 it (Ne.symm hne)).trans q, hne, ha1, ha2⟩, fun b hb => ?_⟩
    · have e1 : ((i + 1 : Nat) : Int) = (i : Int) + 1 := by omega
      rw [e1]; exact he'
    · have hb' : b < s.heap.objs.size := by
        have e' : b = e ∨ b = it := by simpa using hb
        rcases e' with z | z
        · rw [z]; exact hel
        · rw [z]; exact hil
      rw [upd_ne (Nat.ne_of_lt hb')]
      exact (hf b hb).1
  done := by
    intro X hP hw hK hc i pins s σ H E I hf st hg
    subst hP hw hK
    obtain ⟨⟨old, he⟩, hit, hne, ha1, ha2⟩ := st
    obtain ⟨xs, hq, hx⟩ := hg
    obtain ⟨its, rv, p, hz⟩ := I.tuple hq
    obtain ⟨f0, f1, f2, f3, f4, f5⟩ := hf it (by simp)
    have hl := rv.length
    have D : Draws X.prog X.w X.A.in1 it [it, a] i (fun _ _ => False) (fun j h => j = i ∧ h.IsTupleIter it a j ∧ h.IsTuple a its.toArray) :=
      { live := fun _ _ st => let ⟨o, ho, _⟩ := st.2.1; ⟨o, ho⟩
        frame := fun _ _ _ st hk => ⟨st.1, st.2.1.at fun o e => hk it (by simp) o e, st.2.2.at fun o e => hk a (by simp) o e⟩
        item := fun j s Q E hj st hQ => absurd st.1 (Nat.ne_of_lt hj)
        done := fun s Q E st hE => wpAny_nextOf_tuple_end (show X.A.in1.handled = none from I.ok.hd hc) st.2.1 st.2.2 (by simp; omega) hE }
    exact wpAny_pyNext_enum_endD D he ⟨rfl, hit, p⟩ fun h' eb => ⟨rfl, I.turned (t' := s.toks) (fun b o hb q => eb b o hb q) f0 f1 f3 f4 f5⟩
  self := fun A i s Q E st h => let ⟨⟨_, he⟩, _⟩ := st; wpAny_pyIter_enum he h
def iEnumT (K : PySem.W.Frag) (ta : TA) : TI := fun σ H R => ta σ H fun vs H1 => ∃ a xs, vs = [.ref a] ∧ SqT K H1 a xs ∧ R (IteT K a) H1
theorem pi_enumT {X : Cx} {e : Expr} {ta : TA} {p pos tpos : Pos} {elts : List Expr} {kk : Nat} (hg : Gl X "enumerate") (hm : X.mg "enumerate" = none) (ha : PA X [e] ta) (hs : starEach [e] X.env = [(false, eval e X.env)] := by rfl) :
    PI X (.Tuple elts kk tpos) (.Call (.Name "enumerate" p) [e] [] pos) (iEnumT X.K ta) := by
  refine ⟨fun pins s σ H R I h => ?_⟩
  refine Call_ (ld_blt I hg hm boot_enumerate (PyProof.Rows.callWith_type1 (thn (ha.run pos pins s σ H _ I h) fun us s1 ⟨vs, H1, I1, r1, q1⟩ => ?_) hs rfl))
  obtain ⟨a, xs, ex, hq, q⟩ := q1
  subst ex
  cases r1 with
  | cons r rr =>
    cases rr
    cases r
    obtain ⟨its, rv, p', hz⟩ := I1.tuple hq
    have hlt : a < s1.heap.objs.size := by
      obtain ⟨o, ho, _⟩ := p'
      exact Heap.lt_size ho
    refine enum_begins1 (begins_tuple a its.toArray) p' fun h' he hit hsz hk => wpAny_pyIter_enum he ?_
    have I2 : Inv X pins σ H1 { s1 with heap := h' } := I1.kept (t' := s1.toks) hk
    refine ⟨s1.heap.objs.size + 1, [s1.heap.objs.size + 1, s1.heap.objs.size], _, _, H1, rfl, I2, turn_enumT a (s1.heap.objs.size + 1) s1.heap.objs.size, ⟨⟨.none, he⟩, ⟨_, hit, rfl, rfl⟩, Nat.succ_ne_self _, Nat.ne_of_lt (Nat.lt_succ_of_lt hlt), Nat.ne_of_lt hlt⟩, fun b hb => ?_, q⟩
    have e' : b = s1.heap.objs.size + 1 ∨ b = s1.heap.objs.size := by simpa using hb
    have hle : s1.heap.objs.size ≤ b := by
      rcases e' with z | z
      · rw [z]; exact Nat.le_add_right _ _
      · rw [z]; exact Nat.le_refl _
    exact I1.fpOk hle (I1.hok.fresh hle)
section
variable {G : Gam} {W : WX} {H : Hp} {M : Mem} {S : Sto}
def iEnmT : MA → MI := fun m L S => (m L S).bind fun ds S1 => match ds with
  | [d] => match asTup d with
    | some xs => .ok ⟨enumD xs, none⟩ S1
    | none => .stuck
  | _ => .stuck
theorem iEnmT_ok (ok : G.Ok) {m : MA} : IterOk G W (iEnmT m) (iEnumT G.K (tA G W m)) := by
  intro σ H R L S M rl rs h
  refine then_a rl rs h (fun _ _ z => z) fun vs H1 M1 ds S1 st rs1 rps rl1 h1 => ?_
  split at h1
  · rename_i d
    split at h1
    · rename_i xs hx
      cases rps with
      | cons r1 r2 =>
        cases r2
        cases d <;> first | (cases hx; done) | skip
        cases hx
        obtain ⟨a, zs, e, hz, hr, hq⟩ := r1.tup_inv2 ok
        subst e
        have keep : ∀ H' M', Tr H1 M1 H' M' → SqT G.K H' a zs := fun H' M' t => by
          rcases hq with ⟨na, hq⟩ | hq
          · exact .inl (.inl (t.raw _ _ na trivial hq))
          · exact .inr hq
        refine ⟨a, zs, rfl, hz, h1 _ H1 M1 st rs1 ⟨fun H' M' S' t _ rs' g => ?_, fun H' M' S' i d t _ rs' g hd => ?_⟩⟩
        · have h2 := keep _ _ t
          exact ⟨zs, h2, by rw [← hr.length]; simp [enumD]⟩
        · have h2 := keep _ _ t
          have h3 := Reps.tr t _ _ hr
          obtain ⟨y, hy, ed⟩ := enumD_at hd
          obtain ⟨v, hv, rv⟩ := h3.at_ hy
          refine ⟨⟨zs, v, h2, hv⟩, ?_⟩
          rintro w H'' ⟨T, z, e1, hT, e2, hz⟩
          subst e1 e2 ed
          have := hz zs h2
          rw [hv] at this
          cases this
          exact pair_yld hT rs' (.int _) rv
    · exact h1.elim
  · exact h1.elim
def orI (f g : MI) : MI := fun L S => match f L S with
  | .stuck => g L S
  | r => r
theorem orI_ok {f g : MI} {t t' : TI} (hf : IterOk G W f t) (hg : IterOk G W g t') : IterOk G W (orI f g) (fun σ H R => t σ H R ∨ t' σ H R) := by
  intro σ H R L S M rl rs h
  unfold orI at h
  cases q : f L S with
  | stuck =>
    rw [q] at h
    exact .inr (hg σ H R L S M rl rs h)
  | ok x S1 =>
    rw [q] at h
    exact .inl (hf σ H R L S M rl rs (by rw [q]; exact h))
  | exc x S1 =>
    rw [q] at h
    exact .inl (hf σ H R L S M rl rs (by rw [q]; exact h))
def iEnmA (m : MA) : MI := orI (iEnm m) (iEnmT m)
theorem iEnmAK {K : PySem.W.Frag} (ok : G.Ok) (hK : G.K = K) {m : MA} : IterOk G W (iEnmA m) (fun σ H R => iEnum K (tA G W m) σ H R ∨ iEnumT K (tA G W m) σ H R) := hK ▸ orI_ok (iEnm_ok ok) (iEnmT_ok ok)
theorem pi_enumA {X : Cx} {e : Expr} {ta : TA} {p pos tpos : Pos} {elts : List Expr} {kk : Nat} (hg : Gl X "enumerate") (hm : X.mg "enumerate" = none) (ha : PA X [e] ta) (hs : starEach [e] X.env = [(false, eval e X.env)] := by rfl) :
    PI X (.Tuple elts kk tpos) (.Call (.Name "enumerate" p) [e] [] pos) (fun σ H R => iEnum X.K ta σ H R ∨ iEnumT X.K ta σ H R) := pi_or (pi_enum hg hm ha hs) (pi_enumT hg hm ha hs)
end
end MM
set_option linter.all false
set_option maxRecDepth 100000
set_option maxHeartbeats 4000000
namespace MM
open PySem PySem.Spec PyProof.Rows L2 SS
/-- how many different texts stand among the first i -/
def cntD (xs : List Str) : Nat → Nat
  | 0 => 0
  | i + 1 => if (xs.take i).any (· == xs.getD i Str.empty) = true then cntD xs i else cntD xs i + 1
theorem cntD_le (xs : List Str) : ∀ i, cntD xs i ≤ i
  | 0 => Nat.le_refl _
  | i + 1 => by
    have := cntD_le xs i
    unfold cntD
    split <;> omega
theorem any_step {xs : List Str} {i : Nat} (h : i < xs.length) (k : Str) : ((xs.take i).any (· == k) || decide (k = xs.getD i Str.empty)) = (xs.take (i + 1)).any (· == k) := by
  have e : xs[i]? = some (xs.getD i Str.empty) := by
    rw [List.getElem?_eq_getElem h, List.getD_eq_getElem?_getD, List.getElem?_eq_getElem h]
    rfl
  have t : xs.take (i + 1) = xs.take i ++ [xs.getD i Str.empty] := by
    rw [List.take_succ, e]
    rfl
  rw [t, List.any_append]
  congr 1
  rw [List.any_cons, List.any_nil, Bool.or_false, Bool.eq_iff_iff]
  simp only [decide_eq_true_eq, beq_iff_eq]
  exact eq_comm
abbrev TextsOf (prog : Program) (w : World) (h : Heap) (a : Addr) (xs : List Str) (i : Nat) : Prop := h.SetOf (PySem.strKind prog w) a (fun k' => (xs.take i).any (· == k')) (cntD xs i)
section
variable {prog : Program} {w : World} {A : Around} {R : Result → Shared → Prop} {I : Addr} {fp wr : List Addr} {G : Array GenState → Array GenState → Prop} {n : Nat} {P : Nat → Value → Prop} {St : Nat → Shared → Prop}
theorem texts_at {h h' : Heap} {a : Addr} {xs : List Str} {i : Nat} (p : TextsOf prog w h a xs i) (k : ∀ o, h.get? a = some o → h'.get? a = some o) : TextsOf prog w h' a xs i := by
  obtain ⟨o, es, ep, t, ho, rest⟩ := p
  exact ⟨o, es, ep, t, k o ho, rest⟩
theorem loopTexts (W : WalksS prog w A.in1 I fp wr G n P St) (S : Addr) (hSf : S ∉ fp) (xs : List Str) (hsz : xs.length = n) (hb : n + 1 < scanBound)
    (hval : ∀ i v, P i v → ∃ t, v = .str (xs.getD i Str.empty) t) :
    ∀ (k i : Nat) (s : Shared), n - i = k → i ≤ n → St i s → TextsOf prog w s.heap S xs i →
      (∀ s', Moved (S :: wr) G s s' → TextsOf prog w s'.heap S xs n → R (.ok (.ret .none)) s') →
      codeAny (model prog w) A (.builtin "set.update.loop" ⟨[.ref S, .ref I], []⟩) R s := by
  have hSw : S ∉ wr := fun h => hSf (W.sub _ h)
  have up : ∀ b ∈ wr, b ∈ S :: wr := fun b hb => List.mem_cons_of_mem _ hb
  intro k
  induction k with
  | zero =>
    intro i s hk hi hst hS hR
    obtain rfl : i = n := by omega
    refine codeAny_builtin PyProof.Rows.F.entry_set_update_loop ?_
    rw [Around.under_plainId PyProof.Rows.F.plain_set_update_loop _]
    show wpAny _ A.in1 (pyNext (.ref I) >>= _) _ _ s
    exact wpAny_bind (W.done s _ _ hst fun s' hm => wpAny_pure (hR s' (hm.mono up) (texts_at hS fun o ho => hm.heap S o hSw ho)))
  | succ k ih =>
    intro i s hk hi hst hS hR
    have hlt : i < n := by omega
    have hc := cntD_le xs i
    refine codeAny_builtin PyProof.Rows.F.entry_set_update_loop ?_
    rw [Around.under_plainId PyProof.Rows.F.plain_set_update_loop _]
    show wpAny _ A.in1 (pyNext (.ref I) >>= _) _ _ s
    refine wpAny_bind (W.item i s _ _ hlt hst fun v s' hP hst' hm => ?_)
    obtain ⟨t, rfl⟩ := hval i v hP
    have hS' : TextsOf prog w s'.heap S xs i := texts_at hS fun o ho => hm.heap S o hSw ho
    show wpAny _ A.in1 (holding [Value.str (xs.getD i Str.empty) t] (setAdd S (.str (xs.getD i Str.empty) t)) >>= _) _ _ s'
    refine wpAny_bind (wpAny_holding ?_)
    unfold setAdd
    refine wpAny_holding (wpAny_bind ((PySem.strKind prog w).pyHash (k := xs.getD i Str.empty) (strKind_is _ _ _ _) ?_))
    refine wpAny_setAddHashed_of (knd := PySem.strKind prog w) (s := { s' with toks := s'.toks + 1 }) (strKind_is _ _ _ _) rfl hS' (by omega) fun h' hsb hS2 => ?_
    have hSi : TextsOf prog w h' S xs (i + 1) := SetOf_congr hS2 (fun k' => any_step (by omega) k') (by rfl)
    refine wpAny_pure ⟨plainId_quiet PyProof.Rows.F.plain_set_update_loop _, ih (i + 1) _ (by omega) hlt (W.frame _ s' _ _ hst' (Nat.le_succ _) fun b hb o e => ?_) hSi fun s'' hm'' hS'' => ?_⟩
    · exact (hsb.2 b (fun h : b = S => hSf (by rw [← h]; exact hb))).trans e
    · refine hR s'' (Moved.trans W.gtrans ((hm.mono up).then_heap (Nat.le_succ _) fun b o hb e => ?_) hm'') hS''
      exact (hsb.2 b (fun h : b = S => hb (by rw [h]; exact List.mem_cons_self))).trans e
end
section
variable {prog : Program} {w : World} {A : Around} {E : Value → Shared → Prop} {s : Shared}
set_option maxHeartbeats 3200000 in
theorem set_texts_list {l : Addr} {its : Array Value} {xs : List Str} {Q : Value → Shared → Prop} (hh : A.handled = none) (hl : s.heap.IsList l its) (hi : PyProof.Rows.StrsAre its.toList xs) (hn : xs.length + 1 < scanBound)
    (h : ∀ (h' : Heap) (tk : Nat), TextsOf prog w h' s.heap.objs.size xs xs.length → (∀ b o, b < s.heap.objs.size → s.heap.get? b = some o → h'.get? b = some o) → Q (.ref s.heap.objs.size) { s with heap := h', toks := tk }) :
    wpAny (model prog w) A (call (.type "set") [.ref l]) Q E s := by
  obtain ⟨c, tl, hmro⟩ := PySem.F.called_set.mro
  have hmade := PySem.F.called_set.made
  have hsub := PySem.F.called_set.sub
  refine wpAny_call (codeAny_of_tree ?_)
  show wpAny _ _ (callAny (.type "set") _) _ _ _
  refine wpAny_pure ⟨Code.quiet_builtin _ (by decide +kernel), codeAny_builtin PySem.F.entry_type_call ?_⟩
  rw [Around.under_plain (weight_type_call_type "set" [.ref l] []) rfl]
  have h1 := PySem.F.called_set.notType
  have h2 := PySem.F.called_set.canCreate
  have hct := PySem.F.typeCall_set_1 (.ref l)
  repeat (any_goals (first | assumption | wp_step))
  refine codeAny_mono (code_set_new_1 (.ref l) (E := E) (Q₁ := fun obj s₁ => ∃ led : Bool, obj = .ref s.heap.objs.size ∧ s₁ = { s with heap := s.heap.push { cls := .type "set", dict := none, data := .set #[] 0 (.fresh 0 0 led) } }) fun led => ⟨led, rfl, rfl⟩) fun r s₁ hr => ?_
  rcases r with e | fl
  · exact hr
  · cases fl with
    | ret obj =>
      obtain ⟨led, rfl, rfl⟩ := hr
      have hS : (s.heap.push { cls := .type "set", dict := none, data := .set #[] 0 (.fresh 0 0 led) }).get? s.heap.objs.size = some { cls := .type "set", dict := none, data := .set #[] 0 (.fresh 0 0 led) } := Heap.get?_push_size _ rfl
      have hT : Shared.TypeIs { s with heap := s.heap.push { cls := .type "set", dict := none, data := .set #[] 0 (.fresh 0 0 led) } } (.ref s.heap.objs.size) "set" := ⟨_, hS, rfl⟩
      have hli := PySem.F.called_set.init.lookup
      have hbi := PySem.F.called_set.init.bind (.ref s.heap.objs.size)
      repeat (any_goals (first | assumption | wp_step))
      refine codeAny_mono (codeAny_call_builtin (R := wants (fun r s₂ => r = .none ∧ ∃ h' tk, s₂ = { s with heap := h', toks := tk } ∧ TextsOf prog w h' s.heap.objs.size xs xs.length ∧
          (∀ b o, b < s.heap.objs.size → s.heap.get? b = some o → h'.get? b = some o)) E) PySem.F.called_set.init.plain PySem.F.entry_set_init (check_set_init_1 hT ?_)) fun r₂ s₂ hr₂ => ?_
      · obtain ⟨⟨ocls, odict, odata, oslots⟩, hol, hcl, nl, hdl⟩ := hl
        simp only at hcl hdl
        subst hcl hdl
        have hol' : (s.heap.push { cls := .type "set", dict := none, data := .set #[] 0 (.fresh 0 0 led) }).get? l = some { cls := .type "list", dict := odict, data := .seq its nl, slots := oslots } := Heap.get?_push_of_some _ hol
        have hsls := PySem.F.sub_list_set
        have hslf := PySem.F.sub_list_frozenset
        have hne : (Value.type "list" == Value.type "dict") = false := by decide
        have hl1 : (s.heap.push { cls := .type "set", dict := none, data := .set #[] 0 (.fresh 0 0 led) }).IsList l its := ⟨_, hol', rfl, nl, rfl⟩
        unfold Builtin.«set.__init__» noKeywords Builtin.Frozenset.updateFrom
        generalize hPI : pyIter = PI
        wp_walk
        subst hPI
        refine wpAny_pyIter_list hl1 ?_
        refine wpAny_bind (wpAny_runValue ?_)
        have hlS : l < s.heap.objs.size := Heap.lt_size hol
        have hz : (s.heap.push { cls := .type "set", dict := none, data := .set #[] 0 (.fresh 0 0 led) }).objs.size = s.heap.objs.size + 1 := Heap.size_push ..
        have hneI : l ≠ (s.heap.push { cls := .type "set", dict := none, data := .set #[] 0 (.fresh 0 0 led) }).objs.size := by
          rw [hz]; exact Nat.ne_of_lt (Nat.lt_succ_of_lt hlS)
        have hSf : s.heap.objs.size ∉ [(s.heap.push { cls := .type "set", dict := none, data := .set #[] 0 (.fresh 0 0 led) }).objs.size, l] := by
          rw [hz]
          simp only [List.mem_cons, List.mem_singleton, List.not_mem_nil, or_false, not_or]
          exact ⟨Nat.ne_of_lt (Nat.lt_succ_self _), Nat.ne_of_gt hlS⟩
        have hsz : xs.length = its.size := by rw [← StrsAre.len_eq hi, Array.length_toList]
        have start : TextsOf prog w ((s.heap.push { cls := .type "set", dict := none, data := .set #[] 0 (.fresh 0 0 led) }).push { cls := .type "list_iterator", data := .fields #[.ref l, .int 0 0] }) s.heap.objs.size xs 0 := by
          have g := Heap.get?_push_of_some { cls := .type "list_iterator", data := .fields #[.ref l, .int 0 0] } hS
          exact PyProof.Rows.SetOf_congr ((PyProof.Rows.setObjOf_fresh (knd := PySem.strKind prog w) led).setOf g (by unfold scanBound; omega)) (fun _ => rfl) rfl
        refine loopTexts ((Walks.list (A := A.in1.in1.in1) (show A.in1.in1.in1.handled = none from hh) _ l hneI its).toS) s.heap.objs.size hSf xs hsz (by omega) (fun i v hv => strs_at hi i v (by rw [Array.getElem?_toList]; exact hv)) (its.size - 0) 0 _ (by omega) (Nat.zero_le _)
          ⟨⟨_, Heap.get?_push_size _ rfl, rfl, rfl⟩, (hl1.push _)⟩ start fun s' hm hS' => ?_
        obtain ⟨h', g', d', tk', os'⟩ := s'
        obtain rfl : g' = s.gens := hm.gens
        obtain rfl : d' = s.drawn := hm.drawn
        obtain rfl : os' = s.os := hm.os
        rw [← hsz] at hS'
        show wpAny _ _ _ _ _ _
        refine wpAny_pure ?_
        show wpAny _ _ (ret Value.none) _ _ _
        refine wpAny_pure ⟨rfl, h', tk', rfl, hS', fun b o hb e => hm.heap b o ?_ (Heap.get?_push_of_some _ (Heap.get?_push_of_some _ e))⟩
        simp only [List.mem_cons, List.mem_singleton, List.not_mem_nil, or_false, not_or]
        exact ⟨Nat.ne_of_lt hb, by rw [hz]; exact Nat.ne_of_lt (Nat.lt_succ_of_lt hb)⟩
      · rcases r₂ with e | fl₂
        · exact hr₂
        · cases fl₂ with
          | ret r =>
            obtain ⟨rfl, h', tk, rfl, hS', hk'⟩ := hr₂
            repeat (any_goals (first | assumption | wp_step))
            exact h _ _ hS' hk'
          | _ => exact hr₂.elim
    | _ => exact hr.elim
set_option maxHeartbeats 3200000 in
theorem set_texts_tuple {l : Addr} {its : Array Value} {xs : List Str} {Q : Value → Shared → Prop} (hh : A.handled = none) (hl : s.heap.IsTuple l its) (hi : PyProof.Rows.StrsAre its.toList xs) (hn : xs.length + 1 < scanBound)
    (h : ∀ (h' : Heap) (tk : Nat), TextsOf prog w h' s.heap.objs.size xs xs.length → (∀ b o, b < s.heap.objs.size → s.heap.get? b = some o → h'.get? b = some o) → Q (.ref s.heap.objs.size) { s with heap := h', toks := tk }) :
    wpAny (model prog w) A (call (.type "set") [.ref l]) Q E s := by
  obtain ⟨c, tl, hmro⟩ := PySem.F.called_set.mro
  have hmade := PySem.F.called_set.made
  have hsub := PySem.F.called_set.sub
  refine wpAny_call (codeAny_of_tree ?_)
  show wpAny _ _ (callAny (.type "set") _) _ _ _
  refine wpAny_pure ⟨Code.quiet_builtin _ (by decide +kernel), codeAny_builtin PySem.F.entry_type_call ?_⟩
  rw [Around.under_plain (weight_type_call_type "set" [.ref l] []) rfl]
  have h1 := PySem.F.called_set.notType
  have h2 := PySem.F.called_set.canCreate
  have hct := PySem.F.typeCall_set_1 (.ref l)
  repeat (any_goals (first | assumption | wp_step))
  refine codeAny_mono (code_set_new_1 (.ref l) (E := E) (Q₁ := fun obj s₁ => ∃ led : Bool, obj = .ref s.heap.objs.size ∧ s₁ = { s with heap := s.heap.push { cls := .type "set", dict := none, data := .set #[] 0 (.fresh 0 0 led) } }) fun led => ⟨led, rfl, rfl⟩) fun r s₁ hr => ?_
  rcases r with e | fl
  · exact hr
  · cases fl with
    | ret obj =>
      obtain ⟨led, rfl, rfl⟩ := hr
      have hS : (s.heap.push { cls := .type "set", dict := none, data := .set #[] 0 (.fresh 0 0 led) }).get? s.heap.objs.size = some { cls := .type "set", dict := none, data := .set #[] 0 (.fresh 0 0 led) } := Heap.get?_push_size _ rfl
      have hT : Shared.TypeIs { s with heap := s.heap.push { cls := .type "set", dict := none, data := .set #[] 0 (.fresh 0 0 led) } } (.ref s.heap.objs.size) "set" := ⟨_, hS, rfl⟩
      have hli := PySem.F.called_set.init.lookup
      have hbi := PySem.F.called_set.init.bind (.ref s.heap.objs.size)
      repeat (any_goals (first | assumption | wp_step))
      refine codeAny_mono (codeAny_call_builtin (R := wants (fun r s₂ => r = .none ∧ ∃ h' tk, s₂ = { s with heap := h', toks := tk } ∧ TextsOf prog w h' s.heap.objs.size xs xs.length ∧
          (∀ b o, b < s.heap.objs.size → s.heap.get? b = some o → h'.get? b = some o)) E) PySem.F.called_set.init.plain PySem.F.entry_set_init (check_set_init_1 hT ?_)) fun r₂ s₂ hr₂ => ?_
      · obtain ⟨⟨ocls, odict, odata, oslots⟩, hol, hcl, nl, hdl⟩ := hl
        simp only at hcl hdl
        subst hcl hdl
        have hol' : (s.heap.push { cls := .type "set", dict := none, data := .set #[] 0 (.fresh 0 0 led) }).get? l = some { cls := .type "tuple", dict := odict, data := .seq its nl, slots := oslots } := Heap.get?_push_of_some _ hol
        have hsls := PySem.F.sub_tuple_set
        have hslf := PySem.F.sub_tuple_frozenset
        have hne : (Value.type "tuple" == Value.type "dict") = false := by decide
        have hl1 : (s.heap.push { cls := .type "set", dict := none, data := .set #[] 0 (.fresh 0 0 led) }).IsTuple l its := ⟨_, hol', rfl, nl, rfl⟩
        unfold Builtin.«set.__init__» noKeywords Builtin.Frozenset.updateFrom
        generalize hPI : pyIter = PI
        wp_walk
        subst hPI
        refine wpAny_pyIter_tuple hl1 ?_
        refine wpAny_bind (wpAny_runValue ?_)
        have hlS : l < s.heap.objs.size := Heap.lt_size hol
        have hz : (s.heap.push { cls := .type "set", dict := none, data := .set #[] 0 (.fresh 0 0 led) }).objs.size = s.heap.objs.size + 1 := Heap.size_push ..
        have hneI : l ≠ (s.heap.push { cls := .type "set", dict := none, data := .set #[] 0 (.fresh 0 0 led) }).objs.size := by
          rw [hz]; exact Nat.ne_of_lt (Nat.lt_succ_of_lt hlS)
        have hSf : s.heap.objs.size ∉ [(s.heap.push { cls := .type "set", dict := none, data := .set #[] 0 (.fresh 0 0 led) }).objs.size, l] := by
          rw [hz]
          simp only [List.mem_cons, List.mem_singleton, List.not_mem_nil, or_false, not_or]
          exact ⟨Nat.ne_of_lt (Nat.lt_succ_self _), Nat.ne_of_gt hlS⟩
        have hsz : xs.length = its.size := by rw [← StrsAre.len_eq hi, Array.length_toList]
        have start : TextsOf prog w ((s.heap.push { cls := .type "set", dict := none, data := .set #[] 0 (.fresh 0 0 led) }).push { cls := .type "tuple_iterator", data := .fields #[.ref l, .int 0 0] }) s.heap.objs.size xs 0 := by
          have g := Heap.get?_push_of_some { cls := .type "tuple_iterator", data := .fields #[.ref l, .int 0 0] } hS
          exact PyProof.Rows.SetOf_congr ((PyProof.Rows.setObjOf_fresh (knd := PySem.strKind prog w) led).setOf g (by unfold scanBound; omega)) (fun _ => rfl) rfl
        refine loopTexts ((Walks.tuple (A := A.in1.in1.in1) (show A.in1.in1.in1.handled = none from hh) _ l hneI its).toS) s.heap.objs.size hSf xs hsz (by omega) (fun i v hv => strs_at hi i v (by rw [Array.getElem?_toList]; exact hv)) (its.size - 0) 0 _ (by omega) (Nat.zero_le _)
          ⟨⟨_, Heap.get?_push_size _ rfl, rfl, rfl⟩, (hl1.push _)⟩ start fun s' hm hS' => ?_
        obtain ⟨h', g', d', tk', os'⟩ := s'
        obtain rfl : g' = s.gens := hm.gens
        obtain rfl : d' = s.drawn := hm.drawn
        obtain rfl : os' = s.os := hm.os
        rw [← hsz] at hS'
        show wpAny _ _ _ _ _ _
        refine wpAny_pure ?_
        show wpAny _ _ (ret Value.none) _ _ _
        refine wpAny_pure ⟨rfl, h', tk', rfl, hS', fun b o hb e => hm.heap b o ?_ (Heap.get?_push_of_some _ (Heap.get?_push_of_some _ e))⟩
        simp only [List.mem_cons, List.mem_singleton, List.not_mem_nil, or_false, not_or]
        exact ⟨Nat.ne_of_lt hb, by rw [hz]; exact Nat.ne_of_lt (Nat.lt_succ_of_lt hb)⟩
      · rcases r₂ with e | fl₂
        · exact hr₂
        · cases fl₂ with
          | ret r =>
            obtain ⟨rfl, h', tk, rfl, hS', hk'⟩ := hr₂
            repeat (any_goals (first | assumption | wp_step))
            exact h _ _ hS' hk'
          | _ => exact hr₂.elim
    | _ => exact hr.elim
end
end MM
set_option linter.all false
set_option maxRecDepth 100000
set_option maxHeartbeats 2000000
namespace MM
open PySem PySem.Spec PyProof.Rows L2 SS
def SetTx (prog : Program) (w : World) (a : Addr) (xs : List Str) : HO := .ext fun h => TextsOf prog w h a xs xs.length
theorem setTx_new {prog : Program} {w : World} {H : Hp} {h : Heap} {a : Addr} {xs : List Str} (R : TextsOf prog w h a xs xs.length) : ObjOk prog w H h a (SetTx prog w a xs) := by
  have ⟨o, _, _, _, ho, _⟩ := R
  exact ⟨R, ⟨o, ho⟩, fun h1 h2 p k => texts_at p fun o e => k o e⟩
def rSetTx (K : PySem.W.Frag) (prog : Program) (w : World) : List V → Hp → VK → Prop := fun vs H Q => ∃ (a : Addr) (xs : List Str), vs = [V.ref a] ∧ (SqT K H a (xs.map V.str) ∨ SqL K H a (xs.map V.str)) ∧ xs.length + 1 < scanBound ∧ ∀ p, H p = none → Q (.ref p) (upd H p (SetTx prog w p xs))
def rLenTx (prog : Program) (w : World) : List V → Hp → VK → Prop := fun vs H Q => ∃ (a : Addr) (xs : List Str), vs = [V.ref a] ∧ H a = some (SetTx prog w a xs) ∧ Q (.int (cntD xs xs.length : Nat)) H
section
variable {X : Cx}
theorem call_setTx (hc : X.calm = true) : CallR X (.type "set") (rSetTx X.K X.prog X.w) := by
  intro pins s σ H vs us Q I r h
  obtain ⟨a, xs, rfl, hs, hn, q⟩ := h
  rw [Vals.ref1 r]
  rcases hs with hs | hs
  · obtain ⟨its, rv, hl, hz⟩ := I.tuple hs
    refine set_texts_tuple (xs := xs) (I.ok.hd hc) hl (by simpa using strs_of_vals rv) hn fun h' tk R k => ?_
    exact ⟨.ref _, upd H s.heap.objs.size (SetTx X.prog X.w s.heap.objs.size xs), I.laid (t' := tk) (fun b u e => k b u (Heap.lt_size e) e) (Nat.le_refl _) (setTx_new R), rfl, q _ (I.hok.fresh (Nat.le_refl _))⟩
  · obtain ⟨its, rv, hl, hz⟩ := I.list hs
    refine set_texts_list (xs := xs) (I.ok.hd hc) hl.isList (by simpa using strs_of_vals rv) hn fun h' tk R k => ?_
    exact ⟨.ref _, upd H s.heap.objs.size (SetTx X.prog X.w s.heap.objs.size xs), I.laid (t' := tk) (fun b u e => k b u (Heap.lt_size e) e) (Nat.le_refl _) (setTx_new R), rfl, q _ (I.hok.fresh (Nat.le_refl _))⟩
theorem call_lenTx : CallR X (.builtin "len") (rLenTx X.prog X.w) := by
  intro pins s σ H vs us Q I r h
  obtain ⟨a, xs, rfl, ha, q⟩ := h
  rw [Vals.ref1 r]
  have R : TextsOf X.prog X.w s.heap a xs xs.length := (I.hok a _ ha).1
  obtain ⟨o, es, ep, t, ho, hex, hd, _, _, hlt, hf, e⟩ := R
  refine call_len_set ho hex hd hf (by unfold scanBound at hlt; omega) ?_
  exact ⟨.int (cntD xs xs.length : Nat), H, I.tok _, ⟨s.toks + 1, by rw [← e]⟩, q⟩
end
def lenTx (d : D) (S : Sto) : Out D := match (seqD S d).bind asStrs with
  | some xs => if xs.length < 60 then .ok (.int (cntD xs xs.length : Nat)) S else .stuck
  | none => .stuck
def mLenSet (m : ME) : ME := fun L S => (m L S).bind lenTx
section
variable {X : Cx} {G : Gam} {W : WX} {a : Expr} {ma : ME} {pos : Pos}
theorem e_lenSet (ok : G.Ok) (hK : G.K = X.K) {p1 p2 q : Pos} (hc : X.calm = true) (hg : Gl X "len") (hm : X.mg "len" = none) (hg2 : Gl X "set") (hm2 : X.mg "set" = none) (ha : PE X a (tE G W ma)) (hs : starEach [a] X.env = (false, eval a X.env) :: starEach [] X.env := by rfl) : PE X (.Call (.Name "len" p1) [.Call (.Name "set" p2) [a] [] q] [] pos) (tE G W (mLenSet ma)) := by
  have h1 : PE X (.Call (.Name "set" p2) [a] [] q) _ := pe_callTy (call_setTx hc) hg2 hm2 rfl (pa_cons ha pa_nil hs) (by decide) (by decide) hs
  refine pe_imp (pe_callB (call_lenTx) hg hm rfl (pa_cons h1 pa_nil) (by decide)) fun σ H Q ⟨L, S, M, rl, rs, h⟩ => ?_
  refine then_e rl rs h (fun _ _ z => z) fun v H1 M1 d S1 st rs1 rp rl1 h1 => ?_
  unfold lenTx at h1
  split at h1
  · rename_i xs hx
    split at h1
    · rename_i hlt
      obtain ⟨zs, e1, e2⟩ := Option.bind_eq_some_iff.mp hx
      obtain ⟨p, vs, e, h2, h3⟩ := seqD_ok ok rs1 rp e1
      subst e
      rw [asStrs_rep ok h3 e2] at h2
      refine ⟨p, xs, rfl, hK ▸ h2, by unfold scanBound; omega, fun l hl => ?_⟩
      refine ⟨l, xs, rfl, upd_same, ?_⟩
      have sn := Step.new (M := M1) (o := SetTx X.prog X.w l xs) hl
      exact h1 _ _ M1 (st.trans sn) (rs1.new hl) (.int _)
    · exact h1.elim
  · exact h1.elim
end
end MM
set_option linter.all false
set_option maxRecDepth 100000
set_option maxHeartbeats 2000000
namespace MM
open PySem PySem.Spec PyProof.Rows L2
/-! ## keywords alone: how they come to the parameters -/
theorem kwB {K : PySem.W.Frag} {x qual : Str} {params : Arguments} {body : List Stmt} {scope : Scope} {f : Addr} {fd : FuncData} {ps ks : List Str} {perm : List Nat} (D : FunD K x qual params body scope [] [] f fd)
    (h : ∀ (kV doc pm : Value) (an : Option Addr) (cdv ct : Value) (us : List Value), us.length = ks.length → bindArgs (PySem.W.fnOf x qual params body scope Value.none kV doc pm an cdv ct) ⟨[], ks.zip us⟩ = pure (ps.zip (perm.map fun i => us.getD i .none))) :
    ∀ (s : Shared) (us : List Value), K.In s.heap → us.length = ks.length → BindsTo s fd ⟨[], ks.zip us⟩ (ps.zip (perm.map fun i => us.getD i .none)) := by
  intro s us _ hl M A E Q hq
  obtain ⟨oc, od, dV, kV, doc, pm, an, cdv, ct, osl, e, _, _, hd, _⟩ := D.ex
  have hd : dV = .none := by
    rcases hd with ⟨_, h⟩ | ⟨h, _⟩
    · exact h
    · exact absurd rfl h
  subst hd
  rw [e, h kV doc pm an cdv ct us hl]
  exact wpAny_pure hq
/-! ## a written dict of texts -/
structure KTab (K : PySem.W.Frag) (w : World) (mg : Str → Option Value) (x : Str) (tab : List (Str × Str)) : Prop where
  ex : ∃ a, mg x = some (.ref a) ∧ ∀ z y, tab.lookup z = some y → KDct K w a z (.str y)
def mKd (tab : List (Str × Str)) (b : ME) : ME := fun L S => (b L S).bind fun d S1 => match asStr d with
  | some z => match tab.lookup z with
    | some y => .ok (.str y) S1
    | none => .stuck
  | none => .stuck
section
variable {X : Cx} {G : Gam} {W : WX} {e a b o i : Expr} {es : List Expr} {pos p apos cpos p2 p3 : Pos} {H : Hp} {M : Mem} {S : Sto} {ma mb mo mi mv : ME} {d : D} {v : V} {m : MA} {x y z : Str}
theorem e_kd (ok : G.Ok) {tab : List (Str × Str)} (F : KTab X.K X.w X.mg x tab) (hg : Gl X x) (hb : PE X b (tE G W mb)) (hp : PlainIx b := by exact fun _ _ => rfl) (hdb : (x == ("__debug__" : Str)) = false := by decide) : PE X (.Subscript (.Name x p) b pos) (tE G W (mKd tab mb)) := by
  obtain ⟨a, hm, ht⟩ := F.ex
  refine pe_imp (pe_ix ix_kdict (pe_glob (v := .ref a) hg hm rfl hdb) hb hp) fun σ H Q ⟨L, S, M, rl, rs, h⟩ => ?_
  refine then_e rl rs h (fun _ _ z => z) fun x H1 M1 d S1 st rs1 rp rl1 h1 => ?_
  split at h1
  · rename_i z hz
    split at h1
    · rename_i y hy
      exact ⟨a, z, .str y, rfl, asStr_rep ok rp hz, ht z y hy, h1 _ H1 M1 st rs1 (.str _)⟩
    · exact h1.elim
  · exact h1.elim
end
section
variable {X : Cx} {G : Gam} {pos : Pos}
/-- a, b, .. = a list of that length -/
def gLstM (n : Nat) (r : MGs) : MG := fun d L S => match d with
  | .lst xs => if xs.length = n then r xs L S else .stuck
  | _ => .stuck
theorem g_lst {o : Own} (ok : G.Ok) (hK : G.K = X.K) {es : List Expr} {k n : Nat} {r : MGs} (h : PG X (.Tuple es k pos) (gLst X.K n (tGs G o r))) : PG X (.Tuple es k pos) (tG G o (gLstM n r)) := pg_imp h fun v σ H Q ⟨d, L, S, M, rp, rl, rs, h⟩ => by
  cases d with
  | lst xs =>
    obtain ⟨a, vs, e, _, h1, h2⟩ := rp.lst_inv ok
    unfold gLstM at h
    simp only at h
    by_cases hl : xs.length = n
    · rw [if_pos hl] at h
      exact ⟨a, vs, e, .of h1, by rw [← h2.length]; exact hl, xs, L, S, M, h2, rl, rs, h⟩
    · rw [if_neg hl] at h; exact h.elim
  | _ => exact h.elim
theorem gLst_noX {n : Nat} {r : MGs} (hr : ∀ ds L S e S', r ds L S ≠ .exc e S') : noXG (gLstM n r) := fun d L S e S' => by
  unfold gLstM
  split
  · split
    · exact hr _ _ _ _ _
    · exact fun z => nomatch z
  · exact fun z => nomatch z
end
end MM
set_option linter.all false
set_option maxRecDepth 100000
set_option maxHeartbeats 2000000
namespace HP
open PySem PySem.Spec PyProof.Rows L2 He
/-! # a hook of facts, defs, tables, and properties -/
structure PrD where
  C : Str
  m : Str
  def_ : DefD
def PrD.p (K : PySem.W.Frag) (d : PrD) : Addr := ma K (ga K d.C) d.m
def PrD.g (K : PySem.W.Frag) (d : PrD) : Addr := match PySem.W.recIn K (d.p K) "property" with
  | some (.ref a :: _) => a
  | _ => 0
def hasRec (K : PySem.W.Frag) (p : Addr) : Bool := match PySem.W.recIn K p "property" with
  | some (.ref _ :: _) => true
  | _ => false
/-- what a function at an address has of its def, but its defaults -/
def seenAt (K : PySem.W.Frag) (a : Addr) : FnW := match K.lookup a with
  | some ⟨_, _, .func z, _⟩ => some (z.name, z.qualname, z.params, z.body, z.scope, z.globals, z.closure, z.builtins)
  | _ => none
def codeB (K : PySem.W.Frag) (a : Addr) (ql : Str) : Bool := match K.lookup a with
  | some ⟨_, _, .func z, _⟩ => PySem.W.codeIn K z.code ql && (dflB K z.defaults [] && kwdB K z.kwdefaults [])
  | _ => false
def PrD.ok (K : PySem.W.Frag) (d : PrD) : Bool :=
  (eqO (PySem.W.findIn K (.ref (ga K d.C)) d.m) (some (some (.ref (d.p K)))) && eqO (PySem.W.specialIn K (.ref (d.p K)) "__get__") (some (some (.builtin "property.__get__")))) &&
  (decide (PySem.W.takesIn K (.ref (d.p K)) = some true) && (hasRec K (d.p K) && (PySem.W.keepIn K (.ref (d.g K)) && codeB K (d.g K) d.def_.qual)))
theorem seen_fun {K : PySem.W.Frag} {a : Addr} {nm ql : Str} {pa : Arguments} {bd : List Stmt} {sc : Scope} (e : seenAt K a = some (nm, ql, pa, .stmts bd, sc, mainGlobals, [], builtinsNs)) (c : codeB K a ql = true) (kp : PySem.W.keepIn K (.ref a) = true) : ∃ z, FunD K nm ql pa bd sc [] [] a z := by
  unfold seenAt at e
  unfold codeB at c
  cases h : K.lookup a with
  | none => rw [h] at c; cases c
  | some ob =>
    obtain ⟨x1, x2, x3, x4⟩ := ob
    rw [h] at c e
    cases x3 with
    | func z =>
      cases z with
      | mk a1 a2 a3 a4 a5 a6 a7 a8 a9 b1 b2 b3 b4 b5 b6 =>
        have e' : (a1, a2, a3, a4, a5, a6, a7, b6) = (nm, ql, pa, FuncBody.stmts bd, sc, mainGlobals, [], builtinsNs) := Option.some.inj e
        have c' : (PySem.W.codeIn K b4 ql && (dflB K a8 [] && kwdB K a9 [])) = true := c
        rw [Bool.and_eq_true, Bool.and_eq_true] at c'
        simp only [Prod.mk.injEq] at e'
        obtain ⟨rfl, rfl, rfl, rfl, rfl, rfl, rfl, rfl⟩ := e'
        exact ⟨_, ⟨x1, x2, a8, a9, b1, b2, b3, b4, b5, x4, rfl, h, c'.1, dflB_ok c'.2.1, kwdB_ok c'.2.2⟩, kp⟩
    | _ => cases c
theorem PrD.fun_ {K : PySem.W.Frag} {d : PrD} (e : seenAt K (d.g K) = d.def_.val) (c : d.ok K = true) : PropOf K (ga K d.C) d.m (d.p K) (d.g K) ∧ ∃ z, FunD K d.def_.name d.def_.qual d.def_.params d.def_.body d.def_.scope [] [] (d.g K) z := by
  unfold PrD.ok at c
  simp only [Bool.and_eq_true, decide_eq_true_eq] at c
  obtain ⟨⟨c1, c2⟩, c3, c4, c5, c6⟩ := c
  refine ⟨⟨eqO_ok c1, eqO_ok c2, c3, ?_⟩, seen_fun e c6 c5⟩
  unfold hasRec at c4
  unfold PrD.g
  cases h : PySem.W.recIn K (d.p K) "property" with
  | none => rw [h] at c4; cases c4
  | some l =>
    rw [h] at c4
    match l, c4 with
    | .ref a :: r, _ => exact ⟨r, rfl⟩
    | [], c4 => cases c4
abbrev AlP : Type := AlX × List FnW
def exA (ps : List PrD) (ex : PySem.W.Frag → Bool) (K : PySem.W.Frag) : Bool := ex K && ps.all fun d => d.ok K
def obsP (n : Nat) (fa : List Fa) (fn : List DefD) (ts : List Tab) (ps : List PrD) (ex : PySem.W.Frag → Bool) (g : Addr → Option Obj) : AlP := (obsX n fa fn ts [] (exA ps ex) g, ps.map fun d => seenAt (frT g (asD g n)) (d.g (frT g (asD g n))))
def valP (fn : List DefD) (ts : List Tab) (ps : List PrD) (w : World) : AlP := (valX fn ts w, ps.map fun d => d.def_.val)
structure SaysP (fa : List Fa) (fn : List DefD) (ts : List Tab) (ps : List PrD) (ex : PySem.W.Frag → Bool) (w : World) (h : Heap) (K : PySem.W.Frag) : Prop where
  x : SaysX fa fn ts [] (exA ps ex) w h K
  l : (ps.map fun d => seenAt K (d.g K)) = ps.map fun d => d.def_.val
def hookP (n : Nat) (fa : List Fa) (fn : List DefD) (ts : List Tab) (ps : List PrD) (ex : PySem.W.Frag → Bool) : PySem.W.Hook where
  α := AlP
  obs := fun s => obsP n fa fn ts ps ex s.heap.get?
  val := fun w => valP fn ts ps w
  says := fun w h => ∃ K : PySem.W.Frag, K.In h ∧ SaysP fa fn ts ps ex w h K
  of := fun _ _ q => ⟨_, frT_in, ⟨saysX_of (congrArg (fun z : AlP => z.1) q), congrArg (fun z : AlP => z.2) q⟩⟩
  keeps := fun _ _ _ ⟨K, i, c⟩ k => ⟨K, PySem.W.Frag.In.keeps i k, ⟨⟨c.x.t, c.x.more, c.x.hd, c.x.out, fun p hp => k _ _ (c.x.empty p hp)⟩, c.l⟩⟩
theorem obsP_eq {n : Nat} {fa : List Fa} {fn : List DefD} {ts : List Tab} {ps : List PrD} {ex : PySem.W.Frag → Bool} {g : Addr → Option Obj} {s : Shared} (h : ∀ a, g a = s.heap.get? a) : obsP n fa fn ts ps ex g = (hookP n fa fn ts ps ex).obs s := by
  rw [funext h]
  rfl
section
variable {fa : List Fa} {fn : List DefD} {ts : List Tab} {ps : List PrD} {ex : PySem.W.Frag → Bool} {w : World} {h : Heap} {K : PySem.W.Frag}
theorem SaysP.d (c : SaysP fa fn ts ps ex w h K) : SaysD fa fn K := c.x.t.d
theorem SaysP.ex_ (c : SaysP fa fn ts ps ex w h K) : ex K = true := ((Bool.and_eq_true _ _).mp c.x.more).1
theorem SaysP.pr (c : SaysP fa fn ts ps ex w h K) (i : Nat) {d : PrD} (q : ps[i]? = some d := by rfl) : PropOf K (ga K d.C) d.m (d.p K) (d.g K) ∧ ∃ z, FunD K d.def_.name d.def_.qual d.def_.params d.def_.body d.def_.scope [] [] (d.g K) z := by
  have c1 := List.all_eq_true.mp ((Bool.and_eq_true _ _).mp c.x.more).2 d (List.mem_of_getElem? q)
  have c2 := congrArg (fun l => l[i]?) c.l
  simp only [List.getElem?_map, q, Option.map_some, Option.some.injEq] at c2
  exact PrD.fun_ c2 c1
end
end HP
set_option linter.all false
set_option maxRecDepth 100000
set_option maxHeartbeats 2000000
namespace HP
open PySem PySem.Spec PyProof.Rows L2 MM He
/-! # facts as data -/
def gamOf (K : PySem.W.Frag) (cs : List Str) : Gam where
  K := K
  cls := fun C => if cs.contains C = true then some (He.ga K C) else none
  X := fun _ _ _ _ => False
  Xs := fun _ _ _ _ _ _ _ h => h
theorem cls_of (K : PySem.W.Frag) {cs : List Str} {C : Str} (h : cs.contains C = true) : (gamOf K cs).cls C = some (He.ga K C) := by
  show (if cs.contains C = true then some (He.ga K C) else none) = _
  rw [if_pos h]
theorem gam_ok (K : PySem.W.Frag) (cs : List Str) : (gamOf K cs).Ok := ⟨fun _ _ _ _ h => h.elim⟩
theorem reps_strs (K : PySem.W.Frag) {G : Gam} {H : Hp} {M : Mem} : ∀ xs : List Str, Reps G H M (xs.map .str) ((xs.map fun x => He.Dv.str x).map (He.Dv.v K))
  | [] => .nil
  | x :: xs => .cons (.str x) (reps_strs K xs)
theorem ktup_of {K : PySem.W.Frag} {x : Str} {vs : List He.Dv} (h : He.tupB K x vs = true) : KTup K (He.ga K x) (vs.map (He.Dv.v K)) := by
  rcases He.tupB_ok h (fun _ => none) with q | ⟨o, its, n, h1, h2, h3, h4, h5⟩
  · rcases q with q | ⟨o, q⟩ <;> cases q
  · exact ⟨o, its, n, h1, h2, h3, h4, h5⟩
theorem glob_tup {K : PySem.W.Frag} {mg : Str → Option Value} {cs : List Str} {x : Str} {xs : List Str} (hm : mg x = some (.ref (He.ga K x))) (h : He.tupB K x (xs.map fun z => He.Dv.str z) = true) : GlobD mg (gamOf K cs) x (.tup (xs.map .str)) :=
  ⟨_, .ref _, hm, rfl, fun _ _ => .tupK (ktup_of h) (reps_strs K xs)⟩
theorem look_mem {z y : Str} : ∀ {l : List (Str × Str)}, l.lookup z = some y → (z, y) ∈ l
  | (a, b) :: r, h => by
    have h : (match z == a with
      | true => some b
      | false => r.lookup z) = some y := h
    cases q : z == a with
    | true =>
      rw [q] at h
      cases h
      rw [beq_iff_eq.mp q]
      exact List.mem_cons_self
    | false =>
      rw [q] at h
      exact List.mem_cons_of_mem _ (look_mem h)
theorem ktab_of {K : PySem.W.Frag} {w : World} {mg : Str → Option Value} {x : Str} {tab : List (Str × Str)} (hm : mg x = some (.ref (He.ga K x))) (hd : ∃ es n, KDict K w (He.ga K x) es n) (hv : He.valsB K (He.ga K x) (tab.map fun q => (q.1, He.Dv.str q.2)) = true) : KTab K w mg x tab := by
  refine ⟨_, hm, fun z y hl => ?_⟩
  obtain ⟨es, n, kd⟩ := hd
  obtain ⟨u, h1, h2⟩ := He.valsB_ok hv (q := (z, .str y)) (List.mem_map.mpr ⟨(z, y), look_mem hl, rfl⟩)
  exact ⟨es, n, u, kd.at_, kd.lit, h1, h2⟩
def insB (K : PySem.W.Frag) (C : Str) : Bool :=
  (He.eqO (PySem.W.findIn K (.ref (He.ga K C)) "__class__") (some (some (.builtin "object.__class__"))) && He.eqO (PySem.W.specialIn K (.builtin "object.__class__") "__get__") (some (some (.builtin "getset_descriptor.__get__")))) &&
  (decide (PySem.W.takesIn K (.builtin "object.__class__") = some true) && (decide (PySem.W.mroIn K (He.ga K C) (.type "object") = some true) && decide (PySem.W.kitOne K (.ref (He.ga K C)) (.ref (He.ga K C)) = some true)))
theorem insB_ok {K : PySem.W.Frag} {C : Str} (h : insB K C = true) (hc : Cls K (He.ga K C)) : InsOk K (He.ga K C) ∧ PySem.W.kitOne K (.ref (He.ga K C)) (.ref (He.ga K C)) = some true := by
  unfold insB at h
  simp only [Bool.and_eq_true, decide_eq_true_eq] at h
  obtain ⟨⟨h1, h2⟩, h3, h4, h5⟩ := h
  exact ⟨⟨hc, He.eqO_ok h1, He.eqO_ok h2, h3, h4⟩, h5⟩
/-- a law's end -/
theorem walk_end {l : PySem.W.OpenLaw} {n k : Nat} {q : Program} {loose : List Str} {XP : (Str → Option Value) → Heap → Prop} {YP : World → Heap → Prop} {d : DefRec} {C : World → CXT} {x : Str} (e1 : l.most = some n) (e2 : n ≤ sizeLine) (e3 : d.params.defaults = []) (e4 : Room k callerA)
    (F : ∀ (w : World) (mg : Str → Option Value) (z : Addr) (h : Heap), YP w h → h.Ns mainGlobals mg → mg d.name = some (.ref z) → ∃ (K : PySem.W.Frag) (fd : FuncData) (p : Sp), K.In h ∧ (∀ (s : Shared) (u : Value), BindsTo s fd ⟨[u], []⟩ [(x, u)]) ∧
      (∀ (H : Hp) (a : Addr) (ns : List Int), ns.length ≤ n → Only H → SqL K H a (ns.map V.int) → p [.ref a] H (fun v _ => v = .bl true) fun _ _ _ => False) ∧ ∀ b : Heap, K.In b → b.Ns mainGlobals mg → FnOk l.prog w K mg b (C w) k z fd [x] p)
    (hC : ∀ (w : World) (H : Hp) (s : Shared) (e : Value) (s2 : Shared), C w [] H s (fun _ _ _ => False) e s2 → False) : PySem.W.WalkO q loose XP YP l.row.toRowW d [] (fun f vs => PySem.call f vs) := by
  refine Att.attach_call e1 e3 ?_
  intro w sA sB mg mb z o pm cd doc a vs ns A y ho hd hcd hz hobj hi hlen hg
  obtain ⟨K, fd, p, iK, hb, hs, hF⟩ := F w mg z _ y A.T.g hz
  refine law_call iK A.T.g A.T.b A.T.builtins A.T.nolimit hg hobj hi (Nat.le_trans hlen e2) e4 hF hb ?_ ?_
  · intro H t1 t2
    exact hs H a ns hlen t1 t2
  · intro H e s2
    exact hC w H sB e s2
theorem reps_none (G : Gam) (H : Hp) : RepS G H ⟨[], [], []⟩ [] := ⟨rfl, List.nodup_nil, fun _ h => (nomatch h), fun _ h => (nomatch h), fun _ h => (nomatch h), fun _ h => (nomatch h), fun n c e => (by simp at e)⟩
/-- the script as data -/
theorem rep_script {K : PySem.W.Frag} {cs : List Str} {H : Hp} {a : Addr} {ns : List Int} (h : SqL K H a (ns.map V.int)) : Rep (gamOf K cs) H ⟨[], [], []⟩ (.scr ns) (.ref a) := by
  rcases h with h | h
  · refine .scr ?_ h
    rintro (q | q) <;> cases q
  · exact .scrK h
theorem spM_true {K : PySem.W.Frag} {cs : List Str} {fn : FnM} {H : Hp} {a : Addr} {ns : List Int} {E : XK} (h : SqL K H a (ns.map V.int)) (hf : fn [.scr ns] [] = .ok (.bl true) []) : spM (gamOf K cs) 1 fn [.ref a] H (fun v _ => v = .bl true) E := by
  refine ⟨[.scr ns], [], ⟨[], [], []⟩, .cons (rep_script h) .nil, reps_none _ _, rfl, ?_⟩
  rw [hf]
  intro v H2 M2 _ _ r
  exact r.bl_inv (gam_ok K cs)
end HP
set_option linter.all false
set_option maxRecDepth 100000
set_option maxHeartbeats 0
namespace Hd
open PySem PySem.Spec PyProof.Rows L2
def top (i : Nat) : Stmt := PySem.Challenge.pw_forkways_k67_what_is_best_asked.main.body.getD i (.Pass ⟨0, 0, 0, 0⟩)
def fn : List He.DefD := [
⟨("_law_begin", none), "_law_begin", "_law_begin", defArgs (top 64), defBody (top 64), defScope (top 64), [], []⟩,
  ⟨("_law_blend", none), "_law_blend", "_law_blend", defArgs (top 65), defBody (top 65), defScope (top 65), [], []⟩,
  ⟨("_law_claim", none), "_law_claim", "_law_claim", defArgs (top 72), defBody (top 72), defScope (top 72), [], []⟩,
  ⟨("_law_most_left", none), "_law_most_left", "_law_most_left", defArgs (top 74), defBody (top 74), defScope (top 74), [], []⟩,
  ⟨("_law_near_facts", none), "_law_near_facts", "_law_near_facts", defArgs (top 73), defBody (top 73), defScope (top 73), [], []⟩,
  ⟨("_law_pick", none), "_law_pick", "_law_pick", defArgs (top 67), defBody (top 67), defScope (top 67), [], []⟩,
  ⟨("_law_point", none), "_law_point", "_law_point", defArgs (top 70), defBody (top 70), defScope (top 70), [], []⟩,
  ⟨("_law_sum", none), "_law_sum", "_law_sum", defArgs (top 71), defBody (top 71), defScope (top 71), [], []⟩,
  ⟨("_law_take", none), "_law_take", "_law_take", defArgs (top 66), defBody (top 66), defScope (top 66), [], []⟩,
  ⟨("_law_towns", none), "_law_towns", "_law_towns", defArgs (top 69), defBody (top 69), defScope (top 69), [], []⟩,
  ⟨("_law_words", none), "_law_words", "_law_words", defArgs (top 68), defBody (top 68), defScope (top 68), [], []⟩,
  ⟨("answer", none), "answer", "answer", defArgs (top 47), defBody (top 47), defScope (top 47), [], []⟩,
  ⟨("best_asked", none), "best_asked", "best_asked", defArgs (top 62), defBody (top 62), defScope (top 62), [], []⟩,
  ⟨("common_part", none), "common_part", "common_part", defArgs (top 43), defBody (top 43), defScope (top 43), [], []⟩,
  ⟨("fullest", none), "fullest", "fullest", defArgs (top 48), defBody (top 48), defScope (top 48), [], []⟩,
  ⟨("fullest_lot", none), "fullest_lot", "fullest_lot", defArgs (top 54), defBody (top 54), defScope (top 54), [], []⟩,
  ⟨("gap_of", none), "gap_of", "gap_of", defArgs (top 34), defBody (top 34), defScope (top 34), [], []⟩,
  ⟨("has_all", none), "has_all", "has_all", defArgs (top 53), defBody (top 53), defScope (top 53), [], []⟩,
  ⟨("is_claim_of", none), "is_claim_of", "is_claim_of", defArgs (top 32), defBody (top 32), defScope (top 32), [], []⟩,
  ⟨("is_list", none), "is_list", "is_list", defArgs (top 16), defBody (top 16), defScope (top 16), [], []⟩,
  ⟨("is_name", none), "is_name", "is_name", defArgs (top 17), defBody (top 17), defScope (top 17), [], []⟩,
  ⟨("is_number", none), "is_number", "is_number", defArgs (top 15), defBody (top 15), defScope (top 15), [], []⟩,
  ⟨("is_pair", none), "is_pair", "is_pair", defArgs (top 59), defBody (top 59), defScope (top 59), [], []⟩,
  ⟨("is_places", none), "is_places", "is_places", defArgs (top 18), defBody (top 18), defScope (top 18), [], []⟩,
  ⟨("is_point_of", none), "is_point_of", "is_point_of", defArgs (top 21), defBody (top 21), defScope (top 21), [], []⟩,
  ⟨("is_side", none), "is_side", "is_side", defArgs (top 23), defBody (top 23), defScope (top 23), [], []⟩,
  ⟨("is_sum", none), "is_sum", "is_sum", defArgs (top 31), defBody (top 31), defScope (top 31), [], []⟩,
  ⟨("is_term", none), "is_term", "is_term", defArgs (top 30), defBody (top 30), defScope (top 30), [], []⟩,
  ⟨("law", none), "law", "law", defArgs (top 75), defBody (top 75), defScope (top 75), [], []⟩,
  ⟨("least_terms", none), "least_terms", "least_terms", defArgs (top 44), defBody (top 44), defScope (top 44), [], []⟩,
  ⟨("lots_for", none), "lots_for", "lots_for", defArgs (top 55), defBody (top 55), defScope (top 55), [], []⟩,
  ⟨("lots_left", none), "lots_left", "lots_left", defArgs (top 56), defBody (top 56), defScope (top 56), [], []⟩,
  ⟨("most_left", none), "most_left", "most_left", defArgs (top 61), defBody (top 61), defScope (top 61), [], []⟩,
  ⟨("need_book", none), "need_book", "need_book", defArgs (top 41), defBody (top 41), defScope (top 41), [], []⟩,
  ⟨("need_claims", none), "need_claims", "need_claims", defArgs (top 39), defBody (top 39), defScope (top 39), [], []⟩,
  ⟨("need_pairs", none), "need_pairs", "need_pairs", defArgs (top 60), defBody (top 60), defScope (top 60), [], []⟩,
  ⟨("need_places", none), "need_places", "need_places", defArgs (top 20), defBody (top 20), defScope (top 20), [], []⟩,
  ⟨("ordered", none), "ordered", "ordered", defArgs (top 19), defBody (top 19), defScope (top 19), [], []⟩,
  ⟨("parts", none), "parts", "parts", defArgs (top 24), defBody (top 24), defScope (top 24), [], []⟩,
  ⟨("plain_rows", none), "plain_rows", "plain_rows", defArgs (top 45), defBody (top 45), defScope (top 45), [], []⟩,
  ⟨("rows_of", none), "rows_of", "rows_of", defArgs (top 51), defBody (top 51), defScope (top 51), [], []⟩,
  ⟨("shapes_of", none), "shapes_of", "shapes_of", defArgs (top 26), defBody (top 26), defScope (top 26), [], []⟩,
  ⟨("sum_at", none), "sum_at", "sum_at", defArgs (top 33), defBody (top 33), defScope (top 33), [], []⟩,
  ⟨("with_place", none), "with_place", "with_place", defArgs (top 25), defBody (top 25), defScope (top 25), [], []⟩,
  ⟨("Book", some "__init__"), "__init__", "Book.__init__", defArgs (inClass (top 40) 0), defBody (inClass (top 40) 0), defScope (inClass (top 40) 0), [], []⟩,
  ⟨("Tableau", some "__init__"), "__init__", "Tableau.__init__", defArgs (inClass (top 46) 0), defBody (inClass (top 46) 0), defScope (inClass (top 46) 0), [], []⟩,
  ⟨("Tableau", some "entering"), "entering", "Tableau.entering", defArgs (inClass (top 46) 1), defBody (inClass (top 46) 1), defScope (inClass (top 46) 1), [], []⟩,
  ⟨("Tableau", some "exchange"), "exchange", "Tableau.exchange", defArgs (inClass (top 46) 3), defBody (inClass (top 46) 3), defScope (inClass (top 46) 3), [], []⟩,
  ⟨("Tableau", some "leaving"), "leaving", "Tableau.leaving", defArgs (inClass (top 46) 2), defBody (inClass (top 46) 2), defScope (inClass (top 46) 2), [], []⟩,
  ⟨("Tableau", some "led"), "led", "Tableau.led", defArgs (inClass (top 46) 4), defBody (inClass (top 46) 4), defScope (inClass (top 46) 4), [], []⟩,
  ⟨("Tableau", some "numbers"), "numbers", "Tableau.numbers", defArgs (inClass (top 46) 6), defBody (inClass (top 46) 6), defScope (inClass (top 46) 6), [], []⟩,
  ⟨("Tableau", some "solve"), "solve", "Tableau.solve", defArgs (inClass (top 46) 5), defBody (inClass (top 46) 5), defScope (inClass (top 46) 5), [], []⟩]
def fa : List He.Fa := [.cls "Book", .noat "Book" "own_facts", .noat "Book" "own_places", .cls "Tableau", .noat "Tableau" "base", .noat "Tableau" "divisor", .noat "Tableau" "goal", .noat "Tableau" "lines", .noat "Tableau" "many", .noat "Tableau" "width", .glo "_law_begin", .glo "_law_blend", .glo "_law_claim", .glo "_law_most_left", .glo "_law_near_facts", .glo "_law_pick", .glo "_law_point", .glo "_law_sum", .glo "_law_take", .glo "_law_towns", .glo "_law_words", .glo "answer", .glo "best_asked", .glo "common_part", .glo "fullest", .glo "fullest_lot", .glo "gap_of", .glo "has_all", .glo "is_claim_of", .glo "is_list", .glo "is_name", .glo "is_number", .glo "is_pair", .glo "is_places", .glo "is_point_of", .glo "is_side", .glo "is_sum", .glo "is_term", .glo "law", .glo "least_terms", .glo "lots_for", .glo "lots_left", .glo "most_left", .glo "need_book", .glo "need_claims", .glo "need_pairs", .glo "need_places", .glo "ordered", .glo "parts", .glo "plain_rows", .glo "rows_of", .glo "shapes_of", .glo "sum_at", .glo "with_place", .str "FORK" "fork", .int "LEAST_PLACES" 2, .str "LETTERS" "abcdefghijklmnopqrstuvwxyz", .int "MOST_FACTS" 6, .int "MOST_LETTERS" 8, .int "MOST_PAIRS" 4, .int "MOST_PLACES" 6, .int "MOST_TERMS" 4, .glo "WORDS", .glo "Book", .mkr "Book", .glo "Tableau", .mkr "Tableau", .meth "Tableau" "entering", .meth "Tableau" "exchange", .meth "Tableau" "leaving", .meth "Tableau" "led", .meth "Tableau" "numbers", .meth "Tableau" "solve", .free "abs", .free "all", .free "any", .free "bool", .free "enumerate", .free "int", .free "isinstance", .free "len", .free "list", .free "max", .free "min", .free "range", .free "set", .free "sorted", .free "str", .free "sum", .free "tuple", .free "zip", .glo "KINDS"]
def pr : List HP.PrD := [⟨"Book", "facts", ⟨("facts", none), "facts", "Book.facts", defArgs (inClass (top 40) 2), defBody (inClass (top 40) 2), defScope (inClass (top 40) 2), [], []⟩⟩,
  ⟨"Book", "places", ⟨("places", none), "places", "Book.places", defArgs (inClass (top 40) 1), defBody (inClass (top 40) 1), defScope (inClass (top 40) 1), [], []⟩⟩]
def ts : List He.Tab := [(fun K => He.ga K "KINDS", ["most", "less", "same"])]
def ex (K : PySem.W.Frag) : Bool := He.tupB K "WORDS" [.str "most", .str "less", .str "same"] && (He.valsB K (He.ga K "KINDS") [("most", .str "weak"), ("less", .str "strict"), ("same", .str "even")] && (HP.insB K "Book"))
def names0 : List PySem.Str := [("_wall" : PySem.Str), ("RiverError" : PySem.Str), ("BadPlaces" : PySem.Str), ("BadChoice" : PySem.Str), ("BadFacts" : PySem.Str), ("BadBook" : PySem.Str), ("OtherPlaces" : PySem.Str), ("TooMany" : PySem.Str), ("LETTERS" : PySem.Str), ("MOST_LETTERS" : PySem.Str), ("LEAST_PLACES" : PySem.Str), ("MOST_PLACES" : PySem.Str), ("FORK" : PySem.Str), ("is_number" : PySem.Str), ("is_list" : PySem.Str), ("is_name" : PySem.Str), ("is_places" : PySem.Str), ("ordered" : PySem.Str), ("need_places" : PySem.Str), ("is_point_of" : PySem.Str)]
def names1 : List PySem.Str := [("is_side" : PySem.Str), ("parts" : PySem.Str), ("with_place" : PySem.Str), ("shapes_of" : PySem.Str), ("WORDS" : PySem.Str), ("MOST_TERMS" : PySem.Str), ("is_term" : PySem.Str), ("is_sum" : PySem.Str), ("is_claim_of" : PySem.Str), ("sum_at" : PySem.Str), ("gap_of" : PySem.Str), ("does_say" : PySem.Str), ("holds_of" : PySem.Str), ("MOST_FACTS" : PySem.Str), ("need_claims" : PySem.Str), ("Book" : PySem.Str), ("need_book" : PySem.Str), ("common_part" : PySem.Str), ("least_terms" : PySem.Str), ("plain_rows" : PySem.Str)]
def names2 : List PySem.Str := [("Tableau" : PySem.Str), ("answer" : PySem.Str), ("fullest" : PySem.Str), ("KINDS" : PySem.Str), ("rows_of" : PySem.Str), ("has_all" : PySem.Str), ("fullest_lot" : PySem.Str), ("lots_for" : PySem.Str), ("lots_left" : PySem.Str), ("MOST_PAIRS" : PySem.Str), ("is_pair" : PySem.Str), ("need_pairs" : PySem.Str), ("most_left" : PySem.Str), ("best_asked" : PySem.Str), ("_law_begin" : PySem.Str), ("_law_blend" : PySem.Str), ("_law_take" : PySem.Str), ("_law_pick" : PySem.Str), ("_law_words" : PySem.Str), ("_law_towns" : PySem.Str)]
def names3 : List PySem.Str := [("_law_point" : PySem.Str), ("_law_sum" : PySem.Str), ("_law_claim" : PySem.Str), ("_law_near_facts" : PySem.Str), ("_law_most_left" : PySem.Str)]
def names : List PySem.Str := names0 ++ (names1 ++ (names2 ++ (names3)))
abbrev R : PySem.W.OpenRow := PySem.W.OpenLaw.row PySem.Challenge.rw_forkways_k67_what_is_best_asked
abbrev hk : PySem.W.Hook := HP.hookP 6 fa fn ts pr ex
def ob (s : PySem.W.SharedT) : HP.AlP := HP.obsP 6 fa fn ts pr ex (HandSHeadRun.getT s)
theorem ob_eq (s : PySem.W.SharedT) : ob s = hk.obs s.abs := HP.obsP_eq (HandSHeadRun.getT_eq s)
theorem runF (w : World) : HandSHeadRun.RunEq R (PySem.W.view R.prog [75]) hk ob 20000 names (w.withFollow "special-get-raises" false) := by
  intro os
  kernel_rfl
theorem runT (w : World) : HandSHeadRun.RunEq R (PySem.W.view R.prog [75]) hk ob 20000 names (w.withFollow "special-get-raises" true) := by
  intro os
  kernel_rfl
theorem run (w : World) : HandSHeadRun.RunEq R (PySem.W.view R.prog [75]) hk ob 20000 names w := PySem.W.byRow2 (P := fun w => HandSHeadRun.RunEq R (PySem.W.view R.prog [75]) hk ob 20000 names w) "special-get-raises" runF runT w
end Hd
set_option linter.all false
set_option maxRecDepth 100000
set_option maxHeartbeats 4000000
namespace Wk
open PySem PySem.Spec PyProof.Rows L2 MM
def inst (C : Str) : Bool := decide (C = ("Book" : Str))
def kt (s t : Ty) : Option Bool := match s, t with
  | .inl a, .inl b => kitB a b
  | .inr a, .inr b => if a = b ∧ inst a = true then some true else none
  | _, _ => none
abbrev n_is_number : List Str := ["thing"]
noncomputable def b_is_number : MB := (bRet (mAndV (mB (bIsi kt inst) (mCons (mVar 0) (mCons (mC (.ty "int")) mNil))) (mNotV (mB (bIsi kt inst) (mCons (mVar 0) (mCons (mC (.ty "bool")) mNil))))))
noncomputable def f_is_number : FnM := mkFn n_is_number.length b_is_number
abbrev n_is_list : List Str := ["thing"]
noncomputable def b_is_list : MB := (bRet (mB (bIsi kt inst) (mCons (mVar 0) (mCons (mTup (mCons (mC (.ty "list")) (mCons (mC (.ty "tuple")) mNil))) mNil))))
noncomputable def f_is_list : FnM := mkFn n_is_list.length b_is_list
abbrev n_is_name : List Str := ["thing", "sign"]
noncomputable def b_is_name : MB := (bSeq (bIf (mOrT (mNotT (mTest (mB (bIsi kt inst) (mCons (mVar 0) (mCons (mC (.ty "str")) mNil))))) (mNotT (mTest (mChain oLe oLe (mC (.int 1)) (mB bLen (mCons (mVar 0) mNil)) (mC (.int 8))))))
    (bRet (mC (.bl false)))
    bSkip)
    (bRet (mB bAll (mCons (mLc (iAny (mVar 0)) [1] (gN 1) mYes (mBin oIn (mVar 1) (mC (.str "abcdefghijklmnopqrstuvwxyz")))) mNil))))
noncomputable def f_is_name : FnM := mkFn n_is_name.length b_is_name
abbrev n_is_places : List Str := ["thing", "name"]
noncomputable def b_is_places : MB := (bSeq (bIf (mOrT (mNotT (mTest (mCall 1 f_is_list (mCons (mVar 0) mNil)))) (mNotT (mTest (mChain oLe oLe (mC (.int 2)) (mB bLen (mCons (mVar 0) mNil)) (mC (.int 6))))))
    (bRet (mC (.bl false)))
    bSkip)
    (bRet (mAndV (mB bAll (mCons (mLc (iAny (mVar 0)) [1] (gN 1) mYes (mCall 1 f_is_name (mCons (mVar 1) mNil))) mNil)) (mBin oEq (mLenSet (mVar 0)) (mB bLen (mCons (mVar 0) mNil))))))
noncomputable def f_is_places : FnM := mkFn n_is_places.length b_is_places
abbrev n_ordered : List Str := ["places"]
noncomputable def b_ordered : MB := (bRet (mB bTuple (mCons (mB bSorted (mCons (mVar 0) mNil)) mNil)))
noncomputable def f_ordered : FnM := mkFn n_ordered.length b_ordered
abbrev n_need_places : List Str := ["places"]
noncomputable def b_need_places : MB := (bSeq (bIf (mNotT (mTest (mCall 1 f_is_places (mCons (mVar 0) mNil))))
    bStuck
    bSkip)
    (bRet (mCall 1 f_ordered (mCons (mVar 0) mNil))))
noncomputable def f_need_places : FnM := mkFn n_need_places.length b_need_places
abbrev n_is_point_of : List Str := ["names", "thing", "point"]
noncomputable def b_is_point_of (f_is_point_of_d : FnM) : MB := (bSeq (bIf (mTest (mB (bIsi kt inst) (mCons (mVar 1) (mCons (mC (.ty "str")) mNil))))
    (bRet (mBin oIn (mVar 1) (mVar 0)))
    bSkip)
    (bSeq (bIf (mOrT (mNotT (mTest (mB (bIsi kt inst) (mCons (mVar 1) (mCons (mC (.ty "tuple")) mNil))))) (mOrT (mTest (mBin oNe (mB bLen (mCons (mVar 1) mNil)) (mC (.int 4)))) (mOrT (mNotT (mTest (mB (bIsi kt inst) (mCons (mIx (mVar 1) (mC (.int 0))) (mCons (mC (.ty "str")) mNil))))) (mTest (mBin oNe (mIx (mVar 1) (mC (.int 0))) (mC (.str "fork")))))))
    (bRet (mC (.bl false)))
    bSkip)
    (bRet (mB bAll (mCons (mLc (iAny (mSl oSl (mVar 1) (mSome (mC (.int 1))) mNo)) [2] (gN 2) mYes (mCall 2 f_is_point_of_d (mCons (mVar 0) (mCons (mVar 2) mNil)))) mNil)))))
noncomputable def f_is_point_of : Nat → FnM
  | 0 => mkFn n_is_point_of.length bStuck
  | d + 1 => mkFn n_is_point_of.length (b_is_point_of (f_is_point_of d))
abbrev n_is_side : List Str := ["parting", "point", "other"]
noncomputable def b_is_side (f_is_side_d : FnM) : MB := (bSeq (bIf (mTest (mB (bIsi kt inst) (mCons (mVar 1) (mCons (mC (.ty "str")) mNil))))
    (bRet (mBin oIn (mVar 1) (mVar 0)))
    bSkip)
    (bRet (mBin oGt (mB bSum (mCons (mLc (iAny (mSl oSl (mVar 1) (mSome (mC (.int 1))) mNo)) [2] (gN 2) mYes (mB bInt (mCons (mCall 2 f_is_side_d (mCons (mVar 0) (mCons (mVar 2) mNil))) mNil))) mNil)) (mC (.int 1)))))
noncomputable def f_is_side : Nat → FnM
  | 0 => mkFn n_is_side.length bStuck
  | d + 1 => mkFn n_is_side.length (b_is_side (f_is_side d))
abbrev n_parts : List Str := ["parting", "one", "other"]
noncomputable def b_parts : MB := (bRet (mBin oNe (mCall 2 (f_is_side 8) (mCons (mVar 0) (mCons (mVar 1) mNil))) (mCall 2 (f_is_side 8) (mCons (mVar 0) (mCons (mVar 2) mNil)))))
noncomputable def f_parts : FnM := mkFn n_parts.length b_parts
abbrev n_with_place : List Str := ["shape", "name", "found", "stretch", "some", "other", "is_around", "one"]
noncomputable def b_with_place : MB := (bSeq (bAsg (mLstC mNil) (gN 2))
    (bSeq (bFor (iAny (mVar 0)) (gN 3)
    (bSeq (bAsg (mLstC (mCons (mTup (mCons (mVar 1) mNil)) (mCons (mVar 3) (mCons (mTup (mStar (mVar 3) (mCons (mVar 1) mNil))) mNil)))) (gN 4))
    (bSeq (bFor (iAny (mVar 0)) (gN 5)
    (bIf (mTest (mBin oNe (mVar 5) (mVar 3)))
    (bSeq (bAsg (mB bAll (mCons (mLc (iAny (mVar 3)) [7] (gN 7) mYes (mBin oIn (mVar 7) (mVar 5))) mNil)) (gN 6))
    (bDrop (mBM "list" tAppend (mVar 4) (mCons (mIf (mTest (mVar 6)) (mTup (mStar (mVar 5) (mCons (mVar 1) mNil))) (mVar 5)) mNil))))
    bSkip))
    (bDrop (mBM "list" tAppend (mVar 2) (mCons (mB bTuple (mCons (mB bSorted (mCons (mVar 4) mNil)) mNil)) mNil))))))
    (bRet (mVar 2))))
noncomputable def f_with_place : FnM := mkFnG n_with_place.length b_with_place
abbrev n_shapes_of : List Str := ["names", "found", "name", "shape", "later"]
noncomputable def b_shapes_of : MB := (bSeq (bAsg (mLst (mCons (mTup (mCons (mSl oSl (mVar 0) (mSome (mC (.int 1))) (mSome (mC (.int 2)))) mNil)) mNil)) (gN 1))
    (bSeq (bFor (iAny (mSl oSl (mVar 0) (mSome (mC (.int 2))) mNo)) (gN 2)
    (bAsg (mLc2 (iAny (mVar 1)) [3, 4] (gN 3) mYes (iAny (mCall 2 f_with_place (mCons (mVar 3) (mCons (mVar 2) mNil)))) [4] (gN 4) mYes (mVar 4)) (gN 1)))
    (bRet (mB bSorted (mCons (mVar 1) mNil)))))
noncomputable def f_shapes_of : FnM := mkFn n_shapes_of.length b_shapes_of
abbrev n_is_term : List Str := ["names", "thing"]
noncomputable def b_is_term : MB := (bSeq (bIf (mOrT (mNotT (mTest (mB (bIsi kt inst) (mCons (mVar 1) (mCons (mC (.ty "tuple")) mNil))))) (mOrT (mTest (mBin oNe (mB bLen (mCons (mVar 1) mNil)) (mC (.int 3)))) (mOrT (mNotT (mTest (mCall 1 f_is_number (mCons (mIx (mVar 1) (mC (.int 0))) mNil)))) (mTest (mBin oLt (mIx (mVar 1) (mC (.int 0))) (mC (.int 1)))))))
    (bRet (mC (.bl false)))
    bSkip)
    (bRet (mAndV (mCall 2 (f_is_point_of 8) (mCons (mVar 0) (mCons (mIx (mVar 1) (mC (.int 1))) mNil))) (mCall 2 (f_is_point_of 8) (mCons (mVar 0) (mCons (mIx (mVar 1) (mC (.int 2))) mNil))))))
noncomputable def f_is_term : FnM := mkFn n_is_term.length b_is_term
abbrev n_is_sum : List Str := ["names", "thing", "term"]
noncomputable def b_is_sum : MB := (bSeq (bIf (mOrT (mNotT (mTest (mB (bIsi kt inst) (mCons (mVar 1) (mCons (mC (.ty "tuple")) mNil))))) (mTest (mBin oGt (mB bLen (mCons (mVar 1) mNil)) (mC (.int 4)))))
    (bRet (mC (.bl false)))
    bSkip)
    (bRet (mB bAll (mCons (mLc (iAny (mVar 1)) [2] (gN 2) mYes (mCall 2 f_is_term (mCons (mVar 0) (mCons (mVar 2) mNil)))) mNil))))
noncomputable def f_is_sum : FnM := mkFn n_is_sum.length b_is_sum
abbrev n_is_claim_of : List Str := ["names", "thing"]
noncomputable def b_is_claim_of : MB := (bSeq (bIf (mOrT (mNotT (mTest (mB (bIsi kt inst) (mCons (mVar 1) (mCons (mC (.ty "tuple")) mNil))))) (mOrT (mTest (mBin oNe (mB bLen (mCons (mVar 1) mNil)) (mC (.int 3)))) (mOrT (mNotT (mTest (mB (bIsi kt inst) (mCons (mIx (mVar 1) (mC (.int 0))) (mCons (mC (.ty "str")) mNil))))) (mTest (mBin oNin (mIx (mVar 1) (mC (.int 0))) (mC (.tup [(.str "most"), (.str "less"), (.str "same")])))))))
    (bRet (mC (.bl false)))
    bSkip)
    (bRet (mAndV (mCall 2 f_is_sum (mCons (mVar 0) (mCons (mIx (mVar 1) (mC (.int 1))) mNil))) (mCall 2 f_is_sum (mCons (mVar 0) (mCons (mIx (mVar 1) (mC (.int 2))) mNil))))))
noncomputable def f_is_claim_of : FnM := mkFn n_is_claim_of.length b_is_claim_of
abbrev n_sum_at : List Str := ["added", "parting", "n", "one", "other"]
noncomputable def b_sum_at : MB := (bRet (mB bSum (mCons (mLc (iAny (mVar 0)) [2, 3, 4] (gTupM 3 (gConsM (gN 2) (gConsM (gN 3) (gConsM (gN 4) gNilM)))) (mTest (mCall 3 f_parts (mCons (mVar 1) (mCons (mVar 3) (mCons (mVar 4) mNil))))) (mVar 2)) mNil)))
noncomputable def f_sum_at : FnM := mkFn n_sum_at.length b_sum_at
abbrev n_gap_of : List Str := ["claim", "parting"]
noncomputable def b_gap_of : MB := (bRet (mBin oSub (mCall 2 f_sum_at (mCons (mIx (mVar 0) (mC (.int 2))) (mCons (mVar 1) mNil))) (mCall 2 f_sum_at (mCons (mIx (mVar 0) (mC (.int 1))) (mCons (mVar 1) mNil)))))
noncomputable def f_gap_of : FnM := mkFn n_gap_of.length b_gap_of
abbrev n_need_claims : List Str := ["names", "thing", "most", "at", "item"]
noncomputable def b_need_claims : MB := (bSeq (bIf (mNotT (mTest (mB (bIsi kt inst) (mCons (mVar 1) (mCons (mTup (mCons (mC (.ty "list")) (mCons (mC (.ty "tuple")) mNil))) mNil)))))
    bStuck
    bSkip)
    (bSeq (bFor (iEnmA (mCons (mVar 1) mNil)) (gTupM 2 (gConsM (gN 3) (gConsM (gN 4) gNilM)))
    (bIf (mNotT (mTest (mCall 2 f_is_claim_of (mCons (mVar 0) (mCons (mVar 4) mNil)))))
    bStuck
    bSkip))
    (bIf (mTest (mBin oGt (mB bLen (mCons (mVar 1) mNil)) (mVar 2)))
    bStuck
    bSkip)))
noncomputable def f_need_claims : FnM := mkFn n_need_claims.length b_need_claims
abbrev n_need_book : List Str := ["book"]
noncomputable def b_need_book : MB := (bIf (mNotT (mTest (mB (bIsi kt inst) (mCons (mVar 0) (mCons (mC (.cls "Book")) mNil)))))
    bStuck
    bSkip)
noncomputable def f_need_book : FnM := mkFn n_need_book.length b_need_book
abbrev n_common_part : List Str := ["one", "other"]
noncomputable def b_common_part : MB := (bSeq (bWhile (mTest (mBin oNe (mVar 1) (mC (.int 0))))
    (bPar2 0 1 (mCons (mVar 1) (mCons (mBin oMod (mVar 0) (mVar 1)) mNil))))
    (bRet (mVar 0)))
noncomputable def f_common_part : FnM := mkFn n_common_part.length b_common_part
abbrev n_least_terms : List Str := ["numbers", "common", "number"]
noncomputable def b_least_terms : MB := (bSeq (bAsg (mC (.int 0)) (gN 1))
    (bSeq (bFor (iAny (mVar 0)) (gN 2)
    (bAsg (mCall 2 f_common_part (mCons (mVar 1) (mCons (mB bAbs (mCons (mVar 2) mNil)) mNil))) (gN 1)))
    (bRet (mB bTuple (mCons (mLc (iAny (mVar 0)) [2] (gN 2) mYes (mBin oDiv (mVar 2) (mB bMax (mCons (mVar 1) (mCons (mC (.int 1)) mNil))))) mNil)))))
noncomputable def f_least_terms : FnM := mkFn n_least_terms.length b_least_terms
abbrev n_plain_rows : List Str := ["rows", "found", "word", "numbers", "number"]
noncomputable def b_plain_rows : MB := (bSeq (bAsg (mLstC mNil) (gN 1))
    (bSeq (bFor (iAny (mVar 0)) (gTupM 2 (gConsM (gN 2) (gConsM (gN 3) gNilM)))
    (bSeq (bDrop (mBM "list" tAppend (mVar 1) (mCons (mTup (mCons (mBin oEq (mVar 2) (mC (.str "strict"))) (mCons (mB bTuple (mCons (mVar 3) mNil)) mNil))) mNil)))
    (bIf (mTest (mBin oEq (mVar 2) (mC (.str "even"))))
    (bDrop (mBM "list" tAppend (mVar 1) (mCons (mTup (mCons (mC (.bl false)) (mCons (mB bTuple (mCons (mLc (iAny (mVar 3)) [4] (gN 4) mYes (mNeg (mVar 4))) mNil)) mNil))) mNil)))
    bSkip)))
    (bRet (mVar 1))))
noncomputable def f_plain_rows : FnM := mkFnG n_plain_rows.length b_plain_rows
abbrev n_Tableau_init : List Str := ["self", "rows", "many", "helpers", "at", "is_strict", "numbers", "sign", "slacks", "extra", "row", "k", "number", "one", "other"]
noncomputable def b_Tableau_init : MB := (bSeq (bFld "Tableau" "many" (mVar 0) (mVar 2))
    (bSeq (bFld "Tableau" "width" (mVar 0) (mBin oAdd (mVar 2) (mB bLen (mCons (mVar 1) mNil))))
    (bSeq (bAsg (mLc (iEnmA (mCons (mVar 1) mNil)) [4, 10] (gTupM 2 (gConsM (gN 4) (gConsM (gN 10) gNilM))) (mTest (mIx (mVar 10) (mC (.int 0)))) (mVar 4)) (gN 3))
    (bSeq (bFld "Tableau" "divisor" (mVar 0) (mC (.int 1)))
    (bSeq (bFld "Tableau" "lines" (mVar 0) (mLstC mNil))
    (bSeq (bFld "Tableau" "base" (mVar 0) (mLstC mNil))
    (bSeq (bFor (iEnmA (mCons (mVar 1) mNil)) (gTupM 2 (gConsM (gN 4) (gConsM (gTupM 2 (gConsM (gN 5) (gConsM (gN 6) gNilM))) gNilM)))
    (bSeq (bAsg (mIf (mTest (mVar 5)) (mC (.int 1)) (mNeg (mC (.int 1)))) (gN 7))
    (bSeq (bAsg (mLc (rng1 (mCons (mB bLen (mCons (mVar 1) mNil)) mNil)) [11] (gN 11) mYes (mBin oMul (mNeg (mVar 7)) (mB bInt (mCons (mBin oEq (mVar 11) (mVar 4)) mNil)))) (gN 8))
    (bSeq (bAsg (mLc (iAny (mVar 3)) [11] (gN 11) mYes (mB bInt (mCons (mBin oEq (mVar 11) (mVar 4)) mNil))) (gN 9))
    (bSeq (bDrop (mBM "list" tAppend (mFld "Tableau" "lines" (mVar 0)) (mCons (mBin oAdd (mBin oAdd (mBin oAdd (mLc (iAny (mVar 6)) [12] (gN 12) mYes (mBin oMul (mVar 7) (mVar 12))) (mVar 8)) (mVar 9)) (mLst (mCons (mB bInt (mCons (mVar 5) mNil)) mNil))) mNil)))
    (bDrop (mBM "list" tAppend (mFld "Tableau" "base" (mVar 0)) (mCons (mIf (mTest (mVar 5)) (mBin oAdd (mFld "Tableau" "width" (mVar 0)) (mBM "list" tIndex (mVar 3) (mCons (mVar 4) mNil))) (mBin oAdd (mVar 2) (mVar 4))) mNil))))))))
    (bSeq (bFld "Tableau" "goal" (mVar 0) (mBin oAdd (mBin oAdd (mBin oMul (mLst (mCons (mC (.int 0)) mNil)) (mFld "Tableau" "width" (mVar 0))) (mBin oMul (mLst (mCons (mC (.int 1)) mNil)) (mB bLen (mCons (mVar 3) mNil)))) (mLst (mCons (mC (.int 0)) mNil))))
    (bFor (iAny (mVar 3)) (gN 4)
    (bFld "Tableau" "goal" (mVar 0) (mLc (iZp (mCons (mFld "Tableau" "goal" (mVar 0)) (mCons (mIx (mFld "Tableau" "lines" (mVar 0)) (mVar 4)) mNil))) [13, 14] (gTupM 2 (gConsM (gN 13) (gConsM (gN 14) gNilM))) mYes (mBin oSub (mVar 13) (mVar 14)))))))))))))
noncomputable def f_Tableau_init : FnM := mkFn n_Tableau_init.length b_Tableau_init
abbrev n_Tableau_numbers : List Str := ["self", "found", "at", "column"]
noncomputable def b_Tableau_numbers : MB := (bSeq (bAsg (mBin oMulC (mLst (mCons (mC (.int 0)) mNil)) (mFld "Tableau" "many" (mVar 0))) (gN 1))
    (bSeq (bFor (iEnmA (mCons (mFld "Tableau" "base" (mVar 0)) mNil)) (gTupM 2 (gConsM (gN 2) (gConsM (gN 3) gNilM)))
    (bIf (mTest (mBin oLt (mVar 3) (mFld "Tableau" "many" (mVar 0))))
    (bLPut (mVar 1) (mVar 3) (mIx (mIx (mFld "Tableau" "lines" (mVar 0)) (mVar 2)) (mNeg (mC (.int 1)))))
    bSkip))
    (bRet (mVar 1))))
noncomputable def f_Tableau_numbers : FnM := mkFnG n_Tableau_numbers.length b_Tableau_numbers
abbrev n_Tableau_entering : List Str := ["self", "column"]
noncomputable def b_Tableau_entering : MB := (bSeq (bFor (rng1 (mCons (mFld "Tableau" "width" (mVar 0)) mNil)) (gN 1)
    (bIf (mTest (mBin oLt (mIx (mFld "Tableau" "goal" (mVar 0)) (mVar 1)) (mC (.int 0))))
    (bRet (mVar 1))
    bSkip))
    (bRet (mC .non)))
noncomputable def f_Tableau_entering : FnM := mkFn n_Tableau_entering.length b_Tableau_entering
abbrev n_Tableau_led : List Str := ["self", "line", "chosen", "pivot", "factor", "number", "other"]
noncomputable def b_Tableau_led : MB := (bRet (mLc (iZp (mCons (mVar 1) (mCons (mVar 2) mNil))) [5, 6] (gTupM 2 (gConsM (gN 5) (gConsM (gN 6) gNilM))) mYes (mBin oDiv (mBin oSub (mBin oMul (mVar 5) (mVar 3)) (mBin oMul (mVar 4) (mVar 6))) (mFld "Tableau" "divisor" (mVar 0)))))
noncomputable def f_Tableau_led : FnM := mkFn n_Tableau_led.length b_Tableau_led
abbrev n_Tableau_exchange : List Str := ["self", "at", "column", "pivot", "chosen", "lines", "k", "line"]
noncomputable def b_Tableau_exchange : MB := (bSeq (bPar2 3 4 (mCons (mIx (mIx (mFld "Tableau" "lines" (mVar 0)) (mVar 1)) (mVar 2)) (mCons (mIx (mFld "Tableau" "lines" (mVar 0)) (mVar 1)) mNil)))
    (bSeq (bAsg (mLstC mNil) (gN 5))
    (bSeq (bFor (iEnmA (mCons (mFld "Tableau" "lines" (mVar 0)) mNil)) (gTupM 2 (gConsM (gN 6) (gConsM (gN 7) gNilM)))
    (bDrop (mBM "list" tAppend (mVar 5) (mCons (mIf (mTest (mBin oEq (mVar 6) (mVar 1))) (mVar 4) (mMeth "Tableau" "led" 4 f_Tableau_led (mVar 0) (mCons (mVar 7) (mCons (mVar 4) (mCons (mVar 3) (mCons (mIx (mVar 7) (mVar 2)) mNil)))))) mNil))))
    (bSeq (bFld "Tableau" "lines" (mVar 0) (mVar 5))
    (bSeq (bFld "Tableau" "goal" (mVar 0) (mMeth "Tableau" "led" 4 f_Tableau_led (mVar 0) (mCons (mFld "Tableau" "goal" (mVar 0)) (mCons (mVar 4) (mCons (mVar 3) (mCons (mIx (mFld "Tableau" "goal" (mVar 0)) (mVar 2)) mNil))))))
    (bSeq (bFld "Tableau" "divisor" (mVar 0) (mVar 3))
    (bLPut (mFld "Tableau" "base" (mVar 0)) (mVar 1) (mVar 2))))))))
noncomputable def f_Tableau_exchange : FnM := mkFn n_Tableau_exchange.length b_Tableau_exchange
abbrev n_Tableau_leaving : List Str := ["self", "column", "best", "at", "line", "here", "there"]
noncomputable def b_Tableau_leaving : MB := (bSeq (bAsg (mC .non) (gN 2))
    (bSeq (bFor (iEnmA (mCons (mFld "Tableau" "lines" (mVar 0)) mNil)) (gTupM 2 (gConsM (gN 3) (gConsM (gN 4) gNilM)))
    (bIf (mTest (mBin oGt (mIx (mVar 4) (mVar 1)) (mC (.int 0))))
    (bIf (mTest (mBin oIs (mVar 2) (mC .non)))
    (bAsg (mVar 3) (gN 2))
    (bSeq (bPar2 5 6 (mCons (mBin oMul (mIx (mVar 4) (mNeg (mC (.int 1)))) (mIx (mIx (mFld "Tableau" "lines" (mVar 0)) (mVar 2)) (mVar 1))) (mCons (mBin oMul (mIx (mIx (mFld "Tableau" "lines" (mVar 0)) (mVar 2)) (mNeg (mC (.int 1)))) (mIx (mVar 4) (mVar 1))) mNil)))
    (bIf (mOrT (mTest (mBin oLt (mVar 5) (mVar 6))) (mAndT (mTest (mBin oEq (mVar 5) (mVar 6))) (mTest (mBin oLt (mIx (mFld "Tableau" "base" (mVar 0)) (mVar 3)) (mIx (mFld "Tableau" "base" (mVar 0)) (mVar 2))))))
    (bAsg (mVar 3) (gN 2))
    bSkip)))
    bSkip))
    (bRet (mVar 2))))
noncomputable def f_Tableau_leaving : FnM := mkFn n_Tableau_leaving.length b_Tableau_leaving
abbrev n_Tableau_solve : List Str := ["self", "column"]
noncomputable def b_Tableau_solve : MB := (bSeq (bAsg (mMeth "Tableau" "entering" 0 f_Tableau_entering (mVar 0) mNil) (gN 1))
    (bWhile (mTest (mBin oIsnt (mVar 1) (mC .non)))
    (bSeq (bDrop (mMeth "Tableau" "exchange" 2 f_Tableau_exchange (mVar 0) (mCons (mMeth "Tableau" "leaving" 1 f_Tableau_leaving (mVar 0) (mCons (mVar 1) mNil)) (mCons (mVar 1) mNil))))
    (bAsg (mMeth "Tableau" "entering" 0 f_Tableau_entering (mVar 0) mNil) (gN 1)))))
noncomputable def f_Tableau_solve : FnM := mkFn n_Tableau_solve.length b_Tableau_solve
abbrev n_answer : List Str := ["rows", "many", "plain", "table", "weights", "at", "word", "numbers"]
noncomputable def b_answer : MB := (bSeq (bAsg (mCall 1 f_plain_rows (mCons (mVar 0) mNil)) (gN 2))
    (bSeq (bAsg (mMake "Tableau" 2 f_Tableau_init (mCons (mVar 2) (mCons (mVar 1) mNil))) (gN 3))
    (bSeq (bDrop (mMeth "Tableau" "solve" 0 f_Tableau_solve (mVar 3) mNil))
    (bSeq (bIf (mTest (mBin oEq (mIx (mFld "Tableau" "goal" (mVar 3)) (mNeg (mC (.int 1)))) (mC (.int 0))))
    (bRet (mTup (mCons (mC (.str "numbers")) (mCons (mCall 1 f_least_terms (mCons (mMeth "Tableau" "numbers" 0 f_Tableau_numbers (mVar 3) mNil) mNil)) mNil))))
    bSkip)
    (bSeq (bPar2 4 5 (mCons (mLstC mNil) (mCons (mVar 1) mNil)))
    (bSeq (bFor (iAny (mVar 0)) (gTupM 2 (gConsM (gN 6) (gConsM (gN 7) gNilM)))
    (bSeq (bDrop (mBM "list" tAppend (mVar 4) (mCons (mIx (mFld "Tableau" "goal" (mVar 3)) (mVar 5)) mNil)))
    (bSeq (bIf (mTest (mBin oEq (mVar 6) (mC (.str "even"))))
    (bLPut (mVar 4) (mNeg (mC (.int 1))) (mBin oSub (mIx (mVar 4) (mNeg (mC (.int 1)))) (mIx (mFld "Tableau" "goal" (mVar 3)) (mBin oAdd (mVar 5) (mC (.int 1))))))
    bSkip)
    (bAsg (mBin oAdd (mVar 5) (mIf (mTest (mBin oEq (mVar 6) (mC (.str "even")))) (mC (.int 2)) (mC (.int 1)))) (gN 5)))))
    (bRet (mTup (mCons (mC (.str "weights")) (mCons (mCall 1 f_least_terms (mCons (mVar 4) mNil)) mNil))))))))))
noncomputable def f_answer : FnM := mkFnG n_answer.length b_answer
abbrev n_fullest : List Str := ["rows", "many", "word", "found", "at", "more", "k", "one", "other"]
noncomputable def b_fullest : MB := (bSeq (bAsg (mCall 2 f_answer (mCons (mVar 0) (mCons (mVar 1) mNil))) (gTupM 2 (gConsM (gN 2) (gConsM (gN 3) gNilM))))
    (bSeq (bIf (mTest (mBin oEq (mVar 2) (mC (.str "weights"))))
    (bRet (mC .non))
    bSkip)
    (bSeq (bFor (rng1 (mCons (mVar 1) mNil)) (gN 4)
    (bIf (mTest (mBin oEq (mIx (mVar 3) (mVar 4)) (mC (.int 0))))
    (bSeq (bAsg (mCall 2 f_answer (mCons (mLst (mStar (mVar 0) (mCons (mTup (mCons (mC (.str "strict")) (mCons (mB bTuple (mCons (mLc (rng1 (mCons (mVar 1) mNil)) [6] (gN 6) mYes (mB bInt (mCons (mBin oEq (mVar 6) (mVar 4)) mNil))) mNil)) mNil))) mNil))) (mCons (mVar 1) mNil))) (gTupM 2 (gConsM (gN 2) (gConsM (gN 5) gNilM))))
    (bIf (mTest (mBin oEq (mVar 2) (mC (.str "numbers"))))
    (bAsg (mB bTuple (mCons (mLc (iZp (mCons (mVar 3) (mCons (mVar 5) mNil))) [7, 8] (gTupM 2 (gConsM (gN 7) (gConsM (gN 8) gNilM))) mYes (mBin oAdd (mVar 7) (mVar 8))) mNil)) (gN 3))
    bSkip))
    bSkip))
    (bRet (mCall 1 f_least_terms (mCons (mVar 3) mNil))))))
noncomputable def f_fullest : FnM := mkFn n_fullest.length b_fullest
abbrev n_rows_of : List Str := ["claims", "shape", "claim", "parting"]
noncomputable def b_rows_of : MB := (bRet (mLc (iAny (mVar 0)) [2] (gN 2) mYes (mTup (mCons (mKd [(("most" : Str), ("weak" : Str)), (("less" : Str), ("strict" : Str)), (("same" : Str), ("even" : Str))] (mIx (mVar 2) (mC (.int 0)))) (mCons (mB bTuple (mCons (mLc (iAny (mVar 1)) [3] (gN 3) mYes (mCall 2 f_gap_of (mCons (mVar 2) (mCons (mVar 3) mNil)))) mNil)) mNil)))))
noncomputable def f_rows_of : FnM := mkFn n_rows_of.length b_rows_of
abbrev n_has_all : List Str := ["lot", "other", "item"]
noncomputable def b_has_all : MB := (bRet (mB bAll (mCons (mLc (iAny (mVar 1)) [2] (gN 2) mYes (mBin oIn (mVar 2) (mVar 0))) mNil)))
noncomputable def f_has_all : FnM := mkFn n_has_all.length b_has_all
abbrev n_fullest_lot : List Str := ["facts", "some", "numbers", "fact", "parting", "number"]
noncomputable def b_fullest_lot : MB := (bSeq (bIf (mTest (mBin oEq (mB bLen (mCons (mVar 1) mNil)) (mC (.int 0))))
    (bRet (mIf (mTest (mB bAny (mCons (mLc (iAny (mVar 0)) [3] (gN 3) mYes (mBin oEq (mIx (mVar 3) (mC (.int 0))) (mC (.str "less")))) mNil))) (mC .non) (mTup mNil)))
    bSkip)
    (bSeq (bAsg (mCall 2 f_fullest (mCons (mCall 2 f_rows_of (mCons (mVar 0) (mCons (mVar 1) mNil))) (mCons (mB bLen (mCons (mVar 1) mNil)) mNil))) (gN 2))
    (bSeq (bIf (mTest (mBin oIs (mVar 2) (mC .non)))
    (bRet (mC .non))
    bSkip)
    (bRet (mB bTuple (mCons (mLc (iZp (mCons (mVar 1) (mCons (mVar 2) mNil))) [4, 5] (gTupM 2 (gConsM (gN 4) (gConsM (gN 5) gNilM))) (mTest (mBin oGt (mVar 5) (mC (.int 0)))) (mVar 4)) mNil))))))
noncomputable def f_fullest_lot : FnM := mkFn n_fullest_lot.length b_fullest_lot
abbrev n_lots_for : List Str := ["names", "facts", "found", "shape", "lot", "other"]
noncomputable def b_lots_for : MB := (bSeq (bAsg (mLstC mNil) (gN 2))
    (bSeq (bFor (iAny (mCall 1 f_shapes_of (mCons (mVar 0) mNil))) (gN 3)
    (bSeq (bAsg (mCall 2 f_fullest_lot (mCons (mVar 1) (mCons (mVar 3) mNil))) (gN 4))
    (bIf (mAndT (mTest (mBin oIsnt (mVar 4) (mC .non))) (mTest (mBin oNin (mVar 4) (mVar 2))))
    (bDrop (mBM "list" tAppend (mVar 2) (mCons (mVar 4) mNil)))
    bSkip)))
    (bRet (mB bSorted (mCons (mLc (iAny (mVar 2)) [4] (gN 4) (mNotT (mTest (mB bAny (mCons (mLc (iAny (mVar 2)) [5] (gN 5) mYes (mAndV (mBin oNe (mVar 4) (mVar 5)) (mCall 2 f_has_all (mCons (mVar 5) (mCons (mVar 4) mNil))))) mNil)))) (mVar 4)) mNil)))))
noncomputable def f_lots_for : FnM := mkFnG n_lots_for.length b_lots_for
abbrev n_Book_facts : List Str := ["self"]
noncomputable def b_Book_facts : MB := (bRet (mFld "Book" "own_facts" (mVar 0)))
noncomputable def f_Book_facts : FnM := mkFn n_Book_facts.length b_Book_facts
abbrev n_Book_places : List Str := ["self"]
noncomputable def b_Book_places : MB := (bRet (mFld "Book" "own_places" (mVar 0)))
noncomputable def f_Book_places : FnM := mkFn n_Book_places.length b_Book_places
abbrev n_lots_left : List Str := ["book"]
noncomputable def b_lots_left : MB := (bSeq (bDrop (mCall 1 f_need_book (mCons (mVar 0) mNil)))
    (bRet (mCall 2 f_lots_for (mCons (mProp "Book" f_Book_places (mVar 0)) (mCons (mProp "Book" f_Book_facts (mVar 0)) mNil)))))
noncomputable def f_lots_left : FnM := mkFn n_lots_left.length b_lots_left
abbrev n_is_pair : List Str := ["names", "thing"]
noncomputable def b_is_pair : MB := (bRet (mAndV (mB (bIsi kt inst) (mCons (mVar 1) (mCons (mC (.ty "tuple")) mNil))) (mAndV (mBin oEq (mB bLen (mCons (mVar 1) mNil)) (mC (.int 2))) (mCall 2 f_is_claim_of (mCons (mVar 0) (mCons (mTup (mCons (mC (.str "most")) (mStar (mVar 1) mNil))) mNil))))))
noncomputable def f_is_pair : FnM := mkFn n_is_pair.length b_is_pair
abbrev n_need_pairs : List Str := ["names", "pairs", "at", "pair"]
noncomputable def b_need_pairs : MB := (bSeq (bIf (mNotT (mTest (mB (bIsi kt inst) (mCons (mVar 1) (mCons (mTup (mCons (mC (.ty "list")) (mCons (mC (.ty "tuple")) mNil))) mNil)))))
    bStuck
    bSkip)
    (bSeq (bFor (iEnmA (mCons (mVar 1) mNil)) (gTupM 2 (gConsM (gN 2) (gConsM (gN 3) gNilM)))
    (bIf (mNotT (mTest (mCall 2 f_is_pair (mCons (mVar 0) (mCons (mVar 3) mNil)))))
    bStuck
    bSkip))
    (bSeq (bIf (mTest (mBin oEq (mB bLen (mCons (mVar 1) mNil)) (mC (.int 0))))
    bStuck
    bSkip)
    (bIf (mTest (mBin oGt (mB bLen (mCons (mVar 1) mNil)) (mC (.int 4))))
    bStuck
    bSkip))))
noncomputable def f_need_pairs : FnM := mkFn n_need_pairs.length b_need_pairs
abbrev n_most_left : List Str := ["book", "pair", "left", "right", "answers", "answer"]
noncomputable def b_most_left : MB := (bSeq (bAsg (mVar 1) (gTupM 2 (gConsM (gN 2) (gConsM (gN 3) gNilM))))
    (bSeq (bAsg (mTup (mCons (mTup (mCons (mC (.str "less")) (mCons (mVar 2) (mCons (mVar 3) mNil)))) (mCons (mTup (mCons (mC (.str "same")) (mCons (mVar 2) (mCons (mVar 3) mNil)))) (mCons (mTup (mCons (mC (.str "less")) (mCons (mVar 3) (mCons (mVar 2) mNil)))) mNil)))) (gN 4))
    (bRet (mB bMax (mCons (mLc (iAny (mVar 4)) [5] (gN 5) mYes (mB bLen (mCons (mCall 2 f_lots_for (mCons (mProp "Book" f_Book_places (mVar 0)) (mCons (mTup (mStar (mProp "Book" f_Book_facts (mVar 0)) (mCons (mVar 5) mNil))) mNil))) mNil))) mNil)))))
noncomputable def f_most_left : FnM := mkFn n_most_left.length b_most_left
abbrev n_best_asked : List Str := ["book", "pairs", "numbers", "pair"]
noncomputable def b_best_asked : MB := (bSeq (bDrop (mCall 1 f_need_book (mCons (mVar 0) mNil)))
    (bSeq (bDrop (mCall 2 f_need_pairs (mCons (mProp "Book" f_Book_places (mVar 0)) (mCons (mVar 1) mNil))))
    (bSeq (bAsg (mLc (iAny (mVar 1)) [3] (gN 3) mYes (mCall 2 f_most_left (mCons (mVar 0) (mCons (mVar 3) mNil)))) (gN 2))
    (bRet (mBM "list" tIndex (mVar 2) (mCons (mB bMin (mCons (mVar 2) mNil)) mNil))))))
noncomputable def f_best_asked : FnM := mkFn n_best_asked.length b_best_asked
abbrev n__law_begin : List Str := ["_law_script", "_law_great", "_law_cell"]
noncomputable def b__law_begin : MB := (bSeq (bAsg (mLcC (iAny (mVar 0)) [2] (gN 2) (mTest (mBin oGe (mB bAbs (mCons (mVar 2) mNil)) (mBin oPow (mC (.int 10)) (mC (.int 18))))) (mBin oSub (mB bAbs (mCons (mVar 2) mNil)) (mBin oPow (mC (.int 10)) (mC (.int 18))))) (gN 1))
    (bRet (mDispC [((mC (.str "great")), (mVar 1)), ((mC (.str "rest")), (mC (.int 0))), ((mC (.str "cells")), (mLc (iAny (mVar 0)) [2] (gN 2) mYes (mB bAbs (mCons (mVar 2) mNil)))), ((mC (.str "turn")), (mC (.int 0)))])))
noncomputable def f__law_begin : FnM := mkFn n__law_begin.length b__law_begin
abbrev n__law_blend : List Str := ["_law_draw", "_law_turn", "_law_found", "_law_prime", "_law_blend_here", "_law_cell"]
noncomputable def b__law_blend : MB := (bSeq (bAsg (mBin oAdd (mDG (mVar 0) (mC (.str "turn"))) (mC (.int 1))) (gN 1))
    (bSeq (bDPut (mVar 0) (mC (.str "turn")) (mVar 1))
    (bSeq (bAsg (mC (.int 0)) (gN 2))
    (bSeq (bFor (iAny (mLst (mCons (mC (.int 2147483629)) (mCons (mC (.int 2147483587)) (mCons (mC (.int 2147483579)) (mCons (mC (.int 2147483563)) mNil)))))) (gN 3)
    (bSeq (bAsg (mBin oMod (mB bInt (mCons (mBin oAdd (mBin oMul (mVar 1) (mC (.int 69621))) (mBin oDiv (mVar 3) (mC (.int 7)))) mNil)) (mVar 3)) (gN 4))
    (bSeq (bFor (iAny (mDG (mVar 0) (mC (.str "cells")))) (gN 5)
    (bAsg (mBin oMod (mB bInt (mCons (mBin oAdd (mBin oMul (mVar 4) (mC (.int 48271))) (mVar 5)) mNil)) (mVar 3)) (gN 4)))
    (bAsg (mBin oAdd (mBin oMul (mVar 2) (mC (.int 2147483647))) (mBin oMod (mB bInt (mCons (mBin oPow (mVar 4) (mC (.int 5))) mNil)) (mVar 3))) (gN 2)))))
    (bRet (mVar 2))))))
noncomputable def f__law_blend : FnM := mkFn n__law_blend.length b__law_blend
abbrev n__law_take : List Str := ["_law_draw", "_law_many", "_law_found"]
noncomputable def b__law_take : MB := (bSeq (bIf (mAndT (mTest (mBin oEq (mDG (mVar 0) (mC (.str "rest"))) (mC (.int 0)))) (mTest (mBin oNe (mDG (mVar 0) (mC (.str "great"))) (mLst mNil))))
    (bDPut (mVar 0) (mC (.str "rest")) (mBM "list" tPop (mDG (mVar 0) (mC (.str "great"))) (mCons (mC (.int 0)) mNil)))
    bSkip)
    (bSeq (bIf (mTest (mBin oEq (mDG (mVar 0) (mC (.str "rest"))) (mC (.int 0))))
    (bDPut (mVar 0) (mC (.str "rest")) (mCall 1 f__law_blend (mCons (mVar 0) mNil)))
    bSkip)
    (bSeq (bAsg (mBin oMod (mB bInt (mCons (mDG (mVar 0) (mC (.str "rest"))) mNil)) (mVar 1)) (gN 2))
    (bSeq (bDPut (mVar 0) (mC (.str "rest")) (mBin oDiv (mDG (mVar 0) (mC (.str "rest"))) (mVar 1)))
    (bRet (mVar 2))))))
noncomputable def f__law_take : FnM := mkFn n__law_take.length b__law_take
abbrev n__law_pick : List Str := ["_law_draw", "_law_some"]
noncomputable def b__law_pick : MB := (bRet (mIx (mVar 1) (mCall 2 f__law_take (mCons (mVar 0) (mCons (mB bLen (mCons (mVar 1) mNil)) mNil)))))
noncomputable def f__law_pick : FnM := mkFn n__law_pick.length b__law_pick
abbrev n__law_words : List Str := ["_law_draw", "_law_count", "_law_letters", "_law_found", "_law_some", "_law_k", "_law_word", "_law_span", "_law_near", "_law_j", "_law_letter", "_law_uno"]
noncomputable def b__law_words : MB := (bSeq (bAsg (mTup (mCons (mC (.str "abcdefghijklmnopqrstuvwxyz")) (mCons (mLstC mNil) mNil))) (gTupM 2 (gConsM (gN 2) (gConsM (gN 3) gNilM))))
    (bSeq (bAsg (mLst (mCons (mC (.str "a")) (mCons (mC (.str "b")) (mCons (mC (.str "fork")) (mCons (mC (.str "forks")) (mCons (mC (.str "f")) (mCons (mC (.str "most")) (mCons (mC (.str "tell")) (mCons (mC (.str "none")) (mCons (mC (.str "places")) (mCons (mC (.str "zzzzzzzz")) mNil))))))))))) (gN 4))
    (bSeq (bFor (rng1 (mCons (mVar 1) mNil)) (gN 5)
    (bSeq (bAsg (mCall 2 f__law_pick (mCons (mVar 0) (mCons (mVar 4) mNil))) (gN 6))
    (bSeq (bIf (mTest (mBin oGt (mCall 2 f__law_take (mCons (mVar 0) (mCons (mC (.int 3)) mNil))) (mC (.int 0))))
    (bSeq (bAsg (mBin oAdd (mC (.int 1)) (mCall 2 f__law_take (mCons (mVar 0) (mCons (mCall 2 f__law_pick (mCons (mVar 0) (mCons (mLst (mCons (mC (.int 1)) (mCons (mC (.int 2)) (mCons (mC (.int 8)) mNil)))) mNil))) mNil)))) (gN 7))
    (bAsg (mBM "str" tJoin (mC (.str "")) (mCons (mLc (rng1 (mCons (mVar 7) mNil)) [9] (gN 9) mYes (mCall 2 f__law_pick (mCons (mVar 0) (mCons (mVar 2) mNil)))) mNil)) (gN 6)))
    bSkip)
    (bSeq (bAsg (mBin oAdd (mLst (mCons (mVar 6) mNil)) (mLc (iAny (mVar 2)) [10] (gN 10) mYes (mBin oAdd (mSl oSl (mVar 6) mNo (mSome (mC (.int 7)))) (mVar 10)))) (gN 8))
    (bDrop (mBM "list" tAppend (mVar 3) (mCons (mIx (mLc (iAny (mVar 8)) [11] (gN 11) (mTest (mBin oNin (mVar 11) (mVar 3))) (mVar 11)) (mC (.int 0))) mNil)))))))
    (bRet (mVar 3)))))
noncomputable def f__law_words : FnM := mkFnG n__law_words.length b__law_words
abbrev n__law_towns : List Str := ["_law_draw", "_law_most"]
noncomputable def b__law_towns : MB := (bRet (mCall 2 f__law_words (mCons (mVar 0) (mCons (mBin oAdd (mC (.int 2)) (mCall 2 f__law_take (mCons (mVar 0) (mCons (mBin oSub (mVar 1) (mC (.int 1))) mNil)))) mNil))))
noncomputable def f__law_towns : FnM := mkFn n__law_towns.length b__law_towns
abbrev n__law_point : List Str := ["_law_draw", "_law_names", "_law_deep", "_law_k"]
noncomputable def b__law_point (f__law_point_d : FnM) : MB := (bSeq (bIf (mOrT (mTest (mBin oEq (mVar 2) (mC (.int 0)))) (mTest (mBin oEq (mCall 2 f__law_take (mCons (mVar 0) (mCons (mC (.int 3)) mNil))) (mC (.int 0)))))
    (bRet (mCall 2 f__law_pick (mCons (mVar 0) (mCons (mVar 1) mNil))))
    bSkip)
    (bRet (mBin oAdd (mTup (mCons (mC (.str "fork")) mNil)) (mB bTuple (mCons (mLc (rng1 (mCons (mC (.int 3)) mNil)) [3] (gN 3) mYes (mCall 3 f__law_point_d (mCons (mVar 0) (mCons (mVar 1) (mCons (mBin oSub (mVar 2) (mC (.int 1))) mNil))))) mNil)))))
noncomputable def f__law_point : Nat → FnM
  | 0 => mkFn n__law_point.length bStuck
  | d + 1 => mkFn n__law_point.length (b__law_point (f__law_point d))
abbrev n__law_sum : List Str := ["_law_draw", "_law_names", "_law_most", "_law_deep", "_law_top", "_law_found", "_law_k", "_law_number"]
noncomputable def b__law_sum : MB := (bSeq (bAsg (mLstC mNil) (gN 5))
    (bSeq (bFor (rng1 (mCons (mCall 2 f__law_take (mCons (mVar 0) (mCons (mBin oAdd (mVar 2) (mC (.int 1))) mNil))) mNil)) (gN 6)
    (bSeq (bAsg (mCall 2 f__law_pick (mCons (mVar 0) (mCons (mLst (mCons (mC (.int 1)) (mCons (mBin oAdd (mC (.int 1)) (mCall 2 f__law_take (mCons (mVar 0) (mCons (mVar 4) mNil)))) mNil))) mNil))) (gN 7))
    (bDrop (mBM "list" tAppend (mVar 5) (mCons (mTup (mCons (mVar 7) (mCons (mCall 3 (f__law_point 8) (mCons (mVar 0) (mCons (mVar 1) (mCons (mVar 3) mNil)))) (mCons (mCall 3 (f__law_point 8) (mCons (mVar 0) (mCons (mVar 1) (mCons (mVar 3) mNil)))) mNil)))) mNil)))))
    (bRet (mB bTuple (mCons (mVar 5) mNil)))))
noncomputable def f__law_sum : FnM := mkFnG n__law_sum.length b__law_sum
abbrev n__law_claim : List Str := ["_law_draw", "_law_names", "_law_most", "_law_deep", "_law_top", "_law_word"]
noncomputable def b__law_claim : MB := (bSeq (bAsg (mCall 2 f__law_pick (mCons (mVar 0) (mCons (mLst (mCons (mC (.str "most")) (mCons (mC (.str "most")) (mCons (mC (.str "less")) (mCons (mC (.str "same")) mNil))))) mNil))) (gN 5))
    (bRet (mTup (mCons (mVar 5) (mCons (mCall 5 f__law_sum (mCons (mVar 0) (mCons (mVar 1) (mCons (mVar 2) (mCons (mVar 3) (mCons (mVar 4) mNil)))))) (mCons (mCall 5 f__law_sum (mCons (mVar 0) (mCons (mVar 1) (mCons (mVar 2) (mCons (mVar 3) (mCons (mVar 4) mNil)))))) mNil))))))
noncomputable def f__law_claim : FnM := mkFn n__law_claim.length b__law_claim
abbrev n__law_near_facts : List Str := ["_law_draw", "_law_names", "_law_found", "_law_k", "_law_uno", "_law_duo", "_law_three", "_law_short", "_law_far", "_law_told", "_law_some", "_law_j"]
noncomputable def b__law_near_facts : MB := (bSeq (bAsg (mLstC mNil) (gN 2))
    (bSeq (bFor (rng1 (mCons (mCall 2 f__law_take (mCons (mVar 0) (mCons (mC (.int 5)) mNil))) mNil)) (gN 3)
    (bSeq (bAsg (mLc (rng1 (mCons (mC (.int 3)) mNil)) [11] (gN 11) mYes (mCall 2 f__law_pick (mCons (mVar 0) (mCons (mVar 1) mNil)))) (gLstM 3 (gConsM (gN 4) (gConsM (gN 5) (gConsM (gN 6) gNilM)))))
    (bSeq (bPar2 7 8 (mCons (mTup (mCons (mTup (mCons (mC (.int 1)) (mCons (mVar 4) (mCons (mVar 5) mNil)))) mNil)) (mCons (mTup (mCons (mTup (mCons (mC (.int 1)) (mCons (mVar 5) (mCons (mVar 6) mNil)))) mNil)) mNil)))
    (bSeq (bAsg (mCall 5 f__law_claim (mCons (mVar 0) (mCons (mVar 1) (mCons (mC (.int 2)) (mCons (mC (.int 1)) (mCons (mC (.int 2)) mNil)))))) (gN 9))
    (bSeq (bAsg (mLst (mCons (mTup (mCons (mC (.str "most")) (mCons (mVar 7) (mCons (mVar 8) mNil)))) (mCons (mTup (mCons (mC (.str "less")) (mCons (mVar 7) (mCons (mVar 8) mNil)))) (mCons (mTup (mCons (mC (.str "same")) (mCons (mVar 7) (mCons (mVar 8) mNil)))) (mCons (mTup (mCons (mC (.str "same")) (mCons (mVar 7) (mCons (mTup mNil) mNil)))) (mCons (mVar 9) mNil)))))) (gN 10))
    (bDrop (mBM "list" tAppend (mVar 2) (mCons (mCall 2 f__law_pick (mCons (mVar 0) (mCons (mVar 10) mNil))) mNil))))))))
    (bRet (mVar 2))))
noncomputable def f__law_near_facts : FnM := mkFnG n__law_near_facts.length b__law_near_facts
abbrev n_Book_init : List Str := ["self", "places", "facts", "names"]
noncomputable def b_Book_init : MB := (bSeq (bAsg (mCall 1 f_need_places (mCons (mVar 1) mNil)) (gN 3))
    (bSeq (bDrop (mCall 3 f_need_claims (mCons (mVar 3) (mCons (mVar 2) (mCons (mC (.int 6)) mNil)))))
    (bSeq (bFld "Book" "own_places" (mVar 0) (mVar 3))
    (bFld "Book" "own_facts" (mVar 0) (mB bTuple (mCons (mVar 2) mNil))))))
noncomputable def f_Book_init : FnM := mkFn n_Book_init.length b_Book_init
abbrev n__law_most_left : List Str := ["_law_names", "_law_facts", "_law_sums", "_law_found", "_law_told"]
noncomputable def b__law_most_left : MB := (bSeq (bAsg (mLstC mNil) (gN 3))
    (bSeq (bFor (iAny (mLst (mCons (mTup (mCons (mC (.str "less")) (mCons (mIx (mVar 2) (mC (.int 0))) (mCons (mIx (mVar 2) (mC (.int 1))) mNil)))) (mCons (mTup (mCons (mC (.str "same")) (mCons (mIx (mVar 2) (mC (.int 0))) (mCons (mIx (mVar 2) (mC (.int 1))) mNil)))) (mCons (mTup (mCons (mC (.str "less")) (mCons (mIx (mVar 2) (mC (.int 1))) (mCons (mIx (mVar 2) (mC (.int 0))) mNil)))) mNil))))) (gN 4)
    (bDrop (mBM "list" tAppend (mVar 3) (mCons (mB bLen (mCons (mCall 1 f_lots_left (mCons (mMakeF "Book" 2 f_Book_init (mCons (mVar 0) (mCons (mBin oAdd (mVar 1) (mLst (mCons (mVar 4) mNil))) mNil))) mNil)) mNil)) mNil))))
    (bRet (mB bMax (mCons (mVar 3) mNil)))))
noncomputable def f__law_most_left : FnM := mkFnG n__law_most_left.length b__law_most_left
abbrev n_law : List Str := ["_law_script", "_law_draw", "_law_turn", "_law_names", "_law_facts", "_law_asked", "_law_told", "_law_k", "_law_fresh", "_law_counts", "_law_due", "_law_made", "_law_full", "_law_sums"]
noncomputable def b_law : MB := (bSeq (bAsg (mCall 1 f__law_begin (mCons (mVar 0) mNil)) (gN 1))
    (bSeq (bFor (rng1 (mCons (mBin oAdd (mC (.int 1)) (mB bMin (mCons (mB bLen (mCons (mVar 0) mNil)) (mCons (mC (.int 2)) mNil)))) mNil)) (gN 2)
    (bSeq (bAsg (mTup (mCons (mCall 2 f__law_towns (mCons (mVar 1) (mCons (mCall 2 f__law_pick (mCons (mVar 1) (mCons (mLst (mCons (mC (.int 4)) (mCons (mC (.int 4)) (mCons (mC (.int 4)) (mCons (mC (.int 5)) mNil))))) mNil))) mNil))) (mCons (mLstC mNil) (mCons (mLstC mNil) mNil)))) (gTupM 3 (gConsM (gN 3) (gConsM (gN 4) (gConsM (gN 5) gNilM)))))
    (bSeq (bFor (iAny (mCall 2 f__law_near_facts (mCons (mVar 1) (mCons (mVar 3) mNil)))) (gN 6)
    (bDrop (mBM "list" tAppend (mVar 4) (mCons (mVar 6) mNil))))
    (bSeq (bFor (rng1 (mCons (mBin oAdd (mC (.int 1)) (mCall 2 f__law_take (mCons (mVar 1) (mCons (mC (.int 4)) mNil)))) mNil)) (gN 7)
    (bSeq (bAsg (mTup (mCons (mCall 5 f__law_sum (mCons (mVar 1) (mCons (mVar 3) (mCons (mC (.int 2)) (mCons (mC (.int 1)) (mCons (mC (.int 2)) mNil)))))) (mCons (mCall 5 f__law_sum (mCons (mVar 1) (mCons (mVar 3) (mCons (mC (.int 2)) (mCons (mC (.int 1)) (mCons (mC (.int 2)) mNil)))))) mNil))) (gN 8))
    (bDrop (mBM "list" tAppend (mVar 5) (mCons (mCall 2 f__law_pick (mCons (mVar 1) (mCons (mBin oAdd (mLst (mCons (mVar 8) (mCons (mVar 8) (mCons (mVar 8) mNil)))) (mVar 5)) mNil))) mNil)))))
    (bSeq (bAsg (mLc (iAny (mVar 5)) [13] (gN 13) mYes (mCall 3 f__law_most_left (mCons (mVar 3) (mCons (mVar 4) (mCons (mVar 13) mNil))))) (gN 9))
    (bSeq (bAsg (mBM "list" tIndex (mVar 9) (mCons (mB bMin (mCons (mVar 9) mNil)) mNil)) (gN 10))
    (bSeq (bAsg (mMakeF "Book" 2 f_Book_init (mCons (mVar 3) (mCons (mVar 4) mNil))) (gN 11))
    (bSeq (bIf (mOrT (mTest (mBin oNe (mCall 2 f_best_asked (mCons (mVar 11) (mCons (mVar 5) mNil))) (mVar 10))) (mTest (mBin oNe (mCallK 2 [1, 0] f_best_asked (mCons (mB bTuple (mCons (mVar 5) mNil)) (mCons (mVar 11) mNil))) (mVar 10))))
    (bRet (mC (.bl false)))
    bSkip)
    (bSeq (bAsg (mSl oSl (mBin oMul (mVar 4) (mC (.int 6))) mNo (mSome (mC (.int 6)))) (gN 12))
    (bIf (mAndT (mTest (mBin oNe (mVar 4) (mLst mNil))) (mTest (mBin oNe (mCall 2 f_best_asked (mCons (mMakeF "Book" 2 f_Book_init (mCons (mVar 3) (mCons (mVar 12) mNil))) (mCons (mVar 5) mNil))) (mVar 10))))
    (bRet (mC (.bl false)))
    bSkip))))))))))
    (bRet (mC (.bl true)))))
noncomputable def f_law : FnM := mkFnG n_law.length b_law
end Wk
set_option linter.all false
set_option maxRecDepth 100000
set_option maxHeartbeats 4000000
namespace Wk
open PySem PySem.Spec PyProof.Rows L2 MM
abbrev top (i : Nat) : Stmt := PySem.Challenge.pw_forkways_k67_what_is_best_asked.main.body.getD i (.Pass ⟨0, 0, 0, 0⟩)
structure Fx (P : Program) (w : World) (K : PySem.W.Frag) (mg : Str → Option Value) (base : Heap) (G : Gam) : Prop where
  ok : G.Ok
  hK : G.K = K
  isk : IsK G kt inst
  a_Book_own_facts : FldI K G "Book" "own_facts"
  a_Book_own_places : FldI K G "Book" "own_places"
  a_Tableau_base : FldI K G "Tableau" "base"
  a_Tableau_divisor : FldI K G "Tableau" "divisor"
  a_Tableau_goal : FldI K G "Tableau" "goal"
  a_Tableau_lines : FldI K G "Tableau" "lines"
  a_Tableau_many : FldI K G "Tableau" "many"
  a_Tableau_width : FldI K G "Tableau" "width"
  d__law_begin : ∃ f fd, mg ("_law_begin" : Str) = some (.ref f) ∧ FunD K "_law_begin" "_law_begin" (defArgs (top 64)) (defBody (top 64)) (defScope (top 64)) [] [] f fd
  d__law_blend : ∃ f fd, mg ("_law_blend" : Str) = some (.ref f) ∧ FunD K "_law_blend" "_law_blend" (defArgs (top 65)) (defBody (top 65)) (defScope (top 65)) [] [] f fd
  d__law_claim : ∃ f fd, mg ("_law_claim" : Str) = some (.ref f) ∧ FunD K "_law_claim" "_law_claim" (defArgs (top 72)) (defBody (top 72)) (defScope (top 72)) [] [] f fd
  d__law_most_left : ∃ f fd, mg ("_law_most_left" : Str) = some (.ref f) ∧ FunD K "_law_most_left" "_law_most_left" (defArgs (top 74)) (defBody (top 74)) (defScope (top 74)) [] [] f fd
  d__law_near_facts : ∃ f fd, mg ("_law_near_facts" : Str) = some (.ref f) ∧ FunD K "_law_near_facts" "_law_near_facts" (defArgs (top 73)) (defBody (top 73)) (defScope (top 73)) [] [] f fd
  d__law_pick : ∃ f fd, mg ("_law_pick" : Str) = some (.ref f) ∧ FunD K "_law_pick" "_law_pick" (defArgs (top 67)) (defBody (top 67)) (defScope (top 67)) [] [] f fd
  d__law_point : ∃ f fd, mg ("_law_point" : Str) = some (.ref f) ∧ FunD K "_law_point" "_law_point" (defArgs (top 70)) (defBody (top 70)) (defScope (top 70)) [] [] f fd
  d__law_sum : ∃ f fd, mg ("_law_sum" : Str) = some (.ref f) ∧ FunD K "_law_sum" "_law_sum" (defArgs (top 71)) (defBody (top 71)) (defScope (top 71)) [] [] f fd
  d__law_take : ∃ f fd, mg ("_law_take" : Str) = some (.ref f) ∧ FunD K "_law_take" "_law_take" (defArgs (top 66)) (defBody (top 66)) (defScope (top 66)) [] [] f fd
  d__law_towns : ∃ f fd, mg ("_law_towns" : Str) = some (.ref f) ∧ FunD K "_law_towns" "_law_towns" (defArgs (top 69)) (defBody (top 69)) (defScope (top 69)) [] [] f fd
  d__law_words : ∃ f fd, mg ("_law_words" : Str) = some (.ref f) ∧ FunD K "_law_words" "_law_words" (defArgs (top 68)) (defBody (top 68)) (defScope (top 68)) [] [] f fd
  d_answer : ∃ f fd, mg ("answer" : Str) = some (.ref f) ∧ FunD K "answer" "answer" (defArgs (top 47)) (defBody (top 47)) (defScope (top 47)) [] [] f fd
  d_best_asked : ∃ f fd, mg ("best_asked" : Str) = some (.ref f) ∧ FunD K "best_asked" "best_asked" (defArgs (top 62)) (defBody (top 62)) (defScope (top 62)) [] [] f fd
  d_common_part : ∃ f fd, mg ("common_part" : Str) = some (.ref f) ∧ FunD K "common_part" "common_part" (defArgs (top 43)) (defBody (top 43)) (defScope (top 43)) [] [] f fd
  d_fullest : ∃ f fd, mg ("fullest" : Str) = some (.ref f) ∧ FunD K "fullest" "fullest" (defArgs (top 48)) (defBody (top 48)) (defScope (top 48)) [] [] f fd
  d_fullest_lot : ∃ f fd, mg ("fullest_lot" : Str) = some (.ref f) ∧ FunD K "fullest_lot" "fullest_lot" (defArgs (top 54)) (defBody (top 54)) (defScope (top 54)) [] [] f fd
  d_gap_of : ∃ f fd, mg ("gap_of" : Str) = some (.ref f) ∧ FunD K "gap_of" "gap_of" (defArgs (top 34)) (defBody (top 34)) (defScope (top 34)) [] [] f fd
  d_has_all : ∃ f fd, mg ("has_all" : Str) = some (.ref f) ∧ FunD K "has_all" "has_all" (defArgs (top 53)) (defBody (top 53)) (defScope (top 53)) [] [] f fd
  d_is_claim_of : ∃ f fd, mg ("is_claim_of" : Str) = some (.ref f) ∧ FunD K "is_claim_of" "is_claim_of" (defArgs (top 32)) (defBody (top 32)) (defScope (top 32)) [] [] f fd
  d_is_list : ∃ f fd, mg ("is_list" : Str) = some (.ref f) ∧ FunD K "is_list" "is_list" (defArgs (top 16)) (defBody (top 16)) (defScope (top 16)) [] [] f fd
  d_is_name : ∃ f fd, mg ("is_name" : Str) = some (.ref f) ∧ FunD K "is_name" "is_name" (defArgs (top 17)) (defBody (top 17)) (defScope (top 17)) [] [] f fd
  d_is_number : ∃ f fd, mg ("is_number" : Str) = some (.ref f) ∧ FunD K "is_number" "is_number" (defArgs (top 15)) (defBody (top 15)) (defScope (top 15)) [] [] f fd
  d_is_pair : ∃ f fd, mg ("is_pair" : Str) = some (.ref f) ∧ FunD K "is_pair" "is_pair" (defArgs (top 59)) (defBody (top 59)) (defScope (top 59)) [] [] f fd
  d_is_places : ∃ f fd, mg ("is_places" : Str) = some (.ref f) ∧ FunD K "is_places" "is_places" (defArgs (top 18)) (defBody (top 18)) (defScope (top 18)) [] [] f fd
  d_is_point_of : ∃ f fd, mg ("is_point_of" : Str) = some (.ref f) ∧ FunD K "is_point_of" "is_point_of" (defArgs (top 21)) (defBody (top 21)) (defScope (top 21)) [] [] f fd
  d_is_side : ∃ f fd, mg ("is_side" : Str) = some (.ref f) ∧ FunD K "is_side" "is_side" (defArgs (top 23)) (defBody (top 23)) (defScope (top 23)) [] [] f fd
  d_is_sum : ∃ f fd, mg ("is_sum" : Str) = some (.ref f) ∧ FunD K "is_sum" "is_sum" (defArgs (top 31)) (defBody (top 31)) (defScope (top 31)) [] [] f fd
  d_is_term : ∃ f fd, mg ("is_term" : Str) = some (.ref f) ∧ FunD K "is_term" "is_term" (defArgs (top 30)) (defBody (top 30)) (defScope (top 30)) [] [] f fd
  d_law : ∃ f fd, mg ("law" : Str) = some (.ref f) ∧ FunD K "law" "law" (defArgs (top 75)) (defBody (top 75)) (defScope (top 75)) [] [] f fd
  d_least_terms : ∃ f fd, mg ("least_terms" : Str) = some (.ref f) ∧ FunD K "least_terms" "least_terms" (defArgs (top 44)) (defBody (top 44)) (defScope (top 44)) [] [] f fd
  d_lots_for : ∃ f fd, mg ("lots_for" : Str) = some (.ref f) ∧ FunD K "lots_for" "lots_for" (defArgs (top 55)) (defBody (top 55)) (defScope (top 55)) [] [] f fd
  d_lots_left : ∃ f fd, mg ("lots_left" : Str) = some (.ref f) ∧ FunD K "lots_left" "lots_left" (defArgs (top 56)) (defBody (top 56)) (defScope (top 56)) [] [] f fd
  d_most_left : ∃ f fd, mg ("most_left" : Str) = some (.ref f) ∧ FunD K "most_left" "most_left" (defArgs (top 61)) (defBody (top 61)) (defScope (top 61)) [] [] f fd
  d_need_book : ∃ f fd, mg ("need_book" : Str) = some (.ref f) ∧ FunD K "need_book" "need_book" (defArgs (top 41)) (defBody (top 41)) (defScope (top 41)) [] [] f fd
  d_need_claims : ∃ f fd, mg ("need_claims" : Str) = some (.ref f) ∧ FunD K "need_claims" "need_claims" (defArgs (top 39)) (defBody (top 39)) (defScope (top 39)) [] [] f fd
  d_need_pairs : ∃ f fd, mg ("need_pairs" : Str) = some (.ref f) ∧ FunD K "need_pairs" "need_pairs" (defArgs (top 60)) (defBody (top 60)) (defScope (top 60)) [] [] f fd
  d_need_places : ∃ f fd, mg ("need_places" : Str) = some (.ref f) ∧ FunD K "need_places" "need_places" (defArgs (top 20)) (defBody (top 20)) (defScope (top 20)) [] [] f fd
  d_ordered : ∃ f fd, mg ("ordered" : Str) = some (.ref f) ∧ FunD K "ordered" "ordered" (defArgs (top 19)) (defBody (top 19)) (defScope (top 19)) [] [] f fd
  d_parts : ∃ f fd, mg ("parts" : Str) = some (.ref f) ∧ FunD K "parts" "parts" (defArgs (top 24)) (defBody (top 24)) (defScope (top 24)) [] [] f fd
  d_plain_rows : ∃ f fd, mg ("plain_rows" : Str) = some (.ref f) ∧ FunD K "plain_rows" "plain_rows" (defArgs (top 45)) (defBody (top 45)) (defScope (top 45)) [] [] f fd
  d_rows_of : ∃ f fd, mg ("rows_of" : Str) = some (.ref f) ∧ FunD K "rows_of" "rows_of" (defArgs (top 51)) (defBody (top 51)) (defScope (top 51)) [] [] f fd
  d_shapes_of : ∃ f fd, mg ("shapes_of" : Str) = some (.ref f) ∧ FunD K "shapes_of" "shapes_of" (defArgs (top 26)) (defBody (top 26)) (defScope (top 26)) [] [] f fd
  d_sum_at : ∃ f fd, mg ("sum_at" : Str) = some (.ref f) ∧ FunD K "sum_at" "sum_at" (defArgs (top 33)) (defBody (top 33)) (defScope (top 33)) [] [] f fd
  d_with_place : ∃ f fd, mg ("with_place" : Str) = some (.ref f) ∧ FunD K "with_place" "with_place" (defArgs (top 25)) (defBody (top 25)) (defScope (top 25)) [] [] f fd
  g_FORK : GlobD mg G "FORK" (.str "fork")
  g_LEAST_PLACES : GlobD mg G "LEAST_PLACES" (.int 2)
  g_LETTERS : GlobD mg G "LETTERS" (.str "abcdefghijklmnopqrstuvwxyz")
  g_MOST_FACTS : GlobD mg G "MOST_FACTS" (.int 6)
  g_MOST_LETTERS : GlobD mg G "MOST_LETTERS" (.int 8)
  g_MOST_PAIRS : GlobD mg G "MOST_PAIRS" (.int 4)
  g_MOST_PLACES : GlobD mg G "MOST_PLACES" (.int 6)
  g_MOST_TERMS : GlobD mg G "MOST_TERMS" (.int 4)
  g_WORDS : GlobD mg G "WORDS" (.tup [(.str "most"), (.str "less"), (.str "same")])
  i_Book : ∃ c f fd, G.cls "Book" = some c ∧ mg "Book" = some (.ref c) ∧ Mk K c f ∧ FunD K "__init__" "Book.__init__" (defArgs (inClass (top 40) 0)) (defBody (inClass (top 40) 0)) (defScope (inClass (top 40) 0)) [] [] f fd
  i_Tableau : ∃ c f fd, G.cls "Tableau" = some c ∧ mg "Tableau" = some (.ref c) ∧ Mk K c f ∧ FunD K "__init__" "Tableau.__init__" (defArgs (inClass (top 46) 0)) (defBody (inClass (top 46) 0)) (defScope (inClass (top 46) 0)) [] [] f fd
  k_Book : GlobD mg G "Book" (.cls "Book")
  m_Tableau_entering : ∃ c f fd, G.cls "Tableau" = some c ∧ Cls K c ∧ Meth K c "entering" f ∧ FunD K "entering" "Tableau.entering" (defArgs (inClass (top 46) 1)) (defBody (inClass (top 46) 1)) (defScope (inClass (top 46) 1)) [] [] f fd
  m_Tableau_exchange : ∃ c f fd, G.cls "Tableau" = some c ∧ Cls K c ∧ Meth K c "exchange" f ∧ FunD K "exchange" "Tableau.exchange" (defArgs (inClass (top 46) 3)) (defBody (inClass (top 46) 3)) (defScope (inClass (top 46) 3)) [] [] f fd
  m_Tableau_leaving : ∃ c f fd, G.cls "Tableau" = some c ∧ Cls K c ∧ Meth K c "leaving" f ∧ FunD K "leaving" "Tableau.leaving" (defArgs (inClass (top 46) 2)) (defBody (inClass (top 46) 2)) (defScope (inClass (top 46) 2)) [] [] f fd
  m_Tableau_led : ∃ c f fd, G.cls "Tableau" = some c ∧ Cls K c ∧ Meth K c "led" f ∧ FunD K "led" "Tableau.led" (defArgs (inClass (top 46) 4)) (defBody (inClass (top 46) 4)) (defScope (inClass (top 46) 4)) [] [] f fd
  m_Tableau_numbers : ∃ c f fd, G.cls "Tableau" = some c ∧ Cls K c ∧ Meth K c "numbers" f ∧ FunD K "numbers" "Tableau.numbers" (defArgs (inClass (top 46) 6)) (defBody (inClass (top 46) 6)) (defScope (inClass (top 46) 6)) [] [] f fd
  m_Tableau_solve : ∃ c f fd, G.cls "Tableau" = some c ∧ Cls K c ∧ Meth K c "solve" f ∧ FunD K "solve" "Tableau.solve" (defArgs (inClass (top 46) 5)) (defBody (inClass (top 46) 5)) (defScope (inClass (top 46) 5)) [] [] f fd
  n_abs : mg ("abs" : Str) = none
  n_all : mg ("all" : Str) = none
  n_any : mg ("any" : Str) = none
  n_bool : mg ("bool" : Str) = none
  n_enumerate : mg ("enumerate" : Str) = none
  n_int : mg ("int" : Str) = none
  n_isinstance : mg ("isinstance" : Str) = none
  n_len : mg ("len" : Str) = none
  n_list : mg ("list" : Str) = none
  n_max : mg ("max" : Str) = none
  n_min : mg ("min" : Str) = none
  n_range : mg ("range" : Str) = none
  n_set : mg ("set" : Str) = none
  n_sorted : mg ("sorted" : Str) = none
  n_str : mg ("str" : Str) = none
  n_sum : mg ("sum" : Str) = none
  n_tuple : mg ("tuple" : Str) = none
  n_zip : mg ("zip" : Str) = none
  r_Book_facts : ∃ c p f fd, G.cls "Book" = some c ∧ Cls K c ∧ PropOf K c "facts" p f ∧ FunD K "facts" "Book.facts" (defArgs (inClass (top 40) 2)) (defBody (inClass (top 40) 2)) (defScope (inClass (top 40) 2)) [] [] f fd
  r_Book_places : ∃ c p f fd, G.cls "Book" = some c ∧ Cls K c ∧ PropOf K c "places" p f ∧ FunD K "places" "Book.places" (defArgs (inClass (top 40) 1)) (defBody (inClass (top 40) 1)) (defScope (inClass (top 40) 1)) [] [] f fd
  t_KINDS : KTab K w mg "KINDS" [(("most" : Str), ("weak" : Str)), (("less" : Str), ("strict" : Str)), (("same" : Str), ("even" : Str))]
section
variable {P : Program} {w : World} {K : PySem.W.Frag} {mg : Str → Option Value} {base : Heap} {G : Gam}
/-! ### is_number -/
abbrev p_is_number : List Str := ["thing"]
theorem sc_is_number : FnScope n_is_number p_is_number (defScope (top 15)) := ⟨rfl, rfl, rfl, by decide +kernel, rfl, by decide +kernel, by decide +kernel⟩
theorem ok_is_number (F : Fx P w K mg base G) : FnI P w K mg base G 1 "is_number" 1 f_is_number := by
  obtain ⟨f, fd, hm, D⟩ := F.d_is_number
  exact ⟨f, fd, p_is_number, hm, D.kp, D.bindsN (fun _ _ _ _ _ _ us hl => match us, hl with | [_], _ => rfl), rfl, fn_ok D sc_is_number (fun cdv A outer s H E hr => (b_one (b_ret (e_and F.ok (e_callB (call_isiA) (bIsiK F.ok F.hK F.isk) rfl F.n_isinstance (by decide +kernel) (a_cons (e_var (pe_var (i := 0) rfl (.inl rfl))) (a_cons (e_ty rfl F.n_int (by decide +kernel)) a_nil))) (e_one (e_not F.ok (e_callB (call_isiA) (bIsiK F.ok F.hK F.isk) rfl F.n_isinstance (by decide +kernel) (a_cons (e_var (pe_var (i := 0) rfl (.inl rfl))) (a_cons (e_ty rfl F.n_bool (by decide +kernel)) a_nil)))))))))⟩
/-! ### is_list -/
abbrev p_is_list : List Str := ["thing"]
theorem sc_is_list : FnScope n_is_list p_is_list (defScope (top 16)) := ⟨rfl, rfl, rfl, by decide +kernel, rfl, by decide +kernel, by decide +kernel⟩
theorem ok_is_list (F : Fx P w K mg base G) : FnI P w K mg base G 1 "is_list" 1 f_is_list := by
  obtain ⟨f, fd, hm, D⟩ := F.d_is_list
  exact ⟨f, fd, p_is_list, hm, D.kp, D.bindsN (fun _ _ _ _ _ _ us hl => match us, hl with | [_], _ => rfl), rfl, fn_ok D sc_is_list (fun cdv A outer s H E hr => (b_one (b_ret (e_callB (call_isiA) (bIsiK F.ok F.hK F.isk) rfl F.n_isinstance (by decide +kernel) (a_cons (e_var (pe_var (i := 0) rfl (.inl rfl))) (a_cons (e_tup (a_cons (e_ty rfl F.n_list (by decide +kernel)) (a_cons (e_ty rfl F.n_tuple (by decide +kernel)) a_nil))) a_nil))))))⟩
/-! ### is_name -/
abbrev p_is_name : List Str := ["thing"]
theorem sc_is_name : FnScope n_is_name p_is_name (defScope (top 17)) := ⟨rfl, rfl, rfl, by decide +kernel, rfl, by decide +kernel, by decide +kernel⟩
theorem ok_is_name (F : Fx P w K mg base G) : FnI P w K mg base G 1 "is_name" 1 f_is_name := by
  obtain ⟨f, fd, hm, D⟩ := F.d_is_name
  exact ⟨f, fd, p_is_name, hm, D.kp, D.bindsN (fun _ _ _ _ _ _ us hl => match us, hl with | [_], _ => rfl), rfl, fn_ok D sc_is_name (fun cdv A outer s H E hr => (b_cons (b_if (PW.pt (t_or (t_not (t_val F.ok (e_callB (call_isiA) (bIsiK F.ok F.hK F.isk) rfl F.n_isinstance (by decide +kernel) (a_cons (e_var (pe_var (i := 0) rfl (.inl rfl))) (a_cons (e_ty rfl F.n_str (by decide +kernel)) a_nil))))) (t_or1 (t_not (t_chain F.ok (op_leA) (op_leA) (oLeK F.ok F.hK) (oLeK F.ok F.hK) (pt_chain (op_leA) (op_leA) e_int (e_callB (call_lenA) (bLenK F.ok F.hK) rfl F.n_len (by decide +kernel) (a_cons (e_var (pe_var (i := 0) rfl (.inl rfl))) a_nil)) (e_glob F.g_MOST_LETTERS rfl)))))))
    (b_one (b_ret e_bl))
    b_nil)
    (b_one (b_ret (e_callB (cr_all rfl) (bAllK F.ok F.hK) rfl F.n_all (by decide +kernel) (a_cons (e_lc (own := [(("sign" : Str), 1)]) rfl sc_is_name.nd (pi_any (e_var (pe_var (i := 0) rfl (.inl rfl)))) (iAnyK F.ok F.hK) (blkOk_by (N := n_is_name) (sc := defScope (top 17)) (own := [(("sign" : Str), 1)]) (by decide +kernel)) (gN_noX _) (fun _ _ _ _ _ => (g_name (pg_name (i := 1) sc_is_name.nd rfl (Or.inl rfl)))) (fun _ _ _ _ _ => ts_nil) (fun _ _ _ _ _ => (e_cmp (op_inA (hu65 hr)) (oInK F.ok F.hK) (e_var (pe_var (i := 1) rfl (.inl rfl))) (e_glob F.g_LETTERS rfl) rfl))) a_nil))))))⟩
/-! ### is_places -/
abbrev p_is_places : List Str := ["thing"]
theorem sc_is_places : FnScope n_is_places p_is_places (defScope (top 18)) := ⟨rfl, rfl, rfl, by decide +kernel, rfl, by decide +kernel, by decide +kernel⟩
theorem ok_is_places (F : Fx P w K mg base G) : FnI P w K mg base G 2 "is_places" 1 f_is_places := by
  obtain ⟨f, fd, hm, D⟩ := F.d_is_places
  exact ⟨f, fd, p_is_places, hm, D.kp, D.bindsN (fun _ _ _ _ _ _ us hl => match us, hl with | [_], _ => rfl), rfl, fn_ok D sc_is_places (fun cdv A outer s H E hr => (b_cons (b_if (PW.pt (t_or (t_not (t_val F.ok (e_call (ok_is_list F) (hr.mono (by decide)) (takes_of rfl rfl rfl rfl) rfl (a_cons (e_var (pe_var (i := 0) rfl (.inl rfl))) a_nil)))) (t_or1 (t_not (t_chain F.ok (op_leA) (op_leA) (oLeK F.ok F.hK) (oLeK F.ok F.hK) (pt_chain (op_leA) (op_leA) (e_glob F.g_LEAST_PLACES rfl) (e_callB (call_lenA) (bLenK F.ok F.hK) rfl F.n_len (by decide +kernel) (a_cons (e_var (pe_var (i := 0) rfl (.inl rfl))) a_nil)) (e_glob F.g_MOST_PLACES rfl)))))))
    (b_one (b_ret e_bl))
    b_nil)
    (b_one (b_ret (e_and F.ok (e_callB (cr_all rfl) (bAllK F.ok F.hK) rfl F.n_all (by decide +kernel) (a_cons (e_lc (own := [(("name" : Str), 1)]) rfl sc_is_places.nd (pi_any (e_var (pe_var (i := 0) rfl (.inl rfl)))) (iAnyK F.ok F.hK) (blkOk_by (N := n_is_places) (sc := defScope (top 18)) (own := [(("name" : Str), 1)]) (by decide +kernel)) (gN_noX _) (fun _ _ _ _ _ => (g_name (pg_name (i := 1) sc_is_places.nd rfl (Or.inl rfl)))) (fun _ _ _ _ _ => ts_nil) (fun _ _ _ _ _ => (e_call (ok_is_name F) (hr.mono (by decide)) takes0 rfl (a_cons (e_var (pe_var (i := 1) rfl (.inl rfl))) a_nil)))) a_nil)) (e_one (e_cmp (op_eqD (hu64 hr)) (oEqK F.ok F.hK) (e_lenSet F.ok F.hK rfl rfl F.n_len rfl F.n_set (e_var (pe_var (i := 0) rfl (.inl rfl)))) (e_callB (call_lenA) (bLenK F.ok F.hK) rfl F.n_len (by decide +kernel) (a_cons (e_var (pe_var (i := 0) rfl (.inl rfl))) a_nil)) (nomark _))))))))⟩
/-! ### ordered -/
abbrev p_ordered : List Str := ["places"]
theorem sc_ordered : FnScope n_ordered p_ordered (defScope (top 19)) := ⟨rfl, rfl, rfl, by decide +kernel, rfl, by decide +kernel, by decide +kernel⟩
theorem ok_ordered (F : Fx P w K mg base G) : FnI P w K mg base G 1 "ordered" 1 f_ordered := by
  obtain ⟨f, fd, hm, D⟩ := F.d_ordered
  exact ⟨f, fd, p_ordered, hm, D.kp, D.bindsN (fun _ _ _ _ _ _ us hl => match us, hl with | [_], _ => rfl), rfl, fn_ok D sc_ordered (fun cdv A outer s H E hr => (b_one (b_ret (e_callTy (call_tuple_of) (bTupleK F.ok F.hK) rfl F.n_tuple (by decide +kernel) (a_cons (e_callB (call_sortedA (hu65 hr)) (bSortedK F.ok F.hK) rfl F.n_sorted (by decide +kernel) (a_cons (e_var (pe_var (i := 0) rfl (.inl rfl))) a_nil)) a_nil)))))⟩
/-! ### need_places -/
abbrev p_need_places : List Str := ["places"]
theorem sc_need_places : FnScope n_need_places p_need_places (defScope (top 20)) := ⟨rfl, rfl, rfl, by decide +kernel, rfl, by decide +kernel, by decide +kernel⟩
theorem ok_need_places (F : Fx P w K mg base G) : FnI P w K mg base G 3 "need_places" 1 f_need_places := by
  obtain ⟨f, fd, hm, D⟩ := F.d_need_places
  exact ⟨f, fd, p_need_places, hm, D.kp, D.bindsN (fun _ _ _ _ _ _ us hl => match us, hl with | [_], _ => rfl), rfl, fn_ok D sc_need_places (fun cdv A outer s H E hr => (b_cons (b_if (t_not (t_val F.ok (e_call (ok_is_places F) (hr.mono (by decide)) (takes_of rfl rfl rfl rfl) rfl (a_cons (e_var (pe_var (i := 0) rfl (.inl rfl))) a_nil))))
    (b_one b_stuck)
    b_nil)
    (b_one (b_ret (e_call (ok_ordered F) (hr.mono (by decide)) (takes_of rfl rfl rfl rfl) rfl (a_cons (e_var (pe_var (i := 0) rfl (.inl rfl))) a_nil))))))⟩
/-! ### is_point_of -/
abbrev p_is_point_of : List Str := ["names", "thing"]
theorem sc_is_point_of : FnScope n_is_point_of p_is_point_of (defScope (top 21)) := ⟨rfl, rfl, rfl, by decide +kernel, rfl, by decide +kernel, by decide +kernel⟩
theorem ok_is_point_of (F : Fx P w K mg base G) : ∀ d, FnI P w K mg base G (1 + d) "is_point_of" 2 (f_is_point_of d)
  | 0 => by
    obtain ⟨f, fd, hm, D⟩ := F.d_is_point_of
    exact ⟨f, fd, p_is_point_of, hm, D.kp, D.bindsN (fun _ _ _ _ _ _ us hl => match us, hl with | [_, _], _ => rfl), rfl, fn_ok D sc_is_point_of (fun cdv A outer s H E hr => bs_stuck)⟩
  | d + 1 => by
    obtain ⟨f, fd, hm, D⟩ := F.d_is_point_of
    have ih := ok_is_point_of F d
    have e : 1 + (d + 1) = (0 + d + 1) + 1 := by omega
    rw [e]
    exact ⟨f, fd, p_is_point_of, hm, D.kp, D.bindsN (fun _ _ _ _ _ _ us hl => match us, hl with | [_, _], _ => rfl), rfl, fn_ok D sc_is_point_of (fun cdv A outer s H E hr => (b_cons (b_if (t_val F.ok (e_callB (call_isiA) (bIsiK F.ok F.hK F.isk) rfl F.n_isinstance (by decide +kernel) (a_cons (e_var (pe_var (i := 1) rfl (.inl rfl))) (a_cons (e_ty rfl F.n_str (by decide +kernel)) a_nil))))
    (b_one (b_ret (e_cmp (op_inA (hu65 hr)) (oInK F.ok F.hK) (e_var (pe_var (i := 1) rfl (.inl rfl))) (e_var (pe_var (i := 0) rfl (.inr (.inl rfl)))) rfl)))
    b_nil)
    (b_cons (b_if (PW.pt (t_or (t_not (t_val F.ok (e_callB (call_isiA) (bIsiK F.ok F.hK F.isk) rfl F.n_isinstance (by decide +kernel) (a_cons (e_var (pe_var (i := 1) rfl (.inl rfl))) (a_cons (e_ty rfl F.n_tuple (by decide +kernel)) a_nil))))) (t_or (t_cmp F.ok (op_neD (hu64 hr)) (oNeK F.ok F.hK) (e_callB (call_lenA) (bLenK F.ok F.hK) rfl F.n_len (by decide +kernel) (a_cons (e_var (pe_var (i := 1) rfl (.inl rfl))) a_nil)) e_int (nomark _)) (t_or (t_not (t_val F.ok (e_callB (call_isiA) (bIsiK F.ok F.hK F.isk) rfl F.n_isinstance (by decide +kernel) (a_cons (e_ix F.ok F.hK (e_var (pe_var (i := 1) rfl (.inl rfl))) e_int) (a_cons (e_ty rfl F.n_str (by decide +kernel)) a_nil))))) (t_or1 (t_cmp F.ok (op_neD (hu64 hr)) (oNeK F.ok F.hK) (e_ix F.ok F.hK (e_var (pe_var (i := 1) rfl (.inl rfl))) e_int) (e_glob F.g_FORK rfl) (nomark _)))))))
    (b_one (b_ret e_bl))
    b_nil)
    (b_one (b_ret (e_callB (cr_all rfl) (bAllK F.ok F.hK) rfl F.n_all (by decide +kernel) (a_cons (e_lc (own := [(("point" : Str), 2)]) rfl sc_is_point_of.nd (pi_any (e_sl F.hK (oSl_ok F.ok) (e_var (pe_var (i := 1) rfl (.inl rfl))) (o_some F.ok e_int) o_none)) (iAnyK F.ok F.hK) (blkOk_by (N := n_is_point_of) (sc := defScope (top 21)) (own := [(("point" : Str), 2)]) (by decide +kernel)) (gN_noX _) (fun _ _ _ _ _ => (g_name (pg_name (i := 2) sc_is_point_of.nd rfl (Or.inl rfl)))) (fun _ _ _ _ _ => ts_nil) (fun _ _ _ _ _ => (e_call ih (hr.mono (by omega)) takes0 rfl (a_cons (e_var (pe_var (i := 0) rfl (.inr (.inl rfl)))) (a_cons (e_var (pe_var (i := 2) rfl (.inl rfl))) a_nil))))) a_nil)))))))⟩
/-! ### is_side -/
abbrev p_is_side : List Str := ["parting", "point"]
theorem sc_is_side : FnScope n_is_side p_is_side (defScope (top 23)) := ⟨rfl, rfl, rfl, by decide +kernel, rfl, by decide +kernel, by decide +kernel⟩
theorem ok_is_side (F : Fx P w K mg base G) : ∀ d, FnI P w K mg base G (1 + d) "is_side" 2 (f_is_side d)
  | 0 => by
    obtain ⟨f, fd, hm, D⟩ := F.d_is_side
    exact ⟨f, fd, p_is_side, hm, D.kp, D.bindsN (fun _ _ _ _ _ _ us hl => match us, hl with | [_, _], _ => rfl), rfl, fn_ok D sc_is_side (fun cdv A outer s H E hr => bs_stuck)⟩
  | d + 1 => by
    obtain ⟨f, fd, hm, D⟩ := F.d_is_side
    have ih := ok_is_side F d
    have e : 1 + (d + 1) = (0 + d + 1) + 1 := by omega
    rw [e]
    exact ⟨f, fd, p_is_side, hm, D.kp, D.bindsN (fun _ _ _ _ _ _ us hl => match us, hl with | [_, _], _ => rfl), rfl, fn_ok D sc_is_side (fun cdv A outer s H E hr => (b_cons (b_if (t_val F.ok (e_callB (call_isiA) (bIsiK F.ok F.hK F.isk) rfl F.n_isinstance (by decide +kernel) (a_cons (e_var (pe_var (i := 1) rfl (.inl rfl))) (a_cons (e_ty rfl F.n_str (by decide +kernel)) a_nil))))
    (b_one (b_ret (e_cmp (op_inA (hu65 hr)) (oInK F.ok F.hK) (e_var (pe_var (i := 1) rfl (.inl rfl))) (e_var (pe_var (i := 0) rfl (.inr (.inl rfl)))) rfl)))
    b_nil)
    (b_one (b_ret (e_cmp (op_gtA) (oGtK F.ok F.hK) (e_callB (cr_sum rfl) (bSumK F.ok F.hK) rfl F.n_sum (by decide +kernel) (a_cons (e_lc (own := [(("other" : Str), 2)]) rfl sc_is_side.nd (pi_any (e_sl F.hK (oSl_ok F.ok) (e_var (pe_var (i := 1) rfl (.inl rfl))) (o_some F.ok e_int) o_none)) (iAnyK F.ok F.hK) (blkOk_by (N := n_is_side) (sc := defScope (top 23)) (own := [(("other" : Str), 2)]) (by decide +kernel)) (gN_noX _) (fun _ _ _ _ _ => (g_name (pg_name (i := 2) sc_is_side.nd rfl (Or.inl rfl)))) (fun _ _ _ _ _ => ts_nil) (fun _ _ _ _ _ => (e_callTy (call_intA) (bIntK F.ok F.hK) rfl F.n_int (by decide +kernel) (a_cons (e_call ih (hr.mono (by omega)) takes0 rfl (a_cons (e_var (pe_var (i := 0) rfl (.inr (.inl rfl)))) (a_cons (e_var (pe_var (i := 2) rfl (.inl rfl))) a_nil))) a_nil)))) a_nil)) e_int (nomark _))))))⟩
/-! ### parts -/
abbrev p_parts : List Str := ["parting", "one", "other"]
theorem sc_parts : FnScope n_parts p_parts (defScope (top 24)) := ⟨rfl, rfl, rfl, by decide +kernel, rfl, by decide +kernel, by decide +kernel⟩
theorem ok_parts (F : Fx P w K mg base G) : FnI P w K mg base G 10 "parts" 3 f_parts := by
  obtain ⟨f, fd, hm, D⟩ := F.d_parts
  exact ⟨f, fd, p_parts, hm, D.kp, D.bindsN (fun _ _ _ _ _ _ us hl => match us, hl with | [_, _, _], _ => rfl), rfl, fn_ok D sc_parts (fun cdv A outer s H E hr => (b_one (b_ret (e_cmp (op_neD (hu64 hr)) (oNeK F.ok F.hK) (e_call (ok_is_side F 8) (hr.mono (by decide)) (takes_of rfl rfl rfl rfl) rfl (a_cons (e_var (pe_var (i := 0) rfl (.inl rfl))) (a_cons (e_var (pe_var (i := 1) rfl (.inl rfl))) a_nil))) (e_call (ok_is_side F 8) (hr.mono (by decide)) (takes_of rfl rfl rfl rfl) rfl (a_cons (e_var (pe_var (i := 0) rfl (.inl rfl))) (a_cons (e_var (pe_var (i := 2) rfl (.inl rfl))) a_nil))) (nomark _)))))⟩
/-! ### with_place -/
abbrev p_with_place : List Str := ["shape", "name"]
theorem sc_with_place : FnScope n_with_place p_with_place (defScope (top 25)) := ⟨rfl, rfl, rfl, by decide +kernel, rfl, by decide +kernel, by decide +kernel⟩
theorem ok_with_place (F : Fx P w K mg base G) : FnI P w K mg base G 1 "with_place" 2 f_with_place := by
  obtain ⟨f, fd, hm, D⟩ := F.d_with_place
  exact ⟨f, fd, p_with_place, hm, D.kp, D.bindsN (fun _ _ _ _ _ _ us hl => match us, hl with | [_, _], _ => rfl), rfl, fn_gc F.ok (fn_ok D sc_with_place (fun cdv A outer s H E hr => (b_cons (b_set (i := 2) (ps_set sc_with_place.nd rfl (Or.inl rfl) (e_lstC a_nil)))
    (b_cons (b_for (passes_of rfl) rfl (pi_any (e_var (pe_var (i := 0) rfl (.inl rfl)))) (iAnyK F.ok F.hK) (gN_noX _) (g_name (pg_name (i := 3) sc_with_place.nd rfl (Or.inl rfl)))
    (b_cons (b_set (i := 4) (ps_set sc_with_place.nd rfl (Or.inl rfl) (e_lstC (a_cons (e_tup (a_cons (e_var (pe_var (i := 1) rfl (.inl rfl))) a_nil)) (a_cons (e_var (pe_var (i := 3) rfl (.inl rfl))) (a_cons (e_tup (a_star F.ok F.hK (StX.pa_star (e_var (pe_var (i := 3) rfl (.inl rfl))) (a_cons (e_var (pe_var (i := 1) rfl (.inl rfl))) a_nil)))) a_nil))))))
    (b_cons (b_for (passes_of rfl) rfl (pi_any (e_var (pe_var (i := 0) rfl (.inl rfl)))) (iAnyK F.ok F.hK) (gN_noX _) (g_name (pg_name (i := 5) sc_with_place.nd rfl (Or.inr rfl) (Or.inl rfl)))
    (b_one (b_if (t_cmp F.ok (op_neD (hu64 hr)) (oNeK F.ok F.hK) (e_var (pe_var (i := 5) rfl (.inr (.inl rfl)))) (e_var (pe_var (i := 3) rfl (.inl rfl))) (nomark _))
    (b_cons (b_set (i := 6) (ps_set sc_with_place.nd rfl (Or.inl rfl) (e_callB (cr_all rfl) (bAllK F.ok F.hK) rfl F.n_all (by decide +kernel) (a_cons (e_lc (own := [(("one" : Str), 7)]) rfl sc_with_place.nd (pi_any (e_var (pe_var (i := 3) rfl (.inl rfl)))) (iAnyK F.ok F.hK) (blkOk_by (N := n_with_place) (sc := defScope (top 25)) (own := [(("one" : Str), 7)]) (by decide +kernel)) (gN_noX _) (fun _ _ _ _ _ => (g_name (pg_name (i := 7) sc_with_place.nd rfl (Or.inl rfl)))) (fun _ _ _ _ _ => ts_nil) (fun _ _ _ _ _ => (e_cmp (op_inA (hu65 hr)) (oInK F.ok F.hK) (e_var (pe_var (i := 7) rfl (.inl rfl))) (e_var (pe_var (i := 5) rfl (.inr (.inl rfl)))) rfl))) a_nil))))
    (b_one (b_expr (e_bm F.ok F.hK PySem.F.plainAttrs_list PySem.F.slot_list_append PySem.F.type_list_append mt_append (tAppendK F.ok F.hK) (e_var (pe_var (i := 4) rfl (.inl rfl))) (a_cons (e_if (t_val F.ok (e_var (pe_var (i := 6) rfl (.inl rfl)))) (e_tup (a_star F.ok F.hK (StX.pa_star (e_var (pe_var (i := 5) rfl (.inr (.inl rfl)))) (a_cons (e_var (pe_var (i := 1) rfl (.inl rfl))) a_nil)))) (e_var (pe_var (i := 5) rfl (.inr (.inl rfl))))) a_nil)))))
    b_nil)))
    (b_one (b_expr (e_bm F.ok F.hK PySem.F.plainAttrs_list PySem.F.slot_list_append PySem.F.type_list_append mt_append (tAppendK F.ok F.hK) (e_var (pe_var (i := 2) rfl (.inl rfl))) (a_cons (e_callTy (call_tuple_of) (bTupleK F.ok F.hK) rfl F.n_tuple (by decide +kernel) (a_cons (e_callB (call_sortedA (hu65 hr)) (bSortedK F.ok F.hK) rfl F.n_sorted (by decide +kernel) (a_cons (e_var (pe_var (i := 4) rfl (.inl rfl))) a_nil)) a_nil)) a_nil)))))))
    (b_one (b_ret (e_var (pe_var (i := 2) rfl (.inl rfl)))))))))⟩
/-! ### shapes_of -/
abbrev p_shapes_of : List Str := ["names"]
theorem sc_shapes_of : FnScope n_shapes_of p_shapes_of (defScope (top 26)) := ⟨rfl, rfl, rfl, by decide +kernel, rfl, by decide +kernel, by decide +kernel⟩
theorem ok_shapes_of (F : Fx P w K mg base G) : FnI P w K mg base G 2 "shapes_of" 1 f_shapes_of := by
  obtain ⟨f, fd, hm, D⟩ := F.d_shapes_of
  exact ⟨f, fd, p_shapes_of, hm, D.kp, D.bindsN (fun _ _ _ _ _ _ us hl => match us, hl with | [_], _ => rfl), rfl, fn_ok D sc_shapes_of (fun cdv A outer s H E hr => (b_cons (b_set (i := 1) (ps_set sc_shapes_of.nd rfl (Or.inl rfl) (e_lst (a_cons (e_tup (a_cons (e_sl F.hK (oSl_ok F.ok) (e_var (pe_var (i := 0) rfl (.inl rfl))) (o_some F.ok e_int) (o_some F.ok e_int)) a_nil)) a_nil))))
    (b_cons (b_for (passes_of rfl) rfl (pi_any (e_sl F.hK (oSl_ok F.ok) (e_var (pe_var (i := 0) rfl (.inl rfl))) (o_some F.ok e_int) o_none)) (iAnyK F.ok F.hK) (gN_noX _) (g_name (pg_name (i := 2) sc_shapes_of.nd rfl (Or.inr rfl) (Or.inl rfl)))
    (b_one (b_setLc2 (k := 1) (own := [(("shape" : Str), 3), (("later" : Str), 4)]) (vs1 := [4]) rfl sc_shapes_of.nd rfl rfl (sw_true rfl rfl rfl (by decide +kernel)) (pi_any (e_var (pe_var (i := 1) rfl (.inl rfl)))) (iAnyK F.ok F.hK) (blkOk_by (N := n_shapes_of) (sc := defScope (top 26)) (own := [(("shape" : Str), 3), (("later" : Str), 4)]) (by decide +kernel)) (by decide) (gN_noX _) (gN_noX _) (fun _ _ _ _ _ => by exact (g_name (pg_name (i := 3) sc_shapes_of.nd rfl (Or.inl rfl)))) (fun _ _ _ _ _ => by exact ts_nil) (fun _ _ _ _ _ => by exact (pi_any (e_call (ok_with_place F) (hr.mono (by decide)) takes0 rfl (a_cons (e_var (pe_var (i := 3) rfl (.inl rfl))) (a_cons (e_var (pe_var (i := 2) rfl (.inr (.inl rfl)))) a_nil))))) (iAnyK F.ok F.hK) (fun _ _ _ _ _ => by exact (g_name (pg_name (i := 4) sc_shapes_of.nd rfl (Or.inl rfl)))) (fun _ _ _ _ _ => by exact ts_nil) (fun _ _ _ _ _ => by exact (e_var (pe_var (i := 4) rfl (.inl rfl)))))))
    (b_one (b_ret (e_callB (call_sortedA (hu65 hr)) (bSortedK F.ok F.hK) rfl F.n_sorted (by decide +kernel) (a_cons (e_var (pe_var (i := 1) rfl (.inl rfl))) a_nil)))))))⟩
/-! ### is_term -/
abbrev p_is_term : List Str := ["names", "thing"]
theorem sc_is_term : FnScope n_is_term p_is_term (defScope (top 30)) := ⟨rfl, rfl, rfl, by decide +kernel, rfl, by decide +kernel, by decide +kernel⟩
theorem ok_is_term (F : Fx P w K mg base G) : FnI P w K mg base G 10 "is_term" 2 f_is_term := by
  obtain ⟨f, fd, hm, D⟩ := F.d_is_term
  exact ⟨f, fd, p_is_term, hm, D.kp, D.bindsN (fun _ _ _ _ _ _ us hl => match us, hl with | [_, _], _ => rfl), rfl, fn_ok D sc_is_term (fun cdv A outer s H E hr => (b_cons (b_if (PW.pt (t_or (t_not (t_val F.ok (e_callB (call_isiA) (bIsiK F.ok F.hK F.isk) rfl F.n_isinstance (by decide +kernel) (a_cons (e_var (pe_var (i := 1) rfl (.inl rfl))) (a_cons (e_ty rfl F.n_tuple (by decide +kernel)) a_nil))))) (t_or (t_cmp F.ok (op_neD (hu64 hr)) (oNeK F.ok F.hK) (e_callB (call_lenA) (bLenK F.ok F.hK) rfl F.n_len (by decide +kernel) (a_cons (e_var (pe_var (i := 1) rfl (.inl rfl))) a_nil)) e_int (nomark _)) (t_or (t_not (t_val F.ok (e_call (ok_is_number F) (hr.mono (by decide)) (takes_of rfl rfl rfl rfl) rfl (a_cons (e_ix F.ok F.hK (e_var (pe_var (i := 1) rfl (.inl rfl))) e_int) a_nil)))) (t_or1 (t_cmp F.ok (op_ltA) (oLtK F.ok F.hK) (e_ix F.ok F.hK (e_var (pe_var (i := 1) rfl (.inl rfl))) e_int) e_int (nomark _)))))))
    (b_one (b_ret e_bl))
    b_nil)
    (b_one (b_ret (e_and F.ok (e_call (ok_is_point_of F 8) (hr.mono (by decide)) (takes_of rfl rfl rfl rfl) rfl (a_cons (e_var (pe_var (i := 0) rfl (.inl rfl))) (a_cons (e_ix F.ok F.hK (e_var (pe_var (i := 1) rfl (.inl rfl))) e_int) a_nil))) (e_one (e_call (ok_is_point_of F 8) (hr.mono (by decide)) (takes_of rfl rfl rfl rfl) rfl (a_cons (e_var (pe_var (i := 0) rfl (.inl rfl))) (a_cons (e_ix F.ok F.hK (e_var (pe_var (i := 1) rfl (.inl rfl))) e_int) a_nil)))))))))⟩
/-! ### is_sum -/
abbrev p_is_sum : List Str := ["names", "thing"]
theorem sc_is_sum : FnScope n_is_sum p_is_sum (defScope (top 31)) := ⟨rfl, rfl, rfl, by decide +kernel, rfl, by decide +kernel, by decide +kernel⟩
theorem ok_is_sum (F : Fx P w K mg base G) : FnI P w K mg base G 11 "is_sum" 2 f_is_sum := by
  obtain ⟨f, fd, hm, D⟩ := F.d_is_sum
  exact ⟨f, fd, p_is_sum, hm, D.kp, D.bindsN (fun _ _ _ _ _ _ us hl => match us, hl with | [_, _], _ => rfl), rfl, fn_ok D sc_is_sum (fun cdv A outer s H E hr => (b_cons (b_if (PW.pt (t_or (t_not (t_val F.ok (e_callB (call_isiA) (bIsiK F.ok F.hK F.isk) rfl F.n_isinstance (by decide +kernel) (a_cons (e_var (pe_var (i := 1) rfl (.inl rfl))) (a_cons (e_ty rfl F.n_tuple (by decide +kernel)) a_nil))))) (t_or1 (t_cmp F.ok (op_gtA) (oGtK F.ok F.hK) (e_callB (call_lenA) (bLenK F.ok F.hK) rfl F.n_len (by decide +kernel) (a_cons (e_var (pe_var (i := 1) rfl (.inl rfl))) a_nil)) (e_glob F.g_MOST_TERMS rfl) (nomark _)))))
    (b_one (b_ret e_bl))
    b_nil)
    (b_one (b_ret (e_callB (cr_all rfl) (bAllK F.ok F.hK) rfl F.n_all (by decide +kernel) (a_cons (e_lc (own := [(("term" : Str), 2)]) rfl sc_is_sum.nd (pi_any (e_var (pe_var (i := 1) rfl (.inl rfl)))) (iAnyK F.ok F.hK) (blkOk_by (N := n_is_sum) (sc := defScope (top 31)) (own := [(("term" : Str), 2)]) (by decide +kernel)) (gN_noX _) (fun _ _ _ _ _ => (g_name (pg_name (i := 2) sc_is_sum.nd rfl (Or.inl rfl)))) (fun _ _ _ _ _ => ts_nil) (fun _ _ _ _ _ => (e_call (ok_is_term F) (hr.mono (by decide)) takes0 rfl (a_cons (e_var (pe_var (i := 0) rfl (.inr (.inl rfl)))) (a_cons (e_var (pe_var (i := 2) rfl (.inl rfl))) a_nil))))) a_nil))))))⟩
/-! ### is_claim_of -/
abbrev p_is_claim_of : List Str := ["names", "thing"]
theorem sc_is_claim_of : FnScope n_is_claim_of p_is_claim_of (defScope (top 32)) := ⟨rfl, rfl, rfl, by decide +kernel, rfl, by decide +kernel, by decide +kernel⟩
theorem ok_is_claim_of (F : Fx P w K mg base G) : FnI P w K mg base G 12 "is_claim_of" 2 f_is_claim_of := by
  obtain ⟨f, fd, hm, D⟩ := F.d_is_claim_of
  exact ⟨f, fd, p_is_claim_of, hm, D.kp, D.bindsN (fun _ _ _ _ _ _ us hl => match us, hl with | [_, _], _ => rfl), rfl, fn_ok D sc_is_claim_of (fun cdv A outer s H E hr => (b_cons (b_if (PW.pt (t_or (t_not (t_val F.ok (e_callB (call_isiA) (bIsiK F.ok F.hK F.isk) rfl F.n_isinstance (by decide +kernel) (a_cons (e_var (pe_var (i := 1) rfl (.inl rfl))) (a_cons (e_ty rfl F.n_tuple (by decide +kernel)) a_nil))))) (t_or (t_cmp F.ok (op_neD (hu64 hr)) (oNeK F.ok F.hK) (e_callB (call_lenA) (bLenK F.ok F.hK) rfl F.n_len (by decide +kernel) (a_cons (e_var (pe_var (i := 1) rfl (.inl rfl))) a_nil)) e_int (nomark _)) (t_or (t_not (t_val F.ok (e_callB (call_isiA) (bIsiK F.ok F.hK F.isk) rfl F.n_isinstance (by decide +kernel) (a_cons (e_ix F.ok F.hK (e_var (pe_var (i := 1) rfl (.inl rfl))) e_int) (a_cons (e_ty rfl F.n_str (by decide +kernel)) a_nil))))) (t_or1 (t_cmp F.ok (op_ninA (hu65 hr)) (oNinK F.ok F.hK) (e_ix F.ok F.hK (e_var (pe_var (i := 1) rfl (.inl rfl))) e_int) (e_glob F.g_WORDS rfl) rfl))))))
    (b_one (b_ret e_bl))
    b_nil)
    (b_one (b_ret (e_and F.ok (e_call (ok_is_sum F) (hr.mono (by decide)) (takes_of rfl rfl rfl rfl) rfl (a_cons (e_var (pe_var (i := 0) rfl (.inl rfl))) (a_cons (e_ix F.ok F.hK (e_var (pe_var (i := 1) rfl (.inl rfl))) e_int) a_nil))) (e_one (e_call (ok_is_sum F) (hr.mono (by decide)) (takes_of rfl rfl rfl rfl) rfl (a_cons (e_var (pe_var (i := 0) rfl (.inl rfl))) (a_cons (e_ix F.ok F.hK (e_var (pe_var (i := 1) rfl (.inl rfl))) e_int) a_nil)))))))))⟩
/-! ### sum_at -/
abbrev p_sum_at : List Str := ["added", "parting"]
theorem sc_sum_at : FnScope n_sum_at p_sum_at (defScope (top 33)) := ⟨rfl, rfl, rfl, by decide +kernel, rfl, by decide +kernel, by decide +kernel⟩
theorem ok_sum_at (F : Fx P w K mg base G) : FnI P w K mg base G 11 "sum_at" 2 f_sum_at := by
  obtain ⟨f, fd, hm, D⟩ := F.d_sum_at
  exact ⟨f, fd, p_sum_at, hm, D.kp, D.bindsN (fun _ _ _ _ _ _ us hl => match us, hl with | [_, _], _ => rfl), rfl, fn_ok D sc_sum_at (fun cdv A outer s H E hr => (b_one (b_ret (e_callB (cr_sum rfl) (bSumK F.ok F.hK) rfl F.n_sum (by decide +kernel) (a_cons (e_lc (own := [(("n" : Str), 2), (("one" : Str), 3), (("other" : Str), 4)]) rfl sc_sum_at.nd (pi_any (e_var (pe_var (i := 0) rfl (.inl rfl)))) (iAnyK F.ok F.hK) (blkOk_by (N := n_sum_at) (sc := defScope (top 33)) (own := [(("n" : Str), 2), (("one" : Str), 3), (("other" : Str), 4)]) (by decide +kernel)) (gTup_noX (gCons_noX (gN_noX _) (gCons_noX (gN_noX _) (gCons_noX (gN_noX _) gNil_noX)))) (fun _ _ _ _ _ => (g_tup F.ok F.hK (pg_tup rfl (gs_cons (gN_noX _) (g_name (pg_name (i := 2) sc_sum_at.nd rfl (Or.inl rfl))) (gs_cons (gN_noX _) (g_name (pg_name (i := 3) sc_sum_at.nd rfl (Or.inl rfl))) (gs_cons (gN_noX _) (g_name (pg_name (i := 4) sc_sum_at.nd rfl (Or.inl rfl))) gs_nil)))))) (fun _ _ _ _ _ => (ts_one (t_val F.ok (e_call (ok_parts F) (hr.mono (by decide)) takes0 rfl (a_cons (e_var (pe_var (i := 1) rfl (.inr (.inl rfl)))) (a_cons (e_var (pe_var (i := 3) rfl (.inl rfl))) (a_cons (e_var (pe_var (i := 4) rfl (.inl rfl))) a_nil))))))) (fun _ _ _ _ _ => (e_var (pe_var (i := 2) rfl (.inl rfl))))) a_nil)))))⟩
/-! ### gap_of -/
abbrev p_gap_of : List Str := ["claim", "parting"]
theorem sc_gap_of : FnScope n_gap_of p_gap_of (defScope (top 34)) := ⟨rfl, rfl, rfl, by decide +kernel, rfl, by decide +kernel, by decide +kernel⟩
theorem ok_gap_of (F : Fx P w K mg base G) : FnI P w K mg base G 12 "gap_of" 2 f_gap_of := by
  obtain ⟨f, fd, hm, D⟩ := F.d_gap_of
  exact ⟨f, fd, p_gap_of, hm, D.kp, D.bindsN (fun _ _ _ _ _ _ us hl => match us, hl with | [_, _], _ => rfl), rfl, fn_ok D sc_gap_of (fun cdv A outer s H E hr => (b_one (b_ret (e_bin op_sub (oSub_ok F.ok) (e_call (ok_sum_at F) (hr.mono (by decide)) (takes_of rfl rfl rfl rfl) rfl (a_cons (e_ix F.ok F.hK (e_var (pe_var (i := 0) rfl (.inl rfl))) e_int) (a_cons (e_var (pe_var (i := 1) rfl (.inl rfl))) a_nil))) (e_call (ok_sum_at F) (hr.mono (by decide)) (takes_of rfl rfl rfl rfl) rfl (a_cons (e_ix F.ok F.hK (e_var (pe_var (i := 0) rfl (.inl rfl))) e_int) (a_cons (e_var (pe_var (i := 1) rfl (.inl rfl))) a_nil)))))))⟩
/-! ### need_claims -/
abbrev p_need_claims : List Str := ["names", "thing", "most"]
theorem sc_need_claims : FnScope n_need_claims p_need_claims (defScope (top 39)) := ⟨rfl, rfl, rfl, by decide +kernel, rfl, by decide +kernel, by decide +kernel⟩
theorem ok_need_claims (F : Fx P w K mg base G) : FnI P w K mg base G 13 "need_claims" 3 f_need_claims := by
  obtain ⟨f, fd, hm, D⟩ := F.d_need_claims
  exact ⟨f, fd, p_need_claims, hm, D.kp, D.bindsN (fun _ _ _ _ _ _ us hl => match us, hl with | [_, _, _], _ => rfl), rfl, fn_ok D sc_need_claims (fun cdv A outer s H E hr => (b_cons (b_if (t_not (t_val F.ok (e_callB (call_isiA) (bIsiK F.ok F.hK F.isk) rfl F.n_isinstance (by decide +kernel) (a_cons (e_var (pe_var (i := 1) rfl (.inl rfl))) (a_cons (e_tup (a_cons (e_ty rfl F.n_list (by decide +kernel)) (a_cons (e_ty rfl F.n_tuple (by decide +kernel)) a_nil))) a_nil)))))
    (b_one b_stuck)
    b_nil)
    (b_cons (b_for (passes_of rfl) rfl (pi_enumA rfl F.n_enumerate (a_cons (e_var (pe_var (i := 1) rfl (.inl rfl))) a_nil)) (iEnmAK F.ok F.hK) (gTup_noX (gCons_noX (gN_noX _) (gCons_noX (gN_noX _) gNil_noX))) (g_tup F.ok F.hK (pg_tup rfl (gs_cons (gN_noX _) (g_name (pg_name (i := 3) sc_need_claims.nd rfl (Or.inl rfl))) (gs_cons (gN_noX _) (g_name (pg_name (i := 4) sc_need_claims.nd rfl (Or.inl rfl))) gs_nil))))
    (b_one (b_if (t_not (t_val F.ok (e_call (ok_is_claim_of F) (hr.mono (by decide)) (takes_of rfl rfl rfl rfl) rfl (a_cons (e_var (pe_var (i := 0) rfl (.inl rfl))) (a_cons (e_var (pe_var (i := 4) rfl (.inl rfl))) a_nil)))))
    (b_one b_stuck)
    b_nil)))
    (b_one (b_if (t_cmp F.ok (op_gtA) (oGtK F.ok F.hK) (e_callB (call_lenA) (bLenK F.ok F.hK) rfl F.n_len (by decide +kernel) (a_cons (e_var (pe_var (i := 1) rfl (.inl rfl))) a_nil)) (e_var (pe_var (i := 2) rfl (.inl rfl))) (nomark _))
    (b_one b_stuck)
    b_nil)))))⟩
/-! ### need_book -/
abbrev p_need_book : List Str := ["book"]
theorem sc_need_book : FnScope n_need_book p_need_book (defScope (top 41)) := ⟨rfl, rfl, rfl, by decide +kernel, rfl, by decide +kernel, by decide +kernel⟩
theorem ok_need_book (F : Fx P w K mg base G) : FnI P w K mg base G 1 "need_book" 1 f_need_book := by
  obtain ⟨f, fd, hm, D⟩ := F.d_need_book
  exact ⟨f, fd, p_need_book, hm, D.kp, D.bindsN (fun _ _ _ _ _ _ us hl => match us, hl with | [_], _ => rfl), rfl, fn_ok D sc_need_book (fun cdv A outer s H E hr => (b_one (b_if (t_not (t_val F.ok (e_callB (call_isiA) (bIsiK F.ok F.hK F.isk) rfl F.n_isinstance (by decide +kernel) (a_cons (e_var (pe_var (i := 0) rfl (.inl rfl))) (a_cons (e_glob F.k_Book rfl) a_nil)))))
    (b_one b_stuck)
    b_nil)))⟩
/-! ### common_part -/
abbrev p_common_part : List Str := ["one", "other"]
theorem sc_common_part : FnScope n_common_part p_common_part (defScope (top 43)) := ⟨rfl, rfl, rfl, by decide +kernel, rfl, by decide +kernel, by decide +kernel⟩
theorem ok_common_part (F : Fx P w K mg base G) : FnI P w K mg base G 1 "common_part" 2 f_common_part := by
  obtain ⟨f, fd, hm, D⟩ := F.d_common_part
  exact ⟨f, fd, p_common_part, hm, D.kp, D.bindsN (fun _ _ _ _ _ _ us hl => match us, hl with | [_, _], _ => rfl), rfl, fn_ok D sc_common_part (fun cdv A outer s H E hr => (b_cons (b_while (passes_of rfl) (t_cmp F.ok (op_neD (hu64 hr)) (oNeK F.ok F.hK) (e_var (pe_var (i := 1) rfl (.inl rfl))) e_int (nomark _))
    (b_one (b_par2 (i := 0) (j := 1) rfl sc_common_part.nd rfl rfl (by decide) rfl rfl (a_cons (e_var (pe_var (i := 1) rfl (.inl rfl))) (a_cons (e_bin op_mod (oMod_ok F.ok) (e_var (pe_var (i := 0) rfl (.inl rfl))) (e_var (pe_var (i := 1) rfl (.inl rfl)))) a_nil)))))
    (b_one (b_ret (e_var (pe_var (i := 0) rfl (.inl rfl)))))))⟩
/-! ### least_terms -/
abbrev p_least_terms : List Str := ["numbers"]
theorem sc_least_terms : FnScope n_least_terms p_least_terms (defScope (top 44)) := ⟨rfl, rfl, rfl, by decide +kernel, rfl, by decide +kernel, by decide +kernel⟩
theorem ok_least_terms (F : Fx P w K mg base G) : FnI P w K mg base G 2 "least_terms" 1 f_least_terms := by
  obtain ⟨f, fd, hm, D⟩ := F.d_least_terms
  exact ⟨f, fd, p_least_terms, hm, D.kp, D.bindsN (fun _ _ _ _ _ _ us hl => match us, hl with | [_], _ => rfl), rfl, fn_ok D sc_least_terms (fun cdv A outer s H E hr => (b_cons (b_set (i := 1) (ps_set sc_least_terms.nd rfl (Or.inr rfl) e_int))
    (b_cons (b_for (passes_of rfl) rfl (pi_any (e_var (pe_var (i := 0) rfl (.inl rfl)))) (iAnyK F.ok F.hK) (gN_noX _) (g_name (pg_name (i := 2) sc_least_terms.nd rfl (Or.inl rfl)))
    (b_one (b_set (i := 1) (ps_set sc_least_terms.nd rfl (Or.inr rfl) (e_call (ok_common_part F) (hr.mono (by decide)) (takes_of rfl rfl rfl rfl) rfl (a_cons (e_var (pe_var (i := 1) rfl (.inr (.inl rfl)))) (a_cons (e_callB (call_abs) (bAbsK F.ok F.hK) rfl F.n_abs (by decide +kernel) (a_cons (e_var (pe_var (i := 2) rfl (.inl rfl))) a_nil)) a_nil)))))))
    (b_one (b_ret (e_callTy (call_tuple_of) (bTupleK F.ok F.hK) rfl F.n_tuple (by decide +kernel) (a_cons (e_lc (own := [(("number" : Str), 2)]) rfl sc_least_terms.nd (pi_any (e_var (pe_var (i := 0) rfl (.inl rfl)))) (iAnyK F.ok F.hK) (blkOk_by (N := n_least_terms) (sc := defScope (top 44)) (own := [(("number" : Str), 2)]) (by decide +kernel)) (gN_noX _) (fun _ _ _ _ _ => (g_name (pg_name (i := 2) sc_least_terms.nd rfl (Or.inl rfl)))) (fun _ _ _ _ _ => ts_nil) (fun _ _ _ _ _ => (e_bin op_fdivW (oDiv_ok F.ok) (e_var (pe_var (i := 2) rfl (.inl rfl))) (e_callB (call_maxA rfl) (bMaxK F.ok F.hK) rfl F.n_max (by decide +kernel) (a_cons (e_var (pe_var (i := 1) rfl (.inr (.inl rfl)))) (a_cons e_int a_nil)))))) a_nil)))))))⟩
/-! ### plain_rows -/
abbrev p_plain_rows : List Str := ["rows"]
theorem sc_plain_rows : FnScope n_plain_rows p_plain_rows (defScope (top 45)) := ⟨rfl, rfl, rfl, by decide +kernel, rfl, by decide +kernel, by decide +kernel⟩
theorem ok_plain_rows (F : Fx P w K mg base G) : FnI P w K mg base G 1 "plain_rows" 1 f_plain_rows := by
  obtain ⟨f, fd, hm, D⟩ := F.d_plain_rows
  exact ⟨f, fd, p_plain_rows, hm, D.kp, D.bindsN (fun _ _ _ _ _ _ us hl => match us, hl with | [_], _ => rfl), rfl, fn_gc F.ok (fn_ok D sc_plain_rows (fun cdv A outer s H E hr => (b_cons (b_set (i := 1) (ps_set sc_plain_rows.nd rfl (Or.inl rfl) (e_lstC a_nil)))
    (b_cons (b_for (passes_of rfl) rfl (pi_any (e_var (pe_var (i := 0) rfl (.inl rfl)))) (iAnyK F.ok F.hK) (gTup_noX (gCons_noX (gN_noX _) (gCons_noX (gN_noX _) gNil_noX))) (g_tup F.ok F.hK (pg_tup rfl (gs_cons (gN_noX _) (g_name (pg_name (i := 2) sc_plain_rows.nd rfl (Or.inl rfl))) (gs_cons (gN_noX _) (g_name (pg_name (i := 3) sc_plain_rows.nd rfl (Or.inl rfl))) gs_nil))))
    (b_cons (b_expr (e_bm F.ok F.hK PySem.F.plainAttrs_list PySem.F.slot_list_append PySem.F.type_list_append mt_append (tAppendK F.ok F.hK) (e_var (pe_var (i := 1) rfl (.inl rfl))) (a_cons (e_tup (a_cons (e_cmp (op_eqD (hu64 hr)) (oEqK F.ok F.hK) (e_var (pe_var (i := 2) rfl (.inl rfl))) e_str (nomark _)) (a_cons (e_callTy (call_tuple_of) (bTupleK F.ok F.hK) rfl F.n_tuple (by decide +kernel) (a_cons (e_var (pe_var (i := 3) rfl (.inl rfl))) a_nil)) a_nil))) a_nil)))
    (b_one (b_if (t_cmp F.ok (op_eqD (hu64 hr)) (oEqK F.ok F.hK) (e_var (pe_var (i := 2) rfl (.inl rfl))) e_str (nomark _))
    (b_one (b_expr (e_bm F.ok F.hK PySem.F.plainAttrs_list PySem.F.slot_list_append PySem.F.type_list_append mt_append (tAppendK F.ok F.hK) (e_var (pe_var (i := 1) rfl (.inl rfl))) (a_cons (e_tup (a_cons e_bl (a_cons (e_callTy (call_tuple_of) (bTupleK F.ok F.hK) rfl F.n_tuple (by decide +kernel) (a_cons (e_lc (own := [(("number" : Str), 4)]) rfl sc_plain_rows.nd (pi_any (e_var (pe_var (i := 3) rfl (.inl rfl)))) (iAnyK F.ok F.hK) (blkOk_by (N := n_plain_rows) (sc := defScope (top 45)) (own := [(("number" : Str), 4)]) (by decide +kernel)) (gN_noX _) (fun _ _ _ _ _ => (g_name (pg_name (i := 4) sc_plain_rows.nd rfl (Or.inl rfl)))) (fun _ _ _ _ _ => ts_nil) (fun _ _ _ _ _ => (e_neg F.ok (e_var (pe_var (i := 4) rfl (.inl rfl)))))) a_nil)) a_nil))) a_nil))))
    b_nil))))
    (b_one (b_ret (e_var (pe_var (i := 1) rfl (.inl rfl)))))))))⟩
/-! ### Tableau.__init__ -/
abbrev p_Tableau_init : List Str := ["self", "rows", "many"]
theorem sc_Tableau_init : FnScope n_Tableau_init p_Tableau_init (defScope (inClass (top 46) 0)) := ⟨rfl, rfl, rfl, by decide +kernel, rfl, by decide +kernel, by decide +kernel⟩
theorem ok_Tableau_init (F : Fx P w K mg base G) : MakI P w K mg base G 1 "Tableau" 2 f_Tableau_init := by
  obtain ⟨c, f, fd, hC, hm, hk, D⟩ := F.i_Tableau
  exact ⟨c, f, fd, p_Tableau_init, hC, hm, hk, D.bindsN (fun _ _ _ _ _ _ us hl => match us, hl with | [_, _, _], _ => rfl), rfl, fn_ok D sc_Tableau_init (fun cdv A outer s H E hr => (b_cons (b_fld F.ok F.a_Tableau_many (e_var (pe_var (i := 0) rfl (.inl rfl))) (e_var (pe_var (i := 2) rfl (.inl rfl))))
    (b_cons (b_fld F.ok F.a_Tableau_width (e_var (pe_var (i := 0) rfl (.inl rfl))) (e_bin op_addA (oAddK F.ok F.hK) (e_var (pe_var (i := 2) rfl (.inl rfl))) (e_callB (call_lenA) (bLenK F.ok F.hK) rfl F.n_len (by decide +kernel) (a_cons (e_var (pe_var (i := 1) rfl (.inl rfl))) a_nil))))
    (b_cons (b_setLc (k := 3) (own := [(("at" : Str), 4), (("row" : Str), 10)]) rfl sc_Tableau_init.nd rfl rfl (sw_true rfl rfl rfl (by decide +kernel)) (pi_enumA rfl F.n_enumerate (a_cons (e_var (pe_var (i := 1) rfl (.inl rfl))) a_nil)) (iEnmAK F.ok F.hK) (blkOk_by (N := n_Tableau_init) (sc := defScope (inClass (top 46) 0)) (own := [(("at" : Str), 4), (("row" : Str), 10)]) (by decide +kernel)) (gTup_noX (gCons_noX (gN_noX _) (gCons_noX (gN_noX _) gNil_noX))) (fun _ _ _ _ _ => (g_tup F.ok F.hK (pg_tup rfl (gs_cons (gN_noX _) (g_name (pg_name (i := 4) sc_Tableau_init.nd rfl (Or.inl rfl))) (gs_cons (gN_noX _) (g_name (pg_name (i := 10) sc_Tableau_init.nd rfl (Or.inl rfl))) gs_nil))))) (fun _ _ _ _ _ => (ts_one (t_val F.ok (e_ix F.ok F.hK (e_var (pe_var (i := 10) rfl (.inl rfl))) e_int)))) (fun _ _ _ _ _ => (e_var (pe_var (i := 4) rfl (.inl rfl)))))
    (b_cons (b_fld F.ok F.a_Tableau_divisor (e_var (pe_var (i := 0) rfl (.inl rfl))) e_int)
    (b_cons (b_fld F.ok F.a_Tableau_lines (e_var (pe_var (i := 0) rfl (.inl rfl))) (e_lstC a_nil))
    (b_cons (b_fld F.ok F.a_Tableau_base (e_var (pe_var (i := 0) rfl (.inl rfl))) (e_lstC a_nil))
    (b_cons (b_for (passes_of rfl) rfl (pi_enumA rfl F.n_enumerate (a_cons (e_var (pe_var (i := 1) rfl (.inl rfl))) a_nil)) (iEnmAK F.ok F.hK) (gTup_noX (gCons_noX (gN_noX _) (gCons_noX (gTup_noX (gCons_noX (gN_noX _) (gCons_noX (gN_noX _) gNil_noX))) gNil_noX))) (g_tup F.ok F.hK (pg_tup rfl (gs_cons (gN_noX _) (g_name (pg_name (i := 4) sc_Tableau_init.nd rfl (Or.inr rfl) (Or.inl rfl))) (gs_cons (gTup_noX (gCons_noX (gN_noX _) (gCons_noX (gN_noX _) gNil_noX))) (g_tup F.ok F.hK (pg_tup rfl (gs_cons (gN_noX _) (g_name (pg_name (i := 5) sc_Tableau_init.nd rfl (Or.inl rfl))) (gs_cons (gN_noX _) (g_name (pg_name (i := 6) sc_Tableau_init.nd rfl (Or.inl rfl))) gs_nil)))) gs_nil))))
    (b_cons (b_set (i := 7) (ps_set sc_Tableau_init.nd rfl (Or.inr rfl) (e_if (t_val F.ok (e_var (pe_var (i := 5) rfl (.inl rfl)))) e_int (e_neg F.ok e_int))))
    (b_cons (b_setLc (k := 8) (own := [(("k" : Str), 11)]) rfl sc_Tableau_init.nd rfl rfl (sw_true rfl rfl rfl (by decide +kernel)) (pi_range1 rfl F.n_range (a_cons (e_callB (call_lenA) (bLenK F.ok F.hK) rfl F.n_len (by decide +kernel) (a_cons (e_var (pe_var (i := 1) rfl (.inl rfl))) a_nil)) a_nil)) (rng1_ok F.ok) (blkOk_by (N := n_Tableau_init) (sc := defScope (inClass (top 46) 0)) (own := [(("k" : Str), 11)]) (by decide +kernel)) (gN_noX _) (fun _ _ _ _ _ => (g_name (pg_name (i := 11) sc_Tableau_init.nd rfl (Or.inl rfl)))) (fun _ _ _ _ _ => ts_nil) (fun _ _ _ _ _ => (e_bin op_mulA (oMul_ok F.ok) (e_neg F.ok (e_var (pe_var (i := 7) rfl (.inr (.inl rfl))))) (e_callTy (call_intA) (bIntK F.ok F.hK) rfl F.n_int (by decide +kernel) (a_cons (e_cmp (op_eqD (hu64 hr)) (oEqK F.ok F.hK) (e_var (pe_var (i := 11) rfl (.inl rfl))) (e_var (pe_var (i := 4) rfl (.inr (.inl rfl)))) (nomark _)) a_nil)))))
    (b_cons (b_setLc (k := 9) (own := [(("k" : Str), 11)]) rfl sc_Tableau_init.nd rfl rfl (sw_true rfl rfl rfl (by decide +kernel)) (pi_any (e_var (pe_var (i := 3) rfl (.inl rfl)))) (iAnyK F.ok F.hK) (blkOk_by (N := n_Tableau_init) (sc := defScope (inClass (top 46) 0)) (own := [(("k" : Str), 11)]) (by decide +kernel)) (gN_noX _) (fun _ _ _ _ _ => (g_name (pg_name (i := 11) sc_Tableau_init.nd rfl (Or.inl rfl)))) (fun _ _ _ _ _ => ts_nil) (fun _ _ _ _ _ => (e_callTy (call_intA) (bIntK F.ok F.hK) rfl F.n_int (by decide +kernel) (a_cons (e_cmp (op_eqD (hu64 hr)) (oEqK F.ok F.hK) (e_var (pe_var (i := 11) rfl (.inl rfl))) (e_var (pe_var (i := 4) rfl (.inr (.inl rfl)))) (nomark _)) a_nil))))
    (b_cons (b_expr (e_bm F.ok F.hK PySem.F.plainAttrs_list PySem.F.slot_list_append PySem.F.type_list_append mt_append (tAppendK F.ok F.hK) (e_fld F.ok F.a_Tableau_lines (e_var (pe_var (i := 0) rfl (.inl rfl)))) (a_cons (e_bin op_addA (oAddK F.ok F.hK) (e_bin op_addA (oAddK F.ok F.hK) (e_bin op_addA (oAddK F.ok F.hK) (e_lc (own := [(("number" : Str), 12)]) rfl sc_Tableau_init.nd (pi_any (e_var (pe_var (i := 6) rfl (.inl rfl)))) (iAnyK F.ok F.hK) (blkOk_by (N := n_Tableau_init) (sc := defScope (inClass (top 46) 0)) (own := [(("number" : Str), 12)]) (by decide +kernel)) (gN_noX _) (fun _ _ _ _ _ => (g_name (pg_name (i := 12) sc_Tableau_init.nd rfl (Or.inl rfl)))) (fun _ _ _ _ _ => ts_nil) (fun _ _ _ _ _ => (e_bin op_mulA (oMul_ok F.ok) (e_var (pe_var (i := 7) rfl (.inr (.inl rfl)))) (e_var (pe_var (i := 12) rfl (.inl rfl)))))) (e_var (pe_var (i := 8) rfl (.inl rfl)))) (e_var (pe_var (i := 9) rfl (.inl rfl)))) (e_lst (a_cons (e_callTy (call_intA) (bIntK F.ok F.hK) rfl F.n_int (by decide +kernel) (a_cons (e_var (pe_var (i := 5) rfl (.inl rfl))) a_nil)) a_nil))) a_nil)))
    (b_one (b_expr (e_bm F.ok F.hK PySem.F.plainAttrs_list PySem.F.slot_list_append PySem.F.type_list_append mt_append (tAppendK F.ok F.hK) (e_fld F.ok F.a_Tableau_base (e_var (pe_var (i := 0) rfl (.inl rfl)))) (a_cons (e_if (t_val F.ok (e_var (pe_var (i := 5) rfl (.inl rfl)))) (e_bin op_addA (oAddK F.ok F.hK) (e_fld F.ok F.a_Tableau_width (e_var (pe_var (i := 0) rfl (.inl rfl)))) (e_bm F.ok F.hK PySem.F.plainAttrs_list PySem.F.slot_list_index PySem.F.type_list_index mt_index (tIndexK F.ok F.hK) (e_var (pe_var (i := 3) rfl (.inl rfl))) (a_cons (e_var (pe_var (i := 4) rfl (.inr (.inl rfl)))) a_nil))) (e_bin op_addA (oAddK F.ok F.hK) (e_var (pe_var (i := 2) rfl (.inl rfl))) (e_var (pe_var (i := 4) rfl (.inr (.inl rfl)))))) a_nil)))))))))
    (b_cons (b_fld F.ok F.a_Tableau_goal (e_var (pe_var (i := 0) rfl (.inl rfl))) (e_bin op_addA (oAddK F.ok F.hK) (e_bin op_addA (oAddK F.ok F.hK) (e_bin op_mulA (oMul_ok F.ok) (e_lst (a_cons e_int a_nil)) (e_fld F.ok F.a_Tableau_width (e_var (pe_var (i := 0) rfl (.inl rfl))))) (e_bin op_mulA (oMul_ok F.ok) (e_lst (a_cons e_int a_nil)) (e_callB (call_lenA) (bLenK F.ok F.hK) rfl F.n_len (by decide +kernel) (a_cons (e_var (pe_var (i := 3) rfl (.inl rfl))) a_nil)))) (e_lst (a_cons e_int a_nil))))
    (b_one (b_for (passes_of rfl) rfl (pi_any (e_var (pe_var (i := 3) rfl (.inl rfl)))) (iAnyK F.ok F.hK) (gN_noX _) (g_name (pg_name (i := 4) sc_Tableau_init.nd rfl (Or.inr rfl) (Or.inl rfl)))
    (b_one (b_fld F.ok F.a_Tableau_goal (e_var (pe_var (i := 0) rfl (.inl rfl))) (e_lc (own := [(("one" : Str), 13), (("other" : Str), 14)]) rfl sc_Tableau_init.nd (RZ.pi_zipA rfl F.n_zip (a_cons (e_fld F.ok F.a_Tableau_goal (e_var (pe_var (i := 0) rfl (.inl rfl)))) (a_cons (e_ix F.ok F.hK (e_fld F.ok F.a_Tableau_lines (e_var (pe_var (i := 0) rfl (.inl rfl)))) (e_var (pe_var (i := 4) rfl (.inr (.inl rfl))))) a_nil))) (iZpK F.ok F.hK) (blkOk_by (N := n_Tableau_init) (sc := defScope (inClass (top 46) 0)) (own := [(("one" : Str), 13), (("other" : Str), 14)]) (by decide +kernel)) (gTup_noX (gCons_noX (gN_noX _) (gCons_noX (gN_noX _) gNil_noX))) (fun _ _ _ _ _ => (g_tup F.ok F.hK (pg_tup rfl (gs_cons (gN_noX _) (g_name (pg_name (i := 13) sc_Tableau_init.nd rfl (Or.inl rfl))) (gs_cons (gN_noX _) (g_name (pg_name (i := 14) sc_Tableau_init.nd rfl (Or.inl rfl))) gs_nil))))) (fun _ _ _ _ _ => ts_nil) (fun _ _ _ _ _ => (e_bin op_sub (oSub_ok F.ok) (e_var (pe_var (i := 13) rfl (.inl rfl))) (e_var (pe_var (i := 14) rfl (.inl rfl)))))))))))))))))))⟩
/-! ### Tableau.numbers -/
abbrev p_Tableau_numbers : List Str := ["self"]
theorem sc_Tableau_numbers : FnScope n_Tableau_numbers p_Tableau_numbers (defScope (inClass (top 46) 6)) := ⟨rfl, rfl, rfl, by decide +kernel, rfl, by decide +kernel, by decide +kernel⟩
theorem ok_Tableau_numbers (F : Fx P w K mg base G) : MetI P w K mg base G 1 "Tableau" "numbers" 0 f_Tableau_numbers := by
  obtain ⟨c, f, fd, hC, hc, hm, D⟩ := F.m_Tableau_numbers
  exact ⟨c, f, fd, p_Tableau_numbers, hC, hc, hm, D.bindsN (fun _ _ _ _ _ _ us hl => match us, hl with | [_], _ => rfl), rfl, fn_gc F.ok (fn_ok D sc_Tableau_numbers (fun cdv A outer s H E hr => (b_cons (b_set (i := 1) (ps_set sc_Tableau_numbers.nd rfl (Or.inl rfl) (e_bin op_mulA (oMulC_ok F.ok) (e_lst (a_cons e_int a_nil)) (e_fld F.ok F.a_Tableau_many (e_var (pe_var (i := 0) rfl (.inl rfl)))))))
    (b_cons (b_for (passes_of rfl) rfl (pi_enumA rfl F.n_enumerate (a_cons (e_fld F.ok F.a_Tableau_base (e_var (pe_var (i := 0) rfl (.inl rfl)))) a_nil)) (iEnmAK F.ok F.hK) (gTup_noX (gCons_noX (gN_noX _) (gCons_noX (gN_noX _) gNil_noX))) (g_tup F.ok F.hK (pg_tup rfl (gs_cons (gN_noX _) (g_name (pg_name (i := 2) sc_Tableau_numbers.nd rfl (Or.inl rfl))) (gs_cons (gN_noX _) (g_name (pg_name (i := 3) sc_Tableau_numbers.nd rfl (Or.inl rfl))) gs_nil))))
    (b_one (b_if (t_cmp F.ok (op_ltA) (oLtK F.ok F.hK) (e_var (pe_var (i := 3) rfl (.inl rfl))) (e_fld F.ok F.a_Tableau_many (e_var (pe_var (i := 0) rfl (.inl rfl)))) (nomark _))
    (b_one (b_lput F.ok (e_var (pe_var (i := 1) rfl (.inl rfl))) (e_var (pe_var (i := 3) rfl (.inl rfl))) (e_ix F.ok F.hK (e_ix F.ok F.hK (e_fld F.ok F.a_Tableau_lines (e_var (pe_var (i := 0) rfl (.inl rfl)))) (e_var (pe_var (i := 2) rfl (.inl rfl)))) (e_neg F.ok e_int))))
    b_nil)))
    (b_one (b_ret (e_var (pe_var (i := 1) rfl (.inl rfl)))))))))⟩
/-! ### Tableau.entering -/
abbrev p_Tableau_entering : List Str := ["self"]
theorem sc_Tableau_entering : FnScope n_Tableau_entering p_Tableau_entering (defScope (inClass (top 46) 1)) := ⟨rfl, rfl, rfl, by decide +kernel, rfl, by decide +kernel, by decide +kernel⟩
theorem ok_Tableau_entering (F : Fx P w K mg base G) : MetI P w K mg base G 1 "Tableau" "entering" 0 f_Tableau_entering := by
  obtain ⟨c, f, fd, hC, hc, hm, D⟩ := F.m_Tableau_entering
  exact ⟨c, f, fd, p_Tableau_entering, hC, hc, hm, D.bindsN (fun _ _ _ _ _ _ us hl => match us, hl with | [_], _ => rfl), rfl, fn_ok D sc_Tableau_entering (fun cdv A outer s H E hr => (b_cons (b_for (passes_of rfl) rfl (pi_range1 rfl F.n_range (a_cons (e_fld F.ok F.a_Tableau_width (e_var (pe_var (i := 0) rfl (.inl rfl)))) a_nil)) (rng1_ok F.ok) (gN_noX _) (g_name (pg_name (i := 1) sc_Tableau_entering.nd rfl (Or.inl rfl)))
    (b_one (b_if (t_cmp F.ok (op_ltA) (oLtK F.ok F.hK) (e_ix F.ok F.hK (e_fld F.ok F.a_Tableau_goal (e_var (pe_var (i := 0) rfl (.inl rfl)))) (e_var (pe_var (i := 1) rfl (.inl rfl)))) e_int (nomark _))
    (b_one (b_ret (e_var (pe_var (i := 1) rfl (.inl rfl)))))
    b_nil)))
    (b_one (b_ret e_non))))⟩
/-! ### Tableau.led -/
abbrev p_Tableau_led : List Str := ["self", "line", "chosen", "pivot", "factor"]
theorem sc_Tableau_led : FnScope n_Tableau_led p_Tableau_led (defScope (inClass (top 46) 4)) := ⟨rfl, rfl, rfl, by decide +kernel, rfl, by decide +kernel, by decide +kernel⟩
theorem ok_Tableau_led (F : Fx P w K mg base G) : MetI P w K mg base G 1 "Tableau" "led" 4 f_Tableau_led := by
  obtain ⟨c, f, fd, hC, hc, hm, D⟩ := F.m_Tableau_led
  exact ⟨c, f, fd, p_Tableau_led, hC, hc, hm, D.bindsN (fun _ _ _ _ _ _ us hl => match us, hl with | [_, _, _, _, _], _ => rfl), rfl, fn_ok D sc_Tableau_led (fun cdv A outer s H E hr => (b_one (b_ret (e_lc (own := [(("number" : Str), 5), (("other" : Str), 6)]) rfl sc_Tableau_led.nd (RZ.pi_zipA rfl F.n_zip (a_cons (e_var (pe_var (i := 1) rfl (.inl rfl))) (a_cons (e_var (pe_var (i := 2) rfl (.inl rfl))) a_nil))) (iZpK F.ok F.hK) (blkOk_by (N := n_Tableau_led) (sc := defScope (inClass (top 46) 4)) (own := [(("number" : Str), 5), (("other" : Str), 6)]) (by decide +kernel)) (gTup_noX (gCons_noX (gN_noX _) (gCons_noX (gN_noX _) gNil_noX))) (fun _ _ _ _ _ => (g_tup F.ok F.hK (pg_tup rfl (gs_cons (gN_noX _) (g_name (pg_name (i := 5) sc_Tableau_led.nd rfl (Or.inl rfl))) (gs_cons (gN_noX _) (g_name (pg_name (i := 6) sc_Tableau_led.nd rfl (Or.inl rfl))) gs_nil))))) (fun _ _ _ _ _ => ts_nil) (fun _ _ _ _ _ => (e_bin op_fdivW (oDiv_ok F.ok) (e_bin op_sub (oSub_ok F.ok) (e_bin op_mulA (oMul_ok F.ok) (e_var (pe_var (i := 5) rfl (.inl rfl))) (e_var (pe_var (i := 3) rfl (.inr (.inl rfl))))) (e_bin op_mulA (oMul_ok F.ok) (e_var (pe_var (i := 4) rfl (.inr (.inl rfl)))) (e_var (pe_var (i := 6) rfl (.inl rfl))))) (e_fld F.ok F.a_Tableau_divisor (e_var (pe_var (i := 0) rfl (.inr (.inl rfl)))))))))))⟩
/-! ### Tableau.exchange -/
abbrev p_Tableau_exchange : List Str := ["self", "at", "column"]
theorem sc_Tableau_exchange : FnScope n_Tableau_exchange p_Tableau_exchange (defScope (inClass (top 46) 3)) := ⟨rfl, rfl, rfl, by decide +kernel, rfl, by decide +kernel, by decide +kernel⟩
theorem ok_Tableau_exchange (F : Fx P w K mg base G) : MetI P w K mg base G 2 "Tableau" "exchange" 2 f_Tableau_exchange := by
  obtain ⟨c, f, fd, hC, hc, hm, D⟩ := F.m_Tableau_exchange
  exact ⟨c, f, fd, p_Tableau_exchange, hC, hc, hm, D.bindsN (fun _ _ _ _ _ _ us hl => match us, hl with | [_, _, _], _ => rfl), rfl, fn_ok D sc_Tableau_exchange (fun cdv A outer s H E hr => (b_cons (b_par2 (i := 3) (j := 4) rfl sc_Tableau_exchange.nd rfl rfl (by decide) rfl rfl (a_cons (e_ix F.ok F.hK (e_ix F.ok F.hK (e_fld F.ok F.a_Tableau_lines (e_var (pe_var (i := 0) rfl (.inl rfl)))) (e_var (pe_var (i := 1) rfl (.inl rfl)))) (e_var (pe_var (i := 2) rfl (.inl rfl)))) (a_cons (e_ix F.ok F.hK (e_fld F.ok F.a_Tableau_lines (e_var (pe_var (i := 0) rfl (.inl rfl)))) (e_var (pe_var (i := 1) rfl (.inl rfl)))) a_nil)))
    (b_cons (b_set (i := 5) (ps_set sc_Tableau_exchange.nd rfl (Or.inl rfl) (e_lstC a_nil)))
    (b_cons (b_for (passes_of rfl) rfl (pi_enumA rfl F.n_enumerate (a_cons (e_fld F.ok F.a_Tableau_lines (e_var (pe_var (i := 0) rfl (.inl rfl)))) a_nil)) (iEnmAK F.ok F.hK) (gTup_noX (gCons_noX (gN_noX _) (gCons_noX (gN_noX _) gNil_noX))) (g_tup F.ok F.hK (pg_tup rfl (gs_cons (gN_noX _) (g_name (pg_name (i := 6) sc_Tableau_exchange.nd rfl (Or.inl rfl))) (gs_cons (gN_noX _) (g_name (pg_name (i := 7) sc_Tableau_exchange.nd rfl (Or.inl rfl))) gs_nil))))
    (b_one (b_expr (e_bm F.ok F.hK PySem.F.plainAttrs_list PySem.F.slot_list_append PySem.F.type_list_append mt_append (tAppendK F.ok F.hK) (e_var (pe_var (i := 5) rfl (.inl rfl))) (a_cons (e_if (t_cmp F.ok (op_eqD (hu64 hr)) (oEqK F.ok F.hK) (e_var (pe_var (i := 6) rfl (.inl rfl))) (e_var (pe_var (i := 1) rfl (.inl rfl))) (nomark _)) (e_var (pe_var (i := 4) rfl (.inl rfl))) (e_meth F.ok (ok_Tableau_led F) (hr.mono (by decide)) (takes_of rfl rfl rfl rfl) (e_var (pe_var (i := 0) rfl (.inl rfl))) (a_cons (e_var (pe_var (i := 7) rfl (.inl rfl))) (a_cons (e_var (pe_var (i := 4) rfl (.inl rfl))) (a_cons (e_var (pe_var (i := 3) rfl (.inl rfl))) (a_cons (e_ix F.ok F.hK (e_var (pe_var (i := 7) rfl (.inl rfl))) (e_var (pe_var (i := 2) rfl (.inl rfl)))) a_nil)))))) a_nil)))))
    (b_cons (b_fld F.ok F.a_Tableau_lines (e_var (pe_var (i := 0) rfl (.inl rfl))) (e_var (pe_var (i := 5) rfl (.inl rfl))))
    (b_cons (b_fld F.ok F.a_Tableau_goal (e_var (pe_var (i := 0) rfl (.inl rfl))) (e_meth F.ok (ok_Tableau_led F) (hr.mono (by decide)) (takes_of rfl rfl rfl rfl) (e_var (pe_var (i := 0) rfl (.inl rfl))) (a_cons (e_fld F.ok F.a_Tableau_goal (e_var (pe_var (i := 0) rfl (.inl rfl)))) (a_cons (e_var (pe_var (i := 4) rfl (.inl rfl))) (a_cons (e_var (pe_var (i := 3) rfl (.inl rfl))) (a_cons (e_ix F.ok F.hK (e_fld F.ok F.a_Tableau_goal (e_var (pe_var (i := 0) rfl (.inl rfl)))) (e_var (pe_var (i := 2) rfl (.inl rfl)))) a_nil))))))
    (b_cons (b_fld F.ok F.a_Tableau_divisor (e_var (pe_var (i := 0) rfl (.inl rfl))) (e_var (pe_var (i := 3) rfl (.inl rfl))))
    (b_one (b_lput F.ok (e_fld F.ok F.a_Tableau_base (e_var (pe_var (i := 0) rfl (.inl rfl)))) (e_var (pe_var (i := 1) rfl (.inl rfl))) (e_var (pe_var (i := 2) rfl (.inl rfl))))))))))))⟩
/-! ### Tableau.leaving -/
abbrev p_Tableau_leaving : List Str := ["self", "column"]
theorem sc_Tableau_leaving : FnScope n_Tableau_leaving p_Tableau_leaving (defScope (inClass (top 46) 2)) := ⟨rfl, rfl, rfl, by decide +kernel, rfl, by decide +kernel, by decide +kernel⟩
theorem ok_Tableau_leaving (F : Fx P w K mg base G) : MetI P w K mg base G 1 "Tableau" "leaving" 1 f_Tableau_leaving := by
  obtain ⟨c, f, fd, hC, hc, hm, D⟩ := F.m_Tableau_leaving
  exact ⟨c, f, fd, p_Tableau_leaving, hC, hc, hm, D.bindsN (fun _ _ _ _ _ _ us hl => match us, hl with | [_, _], _ => rfl), rfl, fn_ok D sc_Tableau_leaving (fun cdv A outer s H E hr => (b_cons (b_set (i := 2) (ps_set sc_Tableau_leaving.nd rfl (Or.inl rfl) e_non))
    (b_cons (b_for (passes_of rfl) rfl (pi_enumA rfl F.n_enumerate (a_cons (e_fld F.ok F.a_Tableau_lines (e_var (pe_var (i := 0) rfl (.inl rfl)))) a_nil)) (iEnmAK F.ok F.hK) (gTup_noX (gCons_noX (gN_noX _) (gCons_noX (gN_noX _) gNil_noX))) (g_tup F.ok F.hK (pg_tup rfl (gs_cons (gN_noX _) (g_name (pg_name (i := 3) sc_Tableau_leaving.nd rfl (Or.inl rfl))) (gs_cons (gN_noX _) (g_name (pg_name (i := 4) sc_Tableau_leaving.nd rfl (Or.inl rfl))) gs_nil))))
    (b_one (b_if (t_cmp F.ok (op_gtA) (oGtK F.ok F.hK) (e_ix F.ok F.hK (e_var (pe_var (i := 4) rfl (.inl rfl))) (e_var (pe_var (i := 1) rfl (.inl rfl)))) e_int (nomark _))
    (b_one (b_if (t_cmp F.ok (op_isN) (oIsK F.ok F.hK) (e_var (pe_var (i := 2) rfl (.inl rfl))) e_non (nomark _))
    (b_one (b_set (i := 2) (ps_set sc_Tableau_leaving.nd rfl (Or.inl rfl) (e_var (pe_var (i := 3) rfl (.inl rfl))))))
    (b_cons (b_par2 (i := 5) (j := 6) rfl sc_Tableau_leaving.nd rfl rfl (by decide) rfl rfl (a_cons (e_bin op_mulA (oMul_ok F.ok) (e_ix F.ok F.hK (e_var (pe_var (i := 4) rfl (.inl rfl))) (e_neg F.ok e_int)) (e_ix F.ok F.hK (e_ix F.ok F.hK (e_fld F.ok F.a_Tableau_lines (e_var (pe_var (i := 0) rfl (.inl rfl)))) (e_var (pe_var (i := 2) rfl (.inl rfl)))) (e_var (pe_var (i := 1) rfl (.inl rfl))))) (a_cons (e_bin op_mulA (oMul_ok F.ok) (e_ix F.ok F.hK (e_ix F.ok F.hK (e_fld F.ok F.a_Tableau_lines (e_var (pe_var (i := 0) rfl (.inl rfl)))) (e_var (pe_var (i := 2) rfl (.inl rfl)))) (e_neg F.ok e_int)) (e_ix F.ok F.hK (e_var (pe_var (i := 4) rfl (.inl rfl))) (e_var (pe_var (i := 1) rfl (.inl rfl))))) a_nil)))
    (b_one (b_if (PW.pt (t_or (t_cmp F.ok (op_ltA) (oLtK F.ok F.hK) (e_var (pe_var (i := 5) rfl (.inl rfl))) (e_var (pe_var (i := 6) rfl (.inl rfl))) (nomark _)) (t_or1 (PW.pt (t_and (t_cmp F.ok (op_eqD (hu64 hr)) (oEqK F.ok F.hK) (e_var (pe_var (i := 5) rfl (.inl rfl))) (e_var (pe_var (i := 6) rfl (.inl rfl))) (nomark _)) (t_and1 (t_cmp F.ok (op_ltA) (oLtK F.ok F.hK) (e_ix F.ok F.hK (e_fld F.ok F.a_Tableau_base (e_var (pe_var (i := 0) rfl (.inl rfl)))) (e_var (pe_var (i := 3) rfl (.inl rfl)))) (e_ix F.ok F.hK (e_fld F.ok F.a_Tableau_base (e_var (pe_var (i := 0) rfl (.inl rfl)))) (e_var (pe_var (i := 2) rfl (.inl rfl)))) (nomark _))))))))
    (b_one (b_set (i := 2) (ps_set sc_Tableau_leaving.nd rfl (Or.inl rfl) (e_var (pe_var (i := 3) rfl (.inl rfl))))))
    b_nil)))))
    b_nil)))
    (b_one (b_ret (e_var (pe_var (i := 2) rfl (.inl rfl))))))))⟩
/-! ### Tableau.solve -/
abbrev p_Tableau_solve : List Str := ["self"]
theorem sc_Tableau_solve : FnScope n_Tableau_solve p_Tableau_solve (defScope (inClass (top 46) 5)) := ⟨rfl, rfl, rfl, by decide +kernel, rfl, by decide +kernel, by decide +kernel⟩
theorem ok_Tableau_solve (F : Fx P w K mg base G) : MetI P w K mg base G 3 "Tableau" "solve" 0 f_Tableau_solve := by
  obtain ⟨c, f, fd, hC, hc, hm, D⟩ := F.m_Tableau_solve
  exact ⟨c, f, fd, p_Tableau_solve, hC, hc, hm, D.bindsN (fun _ _ _ _ _ _ us hl => match us, hl with | [_], _ => rfl), rfl, fn_ok D sc_Tableau_solve (fun cdv A outer s H E hr => (b_cons (b_set (i := 1) (ps_set sc_Tableau_solve.nd rfl (Or.inl rfl) (e_meth0 F.ok (ok_Tableau_entering F) (hr.mono (by decide)) (takes_of rfl rfl rfl rfl) (e_var (pe_var (i := 0) rfl (.inl rfl))))))
    (b_one (b_while (passes_of rfl) (t_cmp F.ok (op_notN) (oIsntK F.ok F.hK) (e_var (pe_var (i := 1) rfl (.inl rfl))) e_non (nomark _))
    (b_cons (b_expr (e_meth F.ok (ok_Tableau_exchange F) (hr.mono (by decide)) (takes_of rfl rfl rfl rfl) (e_var (pe_var (i := 0) rfl (.inl rfl))) (a_cons (e_meth F.ok (ok_Tableau_leaving F) (hr.mono (by decide)) (takes_of rfl rfl rfl rfl) (e_var (pe_var (i := 0) rfl (.inl rfl))) (a_cons (e_var (pe_var (i := 1) rfl (.inl rfl))) a_nil)) (a_cons (e_var (pe_var (i := 1) rfl (.inl rfl))) a_nil))))
    (b_one (b_set (i := 1) (ps_set sc_Tableau_solve.nd rfl (Or.inl rfl) (e_meth0 F.ok (ok_Tableau_entering F) (hr.mono (by decide)) (takes_of rfl rfl rfl rfl) (e_var (pe_var (i := 0) rfl (.inl rfl))))))))))))⟩
/-! ### answer -/
abbrev p_answer : List Str := ["rows", "many"]
theorem sc_answer : FnScope n_answer p_answer (defScope (top 47)) := ⟨rfl, rfl, rfl, by decide +kernel, rfl, by decide +kernel, by decide +kernel⟩
theorem ok_answer (F : Fx P w K mg base G) : FnI P w K mg base G 4 "answer" 2 f_answer := by
  obtain ⟨f, fd, hm, D⟩ := F.d_answer
  exact ⟨f, fd, p_answer, hm, D.kp, D.bindsN (fun _ _ _ _ _ _ us hl => match us, hl with | [_, _], _ => rfl), rfl, fn_gc F.ok (fn_ok D sc_answer (fun cdv A outer s H E hr => (b_cons (b_set (i := 2) (ps_set sc_answer.nd rfl (Or.inl rfl) (e_call (ok_plain_rows F) (hr.mono (by decide)) (takes_of rfl rfl rfl rfl) rfl (a_cons (e_var (pe_var (i := 0) rfl (.inl rfl))) a_nil))))
    (b_cons (b_set (i := 3) (ps_set sc_answer.nd rfl (Or.inl rfl) (e_make F.ok (ok_Tableau_init F) (hr.mono (by decide)) (takes_of rfl rfl rfl rfl) rfl (a_cons (e_var (pe_var (i := 2) rfl (.inl rfl))) (a_cons (e_var (pe_var (i := 1) rfl (.inl rfl))) a_nil)))))
    (b_cons (b_expr (e_meth0 F.ok (ok_Tableau_solve F) (hr.mono (by decide)) (takes_of rfl rfl rfl rfl) (e_var (pe_var (i := 3) rfl (.inl rfl)))))
    (b_cons (b_if (t_cmp F.ok (op_eqD (hu64 hr)) (oEqK F.ok F.hK) (e_ix F.ok F.hK (e_fld F.ok F.a_Tableau_goal (e_var (pe_var (i := 3) rfl (.inl rfl)))) (e_neg F.ok e_int)) e_int (nomark _))
    (b_one (b_ret (e_tup (a_cons e_str (a_cons (e_call (ok_least_terms F) (hr.mono (by decide)) (takes_of rfl rfl rfl rfl) rfl (a_cons (e_meth0 F.ok (ok_Tableau_numbers F) (hr.mono (by decide)) (takes_of rfl rfl rfl rfl) (e_var (pe_var (i := 3) rfl (.inl rfl)))) a_nil)) a_nil)))))
    b_nil)
    (b_cons (b_par2 (i := 4) (j := 5) rfl sc_answer.nd rfl rfl (by decide) rfl rfl (a_cons (e_lstC a_nil) (a_cons (e_var (pe_var (i := 1) rfl (.inl rfl))) a_nil)))
    (b_cons (b_for (passes_of rfl) rfl (pi_any (e_var (pe_var (i := 0) rfl (.inl rfl)))) (iAnyK F.ok F.hK) (gTup_noX (gCons_noX (gN_noX _) (gCons_noX (gN_noX _) gNil_noX))) (g_tup F.ok F.hK (pg_tup rfl (gs_cons (gN_noX _) (g_name (pg_name (i := 6) sc_answer.nd rfl (Or.inl rfl))) (gs_cons (gN_noX _) (g_name (pg_name (i := 7) sc_answer.nd rfl (Or.inl rfl))) gs_nil))))
    (b_cons (b_expr (e_bm F.ok F.hK PySem.F.plainAttrs_list PySem.F.slot_list_append PySem.F.type_list_append mt_append (tAppendK F.ok F.hK) (e_var (pe_var (i := 4) rfl (.inl rfl))) (a_cons (e_ix F.ok F.hK (e_fld F.ok F.a_Tableau_goal (e_var (pe_var (i := 3) rfl (.inl rfl)))) (e_var (pe_var (i := 5) rfl (.inl rfl)))) a_nil)))
    (b_cons (b_if (t_cmp F.ok (op_eqD (hu64 hr)) (oEqK F.ok F.hK) (e_var (pe_var (i := 6) rfl (.inl rfl))) e_str (nomark _))
    (b_one (b_lput F.ok (e_var (pe_var (i := 4) rfl (.inl rfl))) (e_neg F.ok e_int) (e_bin op_sub (oSub_ok F.ok) (e_ix F.ok F.hK (e_var (pe_var (i := 4) rfl (.inl rfl))) (e_neg F.ok e_int)) (e_ix F.ok F.hK (e_fld F.ok F.a_Tableau_goal (e_var (pe_var (i := 3) rfl (.inl rfl)))) (e_bin op_addA (oAddK F.ok F.hK) (e_var (pe_var (i := 5) rfl (.inl rfl))) e_int)))))
    b_nil)
    (b_one (b_set (i := 5) (ps_set sc_answer.nd rfl (Or.inl rfl) (e_bin op_addA (oAddK F.ok F.hK) (e_var (pe_var (i := 5) rfl (.inl rfl))) (e_if (t_cmp F.ok (op_eqD (hu64 hr)) (oEqK F.ok F.hK) (e_var (pe_var (i := 6) rfl (.inl rfl))) e_str (nomark _)) e_int e_int))))))))
    (b_one (b_ret (e_tup (a_cons e_str (a_cons (e_call (ok_least_terms F) (hr.mono (by decide)) (takes_of rfl rfl rfl rfl) rfl (a_cons (e_var (pe_var (i := 4) rfl (.inl rfl))) a_nil)) a_nil)))))))))))))⟩
/-! ### fullest -/
abbrev p_fullest : List Str := ["rows", "many"]
theorem sc_fullest : FnScope n_fullest p_fullest (defScope (top 48)) := ⟨rfl, rfl, rfl, by decide +kernel, rfl, by decide +kernel, by decide +kernel⟩
theorem ok_fullest (F : Fx P w K mg base G) : FnI P w K mg base G 5 "fullest" 2 f_fullest := by
  obtain ⟨f, fd, hm, D⟩ := F.d_fullest
  exact ⟨f, fd, p_fullest, hm, D.kp, D.bindsN (fun _ _ _ _ _ _ us hl => match us, hl with | [_, _], _ => rfl), rfl, fn_ok D sc_fullest (fun cdv A outer s H E hr => (b_cons (b_asg (gTup_noX (gCons_noX (gN_noX _) (gCons_noX (gN_noX _) gNil_noX))) (e_call (ok_answer F) (hr.mono (by decide)) (takes_of rfl rfl rfl rfl) rfl (a_cons (e_var (pe_var (i := 0) rfl (.inl rfl))) (a_cons (e_var (pe_var (i := 1) rfl (.inl rfl))) a_nil))) (g_tup F.ok F.hK (pg_tup rfl (gs_cons (gN_noX _) (g_name (pg_name (i := 2) sc_fullest.nd rfl (Or.inl rfl))) (gs_cons (gN_noX _) (g_name (pg_name (i := 3) sc_fullest.nd rfl (Or.inl rfl))) gs_nil)))))
    (b_cons (b_if (t_cmp F.ok (op_eqD (hu64 hr)) (oEqK F.ok F.hK) (e_var (pe_var (i := 2) rfl (.inl rfl))) e_str (nomark _))
    (b_one (b_ret e_non))
    b_nil)
    (b_cons (b_for (passes_of rfl) rfl (pi_range1 rfl F.n_range (a_cons (e_var (pe_var (i := 1) rfl (.inl rfl))) a_nil)) (rng1_ok F.ok) (gN_noX _) (g_name (pg_name (i := 4) sc_fullest.nd rfl (Or.inr rfl) (Or.inl rfl)))
    (b_one (b_if (t_cmp F.ok (op_eqD (hu64 hr)) (oEqK F.ok F.hK) (e_ix F.ok F.hK (e_var (pe_var (i := 3) rfl (.inl rfl))) (e_var (pe_var (i := 4) rfl (.inr (.inl rfl))))) e_int (nomark _))
    (b_cons (b_asg (gTup_noX (gCons_noX (gN_noX _) (gCons_noX (gN_noX _) gNil_noX))) (e_call (ok_answer F) (hr.mono (by decide)) (takes_of rfl rfl rfl rfl) rfl (a_cons (e_lst (a_star F.ok F.hK (StX.pa_star (e_var (pe_var (i := 0) rfl (.inl rfl))) (a_cons (e_tup (a_cons e_str (a_cons (e_callTy (call_tuple_of) (bTupleK F.ok F.hK) rfl F.n_tuple (by decide +kernel) (a_cons (e_lc (own := [(("k" : Str), 6)]) rfl sc_fullest.nd (pi_range1 rfl F.n_range (a_cons (e_var (pe_var (i := 1) rfl (.inl rfl))) a_nil)) (rng1_ok F.ok) (blkOk_by (N := n_fullest) (sc := defScope (top 48)) (own := [(("k" : Str), 6)]) (by decide +kernel)) (gN_noX _) (fun _ _ _ _ _ => (g_name (pg_name (i := 6) sc_fullest.nd rfl (Or.inl rfl)))) (fun _ _ _ _ _ => ts_nil) (fun _ _ _ _ _ => (e_callTy (call_intA) (bIntK F.ok F.hK) rfl F.n_int (by decide +kernel) (a_cons (e_cmp (op_eqD (hu64 hr)) (oEqK F.ok F.hK) (e_var (pe_var (i := 6) rfl (.inl rfl))) (e_var (pe_var (i := 4) rfl (.inr (.inl rfl)))) (nomark _)) a_nil)))) a_nil)) a_nil))) a_nil)))) (a_cons (e_var (pe_var (i := 1) rfl (.inl rfl))) a_nil))) (g_tup F.ok F.hK (pg_tup rfl (gs_cons (gN_noX _) (g_name (pg_name (i := 2) sc_fullest.nd rfl (Or.inl rfl))) (gs_cons (gN_noX _) (g_name (pg_name (i := 5) sc_fullest.nd rfl (Or.inl rfl))) gs_nil)))))
    (b_one (b_if (t_cmp F.ok (op_eqD (hu64 hr)) (oEqK F.ok F.hK) (e_var (pe_var (i := 2) rfl (.inl rfl))) e_str (nomark _))
    (b_one (b_set (i := 3) (ps_set sc_fullest.nd rfl (Or.inl rfl) (e_callTy (call_tuple_of) (bTupleK F.ok F.hK) rfl F.n_tuple (by decide +kernel) (a_cons (e_lc (own := [(("one" : Str), 7), (("other" : Str), 8)]) rfl sc_fullest.nd (RZ.pi_zipA rfl F.n_zip (a_cons (e_var (pe_var (i := 3) rfl (.inl rfl))) (a_cons (e_var (pe_var (i := 5) rfl (.inl rfl))) a_nil))) (iZpK F.ok F.hK) (blkOk_by (N := n_fullest) (sc := defScope (top 48)) (own := [(("one" : Str), 7), (("other" : Str), 8)]) (by decide +kernel)) (gTup_noX (gCons_noX (gN_noX _) (gCons_noX (gN_noX _) gNil_noX))) (fun _ _ _ _ _ => (g_tup F.ok F.hK (pg_tup rfl (gs_cons (gN_noX _) (g_name (pg_name (i := 7) sc_fullest.nd rfl (Or.inl rfl))) (gs_cons (gN_noX _) (g_name (pg_name (i := 8) sc_fullest.nd rfl (Or.inl rfl))) gs_nil))))) (fun _ _ _ _ _ => ts_nil) (fun _ _ _ _ _ => (e_bin op_addA (oAddK F.ok F.hK) (e_var (pe_var (i := 7) rfl (.inl rfl))) (e_var (pe_var (i := 8) rfl (.inl rfl)))))) a_nil)))))
    b_nil)))
    b_nil)))
    (b_one (b_ret (e_call (ok_least_terms F) (hr.mono (by decide)) (takes_of rfl rfl rfl rfl) rfl (a_cons (e_var (pe_var (i := 3) rfl (.inl rfl))) a_nil))))))))⟩
/-! ### rows_of -/
abbrev p_rows_of : List Str := ["claims", "shape"]
theorem sc_rows_of : FnScope n_rows_of p_rows_of (defScope (top 51)) := ⟨rfl, rfl, rfl, by decide +kernel, rfl, by decide +kernel, by decide +kernel⟩
theorem ok_rows_of (F : Fx P w K mg base G) : FnI P w K mg base G 13 "rows_of" 2 f_rows_of := by
  obtain ⟨f, fd, hm, D⟩ := F.d_rows_of
  exact ⟨f, fd, p_rows_of, hm, D.kp, D.bindsN (fun _ _ _ _ _ _ us hl => match us, hl with | [_, _], _ => rfl), rfl, fn_ok D sc_rows_of (fun cdv A outer s H E hr => (b_one (b_ret (e_lc (own := [(("claim" : Str), 2)]) rfl sc_rows_of.nd (pi_any (e_var (pe_var (i := 0) rfl (.inl rfl)))) (iAnyK F.ok F.hK) (blkOk_by (N := n_rows_of) (sc := defScope (top 51)) (own := [(("claim" : Str), 2)]) (by decide +kernel)) (gN_noX _) (fun _ _ _ _ _ => (g_name (pg_name (i := 2) sc_rows_of.nd rfl (Or.inr rfl) (Or.inl rfl)))) (fun _ _ _ _ _ => ts_nil) (fun _ _ _ _ _ => (e_tup (a_cons (e_kd F.ok F.t_KINDS rfl (e_ix F.ok F.hK (e_var (pe_var (i := 2) rfl (.inr (.inl rfl)))) e_int)) (a_cons (e_callTy (call_tuple_of) (bTupleK F.ok F.hK) rfl F.n_tuple (by decide +kernel) (a_cons (e_lc (own := [(("parting" : Str), 3)]) rfl sc_rows_of.nd (pi_any (e_var (pe_var (i := 1) rfl (.inr (.inl rfl))))) (iAnyK F.ok F.hK) (blkOk_by (by kernel_rfl)) (gN_noX _) (fun _ _ _ _ _ => (g_name (pg_name (i := 3) sc_rows_of.nd rfl (Or.inl rfl)))) (fun _ _ _ _ _ => ts_nil) (fun _ _ _ _ _ => (e_call (ok_gap_of F) (hr.mono (by decide)) takes0 rfl (a_cons (e_var (pe_var (i := 2) rfl (.inr (.inl rfl)))) (a_cons (e_var (pe_var (i := 3) rfl (.inl rfl))) a_nil))))) a_nil)) a_nil))))))))⟩
/-! ### has_all -/
abbrev p_has_all : List Str := ["lot", "other"]
theorem sc_has_all : FnScope n_has_all p_has_all (defScope (top 53)) := ⟨rfl, rfl, rfl, by decide +kernel, rfl, by decide +kernel, by decide +kernel⟩
theorem ok_has_all (F : Fx P w K mg base G) : FnI P w K mg base G 1 "has_all" 2 f_has_all := by
  obtain ⟨f, fd, hm, D⟩ := F.d_has_all
  exact ⟨f, fd, p_has_all, hm, D.kp, D.bindsN (fun _ _ _ _ _ _ us hl => match us, hl with | [_, _], _ => rfl), rfl, fn_ok D sc_has_all (fun cdv A outer s H E hr => (b_one (b_ret (e_callB (cr_all rfl) (bAllK F.ok F.hK) rfl F.n_all (by decide +kernel) (a_cons (e_lc (own := [(("item" : Str), 2)]) rfl sc_has_all.nd (pi_any (e_var (pe_var (i := 1) rfl (.inl rfl)))) (iAnyK F.ok F.hK) (blkOk_by (N := n_has_all) (sc := defScope (top 53)) (own := [(("item" : Str), 2)]) (by decide +kernel)) (gN_noX _) (fun _ _ _ _ _ => (g_name (pg_name (i := 2) sc_has_all.nd rfl (Or.inl rfl)))) (fun _ _ _ _ _ => ts_nil) (fun _ _ _ _ _ => (e_cmp (op_inA (hu65 hr)) (oInK F.ok F.hK) (e_var (pe_var (i := 2) rfl (.inl rfl))) (e_var (pe_var (i := 0) rfl (.inr (.inl rfl)))) rfl))) a_nil)))))⟩
/-! ### fullest_lot -/
abbrev p_fullest_lot : List Str := ["facts", "some"]
theorem sc_fullest_lot : FnScope n_fullest_lot p_fullest_lot (defScope (top 54)) := ⟨rfl, rfl, rfl, by decide +kernel, rfl, by decide +kernel, by decide +kernel⟩
theorem ok_fullest_lot (F : Fx P w K mg base G) : FnI P w K mg base G 14 "fullest_lot" 2 f_fullest_lot := by
  obtain ⟨f, fd, hm, D⟩ := F.d_fullest_lot
  exact ⟨f, fd, p_fullest_lot, hm, D.kp, D.bindsN (fun _ _ _ _ _ _ us hl => match us, hl with | [_, _], _ => rfl), rfl, fn_ok D sc_fullest_lot (fun cdv A outer s H E hr => (b_cons (b_if (t_cmp F.ok (op_eqD (hu64 hr)) (oEqK F.ok F.hK) (e_callB (call_lenA) (bLenK F.ok F.hK) rfl F.n_len (by decide +kernel) (a_cons (e_var (pe_var (i := 1) rfl (.inl rfl))) a_nil)) e_int (nomark _))
    (b_one (b_ret (e_if (t_val F.ok (e_callB (cr_any rfl) (bAnyK F.ok F.hK) rfl F.n_any (by decide +kernel) (a_cons (e_lc (own := [(("fact" : Str), 3)]) rfl sc_fullest_lot.nd (pi_any (e_var (pe_var (i := 0) rfl (.inl rfl)))) (iAnyK F.ok F.hK) (blkOk_by (N := n_fullest_lot) (sc := defScope (top 54)) (own := [(("fact" : Str), 3)]) (by decide +kernel)) (gN_noX _) (fun _ _ _ _ _ => (g_name (pg_name (i := 3) sc_fullest_lot.nd rfl (Or.inl rfl)))) (fun _ _ _ _ _ => ts_nil) (fun _ _ _ _ _ => (e_cmp (op_eqD (hu64 hr)) (oEqK F.ok F.hK) (e_ix F.ok F.hK (e_var (pe_var (i := 3) rfl (.inl rfl))) e_int) e_str (nomark _)))) a_nil))) e_non (e_tup a_nil))))
    b_nil)
    (b_cons (b_set (i := 2) (ps_set sc_fullest_lot.nd rfl (Or.inl rfl) (e_call (ok_fullest F) (hr.mono (by decide)) (takes_of rfl rfl rfl rfl) rfl (a_cons (e_call (ok_rows_of F) (hr.mono (by decide)) (takes_of rfl rfl rfl rfl) rfl (a_cons (e_var (pe_var (i := 0) rfl (.inl rfl))) (a_cons (e_var (pe_var (i := 1) rfl (.inl rfl))) a_nil))) (a_cons (e_callB (call_lenA) (bLenK F.ok F.hK) rfl F.n_len (by decide +kernel) (a_cons (e_var (pe_var (i := 1) rfl (.inl rfl))) a_nil)) a_nil)))))
    (b_cons (b_if (t_cmp F.ok (op_isN) (oIsK F.ok F.hK) (e_var (pe_var (i := 2) rfl (.inl rfl))) e_non (nomark _))
    (b_one (b_ret e_non))
    b_nil)
    (b_one (b_ret (e_callTy (call_tuple_of) (bTupleK F.ok F.hK) rfl F.n_tuple (by decide +kernel) (a_cons (e_lc (own := [(("parting" : Str), 4), (("number" : Str), 5)]) rfl sc_fullest_lot.nd (RZ.pi_zipA rfl F.n_zip (a_cons (e_var (pe_var (i := 1) rfl (.inl rfl))) (a_cons (e_var (pe_var (i := 2) rfl (.inl rfl))) a_nil))) (iZpK F.ok F.hK) (blkOk_by (N := n_fullest_lot) (sc := defScope (top 54)) (own := [(("parting" : Str), 4), (("number" : Str), 5)]) (by decide +kernel)) (gTup_noX (gCons_noX (gN_noX _) (gCons_noX (gN_noX _) gNil_noX))) (fun _ _ _ _ _ => (g_tup F.ok F.hK (pg_tup rfl (gs_cons (gN_noX _) (g_name (pg_name (i := 4) sc_fullest_lot.nd rfl (Or.inl rfl))) (gs_cons (gN_noX _) (g_name (pg_name (i := 5) sc_fullest_lot.nd rfl (Or.inl rfl))) gs_nil))))) (fun _ _ _ _ _ => (ts_one (t_cmp F.ok (op_gtA) (oGtK F.ok F.hK) (e_var (pe_var (i := 5) rfl (.inl rfl))) e_int (nomark _)))) (fun _ _ _ _ _ => (e_var (pe_var (i := 4) rfl (.inl rfl))))) a_nil))))))))⟩
/-! ### lots_for -/
abbrev p_lots_for : List Str := ["names", "facts"]
theorem sc_lots_for : FnScope n_lots_for p_lots_for (defScope (top 55)) := ⟨rfl, rfl, rfl, by decide +kernel, rfl, by decide +kernel, by decide +kernel⟩
theorem ok_lots_for (F : Fx P w K mg base G) : FnI P w K mg base G 15 "lots_for" 2 f_lots_for := by
  obtain ⟨f, fd, hm, D⟩ := F.d_lots_for
  exact ⟨f, fd, p_lots_for, hm, D.kp, D.bindsN (fun _ _ _ _ _ _ us hl => match us, hl with | [_, _], _ => rfl), rfl, fn_gc F.ok (fn_ok D sc_lots_for (fun cdv A outer s H E hr => (b_cons (b_set (i := 2) (ps_set sc_lots_for.nd rfl (Or.inr rfl) (e_lstC a_nil)))
    (b_cons (b_for (passes_of rfl) rfl (pi_any (e_call (ok_shapes_of F) (hr.mono (by decide)) (takes_of rfl rfl rfl rfl) rfl (a_cons (e_var (pe_var (i := 0) rfl (.inl rfl))) a_nil))) (iAnyK F.ok F.hK) (gN_noX _) (g_name (pg_name (i := 3) sc_lots_for.nd rfl (Or.inl rfl)))
    (b_cons (b_set (i := 4) (ps_set sc_lots_for.nd rfl (Or.inl rfl) (e_call (ok_fullest_lot F) (hr.mono (by decide)) (takes_of rfl rfl rfl rfl) rfl (a_cons (e_var (pe_var (i := 1) rfl (.inl rfl))) (a_cons (e_var (pe_var (i := 3) rfl (.inl rfl))) a_nil)))))
    (b_one (b_if (PW.pt (t_and (t_cmp F.ok (op_notN) (oIsntK F.ok F.hK) (e_var (pe_var (i := 4) rfl (.inl rfl))) e_non (nomark _)) (t_and1 (t_cmp F.ok (op_ninA (hu65 hr)) (oNinK F.ok F.hK) (e_var (pe_var (i := 4) rfl (.inl rfl))) (e_var (pe_var (i := 2) rfl (.inr (.inl rfl)))) rfl))))
    (b_one (b_expr (e_bm F.ok F.hK PySem.F.plainAttrs_list PySem.F.slot_list_append PySem.F.type_list_append mt_append (tAppendK F.ok F.hK) (e_var (pe_var (i := 2) rfl (.inr (.inl rfl)))) (a_cons (e_var (pe_var (i := 4) rfl (.inl rfl))) a_nil))))
    b_nil))))
    (b_one (b_ret (e_callB (call_sortedA (hu65 hr)) (bSortedK F.ok F.hK) rfl F.n_sorted (by decide +kernel) (a_cons (e_lc (own := [(("lot" : Str), 4)]) rfl sc_lots_for.nd (pi_any (e_var (pe_var (i := 2) rfl (.inr (.inl rfl))))) (iAnyK F.ok F.hK) (blkOk_by (N := n_lots_for) (sc := defScope (top 55)) (own := [(("lot" : Str), 4)]) (by decide +kernel)) (gN_noX _) (fun _ _ _ _ _ => (g_name (pg_name (i := 4) sc_lots_for.nd rfl (Or.inr rfl) (Or.inl rfl)))) (fun _ _ _ _ _ => (ts_one (t_not (t_val F.ok (e_callB (cr_any rfl) (bAnyK F.ok F.hK) rfl F.n_any (by decide +kernel) (a_cons (e_lc (own := [(("other" : Str), 5)]) rfl sc_lots_for.nd (pi_any (e_var (pe_var (i := 2) rfl (.inr (.inl rfl))))) (iAnyK F.ok F.hK) (blkOk_by (by kernel_rfl)) (gN_noX _) (fun _ _ _ _ _ => (g_name (pg_name (i := 5) sc_lots_for.nd rfl (Or.inl rfl)))) (fun _ _ _ _ _ => ts_nil) (fun _ _ _ _ _ => (e_and F.ok (e_cmp (op_neD (hu64 hr)) (oNeK F.ok F.hK) (e_var (pe_var (i := 4) rfl (.inr (.inl rfl)))) (e_var (pe_var (i := 5) rfl (.inl rfl))) (nomark _)) (e_one (e_call (ok_has_all F) (hr.mono (by decide)) takes0 rfl (a_cons (e_var (pe_var (i := 5) rfl (.inl rfl))) (a_cons (e_var (pe_var (i := 4) rfl (.inr (.inl rfl)))) a_nil))))))) a_nil)))))) (fun _ _ _ _ _ => (e_var (pe_var (i := 4) rfl (.inr (.inl rfl)))))) a_nil))))))))⟩
/-! ### Book.facts -/
abbrev p_Book_facts : List Str := ["self"]
theorem sc_Book_facts : FnScope n_Book_facts p_Book_facts (defScope (inClass (top 40) 2)) := ⟨rfl, rfl, rfl, by decide +kernel, rfl, by decide +kernel, by decide +kernel⟩
theorem ok_Book_facts (F : Fx P w K mg base G) : PrpI P w K mg base G 1 "Book" "facts" f_Book_facts := by
  obtain ⟨c, pa, f, fd, hC, hc, hp, D⟩ := F.r_Book_facts
  exact ⟨c, pa, f, fd, p_Book_facts, hC, hc, hp, D.bindsN (fun _ _ _ _ _ _ us hl => match us, hl with | [_], _ => rfl), rfl, fn_ok D sc_Book_facts (fun cdv A outer s H E hr => (b_one (b_ret (e_fld F.ok F.a_Book_own_facts (e_var (pe_var (i := 0) rfl (.inl rfl)))))))⟩
/-! ### Book.places -/
abbrev p_Book_places : List Str := ["self"]
theorem sc_Book_places : FnScope n_Book_places p_Book_places (defScope (inClass (top 40) 1)) := ⟨rfl, rfl, rfl, by decide +kernel, rfl, by decide +kernel, by decide +kernel⟩
theorem ok_Book_places (F : Fx P w K mg base G) : PrpI P w K mg base G 1 "Book" "places" f_Book_places := by
  obtain ⟨c, pa, f, fd, hC, hc, hp, D⟩ := F.r_Book_places
  exact ⟨c, pa, f, fd, p_Book_places, hC, hc, hp, D.bindsN (fun _ _ _ _ _ _ us hl => match us, hl with | [_], _ => rfl), rfl, fn_ok D sc_Book_places (fun cdv A outer s H E hr => (b_one (b_ret (e_fld F.ok F.a_Book_own_places (e_var (pe_var (i := 0) rfl (.inl rfl)))))))⟩
/-! ### lots_left -/
abbrev p_lots_left : List Str := ["book"]
theorem sc_lots_left : FnScope n_lots_left p_lots_left (defScope (top 56)) := ⟨rfl, rfl, rfl, by decide +kernel, rfl, by decide +kernel, by decide +kernel⟩
theorem ok_lots_left (F : Fx P w K mg base G) : FnI P w K mg base G 16 "lots_left" 1 f_lots_left := by
  obtain ⟨f, fd, hm, D⟩ := F.d_lots_left
  exact ⟨f, fd, p_lots_left, hm, D.kp, D.bindsN (fun _ _ _ _ _ _ us hl => match us, hl with | [_], _ => rfl), rfl, fn_ok D sc_lots_left (fun cdv A outer s H E hr => (b_cons (b_expr (e_call (ok_need_book F) (hr.mono (by decide)) (takes_of rfl rfl rfl rfl) rfl (a_cons (e_var (pe_var (i := 0) rfl (.inl rfl))) a_nil)))
    (b_one (b_ret (e_call (ok_lots_for F) (hr.mono (by decide)) (takes_of rfl rfl rfl rfl) rfl (a_cons (e_prop F.ok (ok_Book_places F) (hr.mono (by decide)) (e_var (pe_var (i := 0) rfl (.inl rfl)))) (a_cons (e_prop F.ok (ok_Book_facts F) (hr.mono (by decide)) (e_var (pe_var (i := 0) rfl (.inl rfl)))) a_nil)))))))⟩
/-! ### is_pair -/
abbrev p_is_pair : List Str := ["names", "thing"]
theorem sc_is_pair : FnScope n_is_pair p_is_pair (defScope (top 59)) := ⟨rfl, rfl, rfl, by decide +kernel, rfl, by decide +kernel, by decide +kernel⟩
theorem ok_is_pair (F : Fx P w K mg base G) : FnI P w K mg base G 13 "is_pair" 2 f_is_pair := by
  obtain ⟨f, fd, hm, D⟩ := F.d_is_pair
  exact ⟨f, fd, p_is_pair, hm, D.kp, D.bindsN (fun _ _ _ _ _ _ us hl => match us, hl with | [_, _], _ => rfl), rfl, fn_ok D sc_is_pair (fun cdv A outer s H E hr => (b_one (b_ret (e_and F.ok (e_callB (call_isiA) (bIsiK F.ok F.hK F.isk) rfl F.n_isinstance (by decide +kernel) (a_cons (e_var (pe_var (i := 1) rfl (.inl rfl))) (a_cons (e_ty rfl F.n_tuple (by decide +kernel)) a_nil))) (e_and F.ok (e_cmp (op_eqD (hu64 hr)) (oEqK F.ok F.hK) (e_callB (call_lenA) (bLenK F.ok F.hK) rfl F.n_len (by decide +kernel) (a_cons (e_var (pe_var (i := 1) rfl (.inl rfl))) a_nil)) e_int (nomark _)) (e_one (e_call (ok_is_claim_of F) (hr.mono (by decide)) (takes_of rfl rfl rfl rfl) rfl (a_cons (e_var (pe_var (i := 0) rfl (.inl rfl))) (a_cons (e_tup (a_cons e_str (a_star F.ok F.hK (StX.pa_star (e_var (pe_var (i := 1) rfl (.inl rfl))) a_nil)))) a_nil)))))))))⟩
/-! ### need_pairs -/
abbrev p_need_pairs : List Str := ["names", "pairs"]
theorem sc_need_pairs : FnScope n_need_pairs p_need_pairs (defScope (top 60)) := ⟨rfl, rfl, rfl, by decide +kernel, rfl, by decide +kernel, by decide +kernel⟩
theorem ok_need_pairs (F : Fx P w K mg base G) : FnI P w K mg base G 14 "need_pairs" 2 f_need_pairs := by
  obtain ⟨f, fd, hm, D⟩ := F.d_need_pairs
  exact ⟨f, fd, p_need_pairs, hm, D.kp, D.bindsN (fun _ _ _ _ _ _ us hl => match us, hl with | [_, _], _ => rfl), rfl, fn_ok D sc_need_pairs (fun cdv A outer s H E hr => (b_cons (b_if (t_not (t_val F.ok (e_callB (call_isiA) (bIsiK F.ok F.hK F.isk) rfl F.n_isinstance (by decide +kernel) (a_cons (e_var (pe_var (i := 1) rfl (.inl rfl))) (a_cons (e_tup (a_cons (e_ty rfl F.n_list (by decide +kernel)) (a_cons (e_ty rfl F.n_tuple (by decide +kernel)) a_nil))) a_nil)))))
    (b_one b_stuck)
    b_nil)
    (b_cons (b_for (passes_of rfl) rfl (pi_enumA rfl F.n_enumerate (a_cons (e_var (pe_var (i := 1) rfl (.inl rfl))) a_nil)) (iEnmAK F.ok F.hK) (gTup_noX (gCons_noX (gN_noX _) (gCons_noX (gN_noX _) gNil_noX))) (g_tup F.ok F.hK (pg_tup rfl (gs_cons (gN_noX _) (g_name (pg_name (i := 2) sc_need_pairs.nd rfl (Or.inl rfl))) (gs_cons (gN_noX _) (g_name (pg_name (i := 3) sc_need_pairs.nd rfl (Or.inl rfl))) gs_nil))))
    (b_one (b_if (t_not (t_val F.ok (e_call (ok_is_pair F) (hr.mono (by decide)) (takes_of rfl rfl rfl rfl) rfl (a_cons (e_var (pe_var (i := 0) rfl (.inl rfl))) (a_cons (e_var (pe_var (i := 3) rfl (.inl rfl))) a_nil)))))
    (b_one b_stuck)
    b_nil)))
    (b_cons (b_if (t_cmp F.ok (op_eqD (hu64 hr)) (oEqK F.ok F.hK) (e_callB (call_lenA) (bLenK F.ok F.hK) rfl F.n_len (by decide +kernel) (a_cons (e_var (pe_var (i := 1) rfl (.inl rfl))) a_nil)) e_int (nomark _))
    (b_one b_stuck)
    b_nil)
    (b_one (b_if (t_cmp F.ok (op_gtA) (oGtK F.ok F.hK) (e_callB (call_lenA) (bLenK F.ok F.hK) rfl F.n_len (by decide +kernel) (a_cons (e_var (pe_var (i := 1) rfl (.inl rfl))) a_nil)) (e_glob F.g_MOST_PAIRS rfl) (nomark _))
    (b_one b_stuck)
    b_nil))))))⟩
/-! ### most_left -/
abbrev p_most_left : List Str := ["book", "pair"]
theorem sc_most_left : FnScope n_most_left p_most_left (defScope (top 61)) := ⟨rfl, rfl, rfl, by decide +kernel, rfl, by decide +kernel, by decide +kernel⟩
theorem ok_most_left (F : Fx P w K mg base G) : FnI P w K mg base G 16 "most_left" 2 f_most_left := by
  obtain ⟨f, fd, hm, D⟩ := F.d_most_left
  exact ⟨f, fd, p_most_left, hm, D.kp, D.bindsN (fun _ _ _ _ _ _ us hl => match us, hl with | [_, _], _ => rfl), rfl, fn_ok D sc_most_left (fun cdv A outer s H E hr => (b_cons (b_asg (gTup_noX (gCons_noX (gN_noX _) (gCons_noX (gN_noX _) gNil_noX))) (e_var (pe_var (i := 1) rfl (.inl rfl))) (g_tup F.ok F.hK (pg_tup rfl (gs_cons (gN_noX _) (g_name (pg_name (i := 2) sc_most_left.nd rfl (Or.inl rfl))) (gs_cons (gN_noX _) (g_name (pg_name (i := 3) sc_most_left.nd rfl (Or.inl rfl))) gs_nil)))))
    (b_cons (b_set (i := 4) (ps_set sc_most_left.nd rfl (Or.inl rfl) (e_tup (a_cons (e_tup (a_cons e_str (a_cons (e_var (pe_var (i := 2) rfl (.inl rfl))) (a_cons (e_var (pe_var (i := 3) rfl (.inl rfl))) a_nil)))) (a_cons (e_tup (a_cons e_str (a_cons (e_var (pe_var (i := 2) rfl (.inl rfl))) (a_cons (e_var (pe_var (i := 3) rfl (.inl rfl))) a_nil)))) (a_cons (e_tup (a_cons e_str (a_cons (e_var (pe_var (i := 3) rfl (.inl rfl))) (a_cons (e_var (pe_var (i := 2) rfl (.inl rfl))) a_nil)))) a_nil))))))
    (b_one (b_ret (e_callB (call_maxA rfl) (bMaxK F.ok F.hK) rfl F.n_max (by decide +kernel) (a_cons (e_lc (own := [(("answer" : Str), 5)]) rfl sc_most_left.nd (pi_any (e_var (pe_var (i := 4) rfl (.inl rfl)))) (iAnyK F.ok F.hK) (blkOk_by (N := n_most_left) (sc := defScope (top 61)) (own := [(("answer" : Str), 5)]) (by decide +kernel)) (gN_noX _) (fun _ _ _ _ _ => (g_name (pg_name (i := 5) sc_most_left.nd rfl (Or.inl rfl)))) (fun _ _ _ _ _ => ts_nil) (fun _ _ _ _ _ => (e_callB (call_lenA) (bLenK F.ok F.hK) rfl F.n_len (by decide +kernel) (a_cons (e_call (ok_lots_for F) (hr.mono (by decide)) takes0 rfl (a_cons (e_prop F.ok (ok_Book_places F) (hr.mono (by decide)) (e_var (pe_var (i := 0) rfl (.inr (.inl rfl))))) (a_cons (e_tup (a_star F.ok F.hK (StX.pa_star (e_prop F.ok (ok_Book_facts F) (hr.mono (by decide)) (e_var (pe_var (i := 0) rfl (.inr (.inl rfl))))) (a_cons (e_var (pe_var (i := 5) rfl (.inl rfl))) a_nil)))) a_nil))) a_nil)))) a_nil)))))))⟩
/-! ### best_asked -/
abbrev p_best_asked : List Str := ["book", "pairs"]
theorem sc_best_asked : FnScope n_best_asked p_best_asked (defScope (top 62)) := ⟨rfl, rfl, rfl, by decide +kernel, rfl, by decide +kernel, by decide +kernel⟩
theorem okf_best_asked (F : Fx P w K mg base G) {f : Addr} {fd : FuncData} (D : FunD K "best_asked" "best_asked" (defArgs (top 62)) (defBody (top 62)) (defScope (top 62)) [] [] f fd) : FnOk P w K mg base (L2.CX P w) 17 f fd p_best_asked (spM G 2 f_best_asked) := fn_ok D sc_best_asked (fun cdv A outer s H E hr => (b_cons (b_expr (e_call (ok_need_book F) (hr.mono (by decide)) (takes_of rfl rfl rfl rfl) rfl (a_cons (e_var (pe_var (i := 0) rfl (.inr (.inl rfl)))) a_nil)))
    (b_cons (b_expr (e_call (ok_need_pairs F) (hr.mono (by decide)) (takes_of rfl rfl rfl rfl) rfl (a_cons (e_prop F.ok (ok_Book_places F) (hr.mono (by decide)) (e_var (pe_var (i := 0) rfl (.inr (.inl rfl))))) (a_cons (e_var (pe_var (i := 1) rfl (.inl rfl))) a_nil))))
    (b_cons (b_setLc (k := 2) (own := [(("pair" : Str), 3)]) rfl sc_best_asked.nd rfl rfl (sw_true rfl rfl rfl (by decide +kernel)) (pi_any (e_var (pe_var (i := 1) rfl (.inl rfl)))) (iAnyK F.ok F.hK) (blkOk_by (N := n_best_asked) (sc := defScope (top 62)) (own := [(("pair" : Str), 3)]) (by decide +kernel)) (gN_noX _) (fun _ _ _ _ _ => (g_name (pg_name (i := 3) sc_best_asked.nd rfl (Or.inl rfl)))) (fun _ _ _ _ _ => ts_nil) (fun _ _ _ _ _ => (e_call (ok_most_left F) (hr.mono (by decide)) takes0 rfl (a_cons (e_var (pe_var (i := 0) rfl (.inr (.inl rfl)))) (a_cons (e_var (pe_var (i := 3) rfl (.inl rfl))) a_nil)))))
    (b_one (b_ret (e_bm F.ok F.hK PySem.F.plainAttrs_list PySem.F.slot_list_index PySem.F.type_list_index mt_index (tIndexK F.ok F.hK) (e_var (pe_var (i := 2) rfl (.inl rfl))) (a_cons (e_callB (call_minA rfl) (bMinK F.ok F.hK) rfl F.n_min (by decide +kernel) (a_cons (e_var (pe_var (i := 2) rfl (.inl rfl))) a_nil)) a_nil))))))))
theorem ok_best_asked (F : Fx P w K mg base G) : FnI P w K mg base G 17 "best_asked" 2 f_best_asked := by
  obtain ⟨f, fd, hm, D⟩ := F.d_best_asked
  exact ⟨f, fd, p_best_asked, hm, D.kp, D.bindsN (fun _ _ _ _ _ _ us hl => match us, hl with | [_, _], _ => rfl), rfl, (okf_best_asked F D)⟩
theorem kw_best_asked (F : Fx P w K mg base G) : KwI P w K mg base G 17 "best_asked" ["pairs", "book"] [1, 0] f_best_asked := by
  obtain ⟨f, fd, hm, D⟩ := F.d_best_asked
  exact ⟨f, fd, p_best_asked, hm, D.kp, kwB D (fun _ _ _ _ _ _ us hl => match us, hl with | [_, _], _ => rfl), rfl, by decide, okf_best_asked F D⟩
/-! ### _law_begin -/
abbrev p__law_begin : List Str := ["_law_script"]
theorem sc__law_begin : FnScope n__law_begin p__law_begin (defScope (top 64)) := ⟨rfl, rfl, rfl, by decide +kernel, rfl, by decide +kernel, by decide +kernel⟩
theorem ok__law_begin (F : Fx P w K mg base G) : FnI P w K mg base G 1 "_law_begin" 1 f__law_begin := by
  obtain ⟨f, fd, hm, D⟩ := F.d__law_begin
  exact ⟨f, fd, p__law_begin, hm, D.kp, D.bindsN (fun _ _ _ _ _ _ us hl => match us, hl with | [_], _ => rfl), rfl, fn_ok D sc__law_begin (fun cdv A outer s H E hr => (b_cons (b_setLcC (k := 1) (own := [(("_law_cell" : Str), 2)]) rfl sc__law_begin.nd rfl rfl (sw_true rfl rfl rfl (by decide +kernel)) (pi_any (e_var (pe_var (i := 0) rfl (.inl rfl)))) (iAnyK F.ok F.hK) (blkOk_by (N := n__law_begin) (sc := defScope (top 64)) (own := [(("_law_cell" : Str), 2)]) (by decide +kernel)) (gN_noX _) (fun _ _ _ _ _ => (g_name (pg_name (i := 2) sc__law_begin.nd rfl (Or.inl rfl)))) (fun _ _ _ _ _ => (ts_one (t_cmp F.ok (op_geA) (oGeK F.ok F.hK) (e_callB (call_abs) (bAbsK F.ok F.hK) rfl F.n_abs (by decide +kernel) (a_cons (e_var (pe_var (i := 2) rfl (.inl rfl))) a_nil)) (e_bin op_pow (oPow_ok F.ok) e_int e_int) (nomark _)))) (fun _ _ _ _ _ => (e_bin op_sub (oSub_ok F.ok) (e_callB (call_abs) (bAbsK F.ok F.hK) rfl F.n_abs (by decide +kernel) (a_cons (e_var (pe_var (i := 2) rfl (.inl rfl))) a_nil)) (e_bin op_pow (oPow_ok F.ok) e_int e_int))))
    (b_one (b_ret (e_dispC F.ok (ps_consD e_str (e_var (pe_var (i := 1) rfl (.inl rfl))) (ps_consD e_str e_int (ps_consD e_str (e_lc (own := [(("_law_cell" : Str), 2)]) rfl sc__law_begin.nd (pi_any (e_var (pe_var (i := 0) rfl (.inl rfl)))) (iAnyK F.ok F.hK) (blkOk_by (N := n__law_begin) (sc := defScope (top 64)) (own := [(("_law_cell" : Str), 2)]) (by decide +kernel)) (gN_noX _) (fun _ _ _ _ _ => (g_name (pg_name (i := 2) sc__law_begin.nd rfl (Or.inl rfl)))) (fun _ _ _ _ _ => ts_nil) (fun _ _ _ _ _ => (e_callB (call_abs) (bAbsK F.ok F.hK) rfl F.n_abs (by decide +kernel) (a_cons (e_var (pe_var (i := 2) rfl (.inl rfl))) a_nil)))) (ps_consD e_str e_int ps_nilD)))) (by rfl) (by rfl) (fun z => by cases z) (by decide))))))⟩
/-! ### _law_blend -/
abbrev p__law_blend : List Str := ["_law_draw"]
theorem sc__law_blend : FnScope n__law_blend p__law_blend (defScope (top 65)) := ⟨rfl, rfl, rfl, by decide +kernel, rfl, by decide +kernel, by decide +kernel⟩
theorem ok__law_blend (F : Fx P w K mg base G) : FnI P w K mg base G 1 "_law_blend" 1 f__law_blend := by
  obtain ⟨f, fd, hm, D⟩ := F.d__law_blend
  exact ⟨f, fd, p__law_blend, hm, D.kp, D.bindsN (fun _ _ _ _ _ _ us hl => match us, hl with | [_], _ => rfl), rfl, fn_ok D sc__law_blend (fun cdv A outer s H E hr => (b_cons (b_set (i := 1) (ps_set sc__law_blend.nd rfl (Or.inl rfl) (e_bin op_addA (oAddK F.ok F.hK) (e_dg F.ok (hu1 hr) (e_var (pe_var (i := 0) rfl (.inl rfl))) e_str) e_int)))
    (b_cons (b_dput F.ok (hu1 hr) (e_var (pe_var (i := 0) rfl (.inl rfl))) e_str (e_var (pe_var (i := 1) rfl (.inl rfl))))
    (b_cons (b_set (i := 2) (ps_set sc__law_blend.nd rfl (Or.inl rfl) e_int))
    (b_cons (b_for (passes_of rfl) rfl (pi_any (e_lst (a_cons e_int (a_cons e_int (a_cons e_int (a_cons e_int a_nil)))))) (iAnyK F.ok F.hK) (gN_noX _) (g_name (pg_name (i := 3) sc__law_blend.nd rfl (Or.inl rfl)))
    (b_cons (b_set (i := 4) (ps_set sc__law_blend.nd rfl (Or.inl rfl) (e_bin op_mod (oMod_ok F.ok) (e_callTy (call_intA) (bIntK F.ok F.hK) rfl F.n_int (by decide +kernel) (a_cons (e_bin op_addA (oAddK F.ok F.hK) (e_bin op_mulA (oMul_ok F.ok) (e_var (pe_var (i := 1) rfl (.inl rfl))) e_int) (e_bin op_fdivW (oDiv_ok F.ok) (e_var (pe_var (i := 3) rfl (.inl rfl))) e_int)) a_nil)) (e_var (pe_var (i := 3) rfl (.inl rfl))))))
    (b_cons (b_for (passes_of rfl) rfl (pi_any (e_dg F.ok (hu1 hr) (e_var (pe_var (i := 0) rfl (.inl rfl))) e_str)) (iAnyK F.ok F.hK) (gN_noX _) (g_name (pg_name (i := 5) sc__law_blend.nd rfl (Or.inl rfl)))
    (b_one (b_set (i := 4) (ps_set sc__law_blend.nd rfl (Or.inl rfl) (e_bin op_mod (oMod_ok F.ok) (e_callTy (call_intA) (bIntK F.ok F.hK) rfl F.n_int (by decide +kernel) (a_cons (e_bin op_addA (oAddK F.ok F.hK) (e_bin op_mulA (oMul_ok F.ok) (e_var (pe_var (i := 4) rfl (.inl rfl))) e_int) (e_var (pe_var (i := 5) rfl (.inl rfl)))) a_nil)) (e_var (pe_var (i := 3) rfl (.inl rfl))))))))
    (b_one (b_set (i := 2) (ps_set sc__law_blend.nd rfl (Or.inl rfl) (e_bin op_addA (oAddK F.ok F.hK) (e_bin op_mulA (oMul_ok F.ok) (e_var (pe_var (i := 2) rfl (.inl rfl))) e_int) (e_bin op_mod (oMod_ok F.ok) (e_callTy (call_intA) (bIntK F.ok F.hK) rfl F.n_int (by decide +kernel) (a_cons (e_bin op_pow (oPow_ok F.ok) (e_var (pe_var (i := 4) rfl (.inl rfl))) e_int) a_nil)) (e_var (pe_var (i := 3) rfl (.inl rfl)))))))))))
    (b_one (b_ret (e_var (pe_var (i := 2) rfl (.inl rfl))))))))))⟩
/-! ### _law_take -/
abbrev p__law_take : List Str := ["_law_draw", "_law_many"]
theorem sc__law_take : FnScope n__law_take p__law_take (defScope (top 66)) := ⟨rfl, rfl, rfl, by decide +kernel, rfl, by decide +kernel, by decide +kernel⟩
theorem ok__law_take (F : Fx P w K mg base G) : FnI P w K mg base G 2 "_law_take" 2 f__law_take := by
  obtain ⟨f, fd, hm, D⟩ := F.d__law_take
  exact ⟨f, fd, p__law_take, hm, D.kp, D.bindsN (fun _ _ _ _ _ _ us hl => match us, hl with | [_, _], _ => rfl), rfl, fn_ok D sc__law_take (fun cdv A outer s H E hr => (b_cons (b_if (PW.pt (t_and (t_cmp F.ok (op_eqD (hu64 hr)) (oEqK F.ok F.hK) (e_dg F.ok (hu1 hr) (e_var (pe_var (i := 0) rfl (.inl rfl))) e_str) e_int (nomark _)) (t_and1 (t_cmp F.ok (op_neD (hu64 hr)) (oNeK F.ok F.hK) (e_dg F.ok (hu1 hr) (e_var (pe_var (i := 0) rfl (.inl rfl))) e_str) (e_lst a_nil) (nomark _)))))
    (b_one (b_dput F.ok (hu1 hr) (e_var (pe_var (i := 0) rfl (.inl rfl))) e_str (e_bm F.ok F.hK PySem.F.plainAttrs_list PySem.F.slot_list_pop PySem.F.type_list_pop mt_popA (tPopK F.ok F.hK) (e_dg F.ok (hu1 hr) (e_var (pe_var (i := 0) rfl (.inl rfl))) e_str) (a_cons e_int a_nil))))
    b_nil)
    (b_cons (b_if (t_cmp F.ok (op_eqD (hu64 hr)) (oEqK F.ok F.hK) (e_dg F.ok (hu1 hr) (e_var (pe_var (i := 0) rfl (.inl rfl))) e_str) e_int (nomark _))
    (b_one (b_dput F.ok (hu1 hr) (e_var (pe_var (i := 0) rfl (.inl rfl))) e_str (e_call (ok__law_blend F) (hr.mono (by decide)) (takes_of rfl rfl rfl rfl) rfl (a_cons (e_var (pe_var (i := 0) rfl (.inl rfl))) a_nil))))
    b_nil)
    (b_cons (b_set (i := 2) (ps_set sc__law_take.nd rfl (Or.inl rfl) (e_bin op_mod (oMod_ok F.ok) (e_callTy (call_intA) (bIntK F.ok F.hK) rfl F.n_int (by decide +kernel) (a_cons (e_dg F.ok (hu1 hr) (e_var (pe_var (i := 0) rfl (.inl rfl))) e_str) a_nil)) (e_var (pe_var (i := 1) rfl (.inl rfl))))))
    (b_cons (b_dput F.ok (hu1 hr) (e_var (pe_var (i := 0) rfl (.inl rfl))) e_str (e_bin op_fdivW (oDiv_ok F.ok) (e_dg F.ok (hu1 hr) (e_var (pe_var (i := 0) rfl (.inl rfl))) e_str) (e_var (pe_var (i := 1) rfl (.inl rfl)))))
    (b_one (b_ret (e_var (pe_var (i := 2) rfl (.inl rfl))))))))))⟩
/-! ### _law_pick -/
abbrev p__law_pick : List Str := ["_law_draw", "_law_some"]
theorem sc__law_pick : FnScope n__law_pick p__law_pick (defScope (top 67)) := ⟨rfl, rfl, rfl, by decide +kernel, rfl, by decide +kernel, by decide +kernel⟩
theorem ok__law_pick (F : Fx P w K mg base G) : FnI P w K mg base G 3 "_law_pick" 2 f__law_pick := by
  obtain ⟨f, fd, hm, D⟩ := F.d__law_pick
  exact ⟨f, fd, p__law_pick, hm, D.kp, D.bindsN (fun _ _ _ _ _ _ us hl => match us, hl with | [_, _], _ => rfl), rfl, fn_ok D sc__law_pick (fun cdv A outer s H E hr => (b_one (b_ret (e_ix F.ok F.hK (e_var (pe_var (i := 1) rfl (.inl rfl))) (e_call (ok__law_take F) (hr.mono (by decide)) (takes_of rfl rfl rfl rfl) rfl (a_cons (e_var (pe_var (i := 0) rfl (.inl rfl))) (a_cons (e_callB (call_lenA) (bLenK F.ok F.hK) rfl F.n_len (by decide +kernel) (a_cons (e_var (pe_var (i := 1) rfl (.inl rfl))) a_nil)) a_nil)))))))⟩
/-! ### _law_words -/
abbrev p__law_words : List Str := ["_law_draw", "_law_count"]
theorem sc__law_words : FnScope n__law_words p__law_words (defScope (top 68)) := ⟨rfl, rfl, rfl, by decide +kernel, rfl, by decide +kernel, by decide +kernel⟩
theorem ok__law_words (F : Fx P w K mg base G) : FnI P w K mg base G 4 "_law_words" 2 f__law_words := by
  obtain ⟨f, fd, hm, D⟩ := F.d__law_words
  exact ⟨f, fd, p__law_words, hm, D.kp, D.bindsN (fun _ _ _ _ _ _ us hl => match us, hl with | [_, _], _ => rfl), rfl, fn_gc F.ok (fn_ok D sc__law_words (fun cdv A outer s H E hr => (b_cons (b_asg (gTup_noX (gCons_noX (gN_noX _) (gCons_noX (gN_noX _) gNil_noX))) (e_tup (a_cons e_str (a_cons (e_lstC a_nil) a_nil))) (g_tup F.ok F.hK (pg_tup rfl (gs_cons (gN_noX _) (g_name (pg_name (i := 2) sc__law_words.nd rfl (Or.inr rfl) (Or.inl rfl))) (gs_cons (gN_noX _) (g_name (pg_name (i := 3) sc__law_words.nd rfl (Or.inr rfl) (Or.inl rfl))) gs_nil)))))
    (b_cons (b_set (i := 4) (ps_set sc__law_words.nd rfl (Or.inl rfl) (e_lst (a_cons e_str (a_cons e_str (a_cons e_str (a_cons e_str (a_cons e_str (a_cons e_str (a_cons e_str (a_cons e_str (a_cons e_str (a_cons e_str a_nil)))))))))))))
    (b_cons (b_for (passes_of rfl) rfl (pi_range1 rfl F.n_range (a_cons (e_var (pe_var (i := 1) rfl (.inl rfl))) a_nil)) (rng1_ok F.ok) (gN_noX _) (g_name (pg_name (i := 5) sc__law_words.nd rfl (Or.inl rfl)))
    (b_cons (b_set (i := 6) (ps_set sc__law_words.nd rfl (Or.inr rfl) (e_call (ok__law_pick F) (hr.mono (by decide)) (takes_of rfl rfl rfl rfl) rfl (a_cons (e_var (pe_var (i := 0) rfl (.inr (.inl rfl)))) (a_cons (e_var (pe_var (i := 4) rfl (.inl rfl))) a_nil)))))
    (b_cons (b_if (t_cmp F.ok (op_gtA) (oGtK F.ok F.hK) (e_call (ok__law_take F) (hr.mono (by decide)) (takes_of rfl rfl rfl rfl) rfl (a_cons (e_var (pe_var (i := 0) rfl (.inr (.inl rfl)))) (a_cons e_int a_nil))) e_int (nomark _))
    (b_cons (b_set (i := 7) (ps_set sc__law_words.nd rfl (Or.inl rfl) (e_bin op_addA (oAddK F.ok F.hK) e_int (e_call (ok__law_take F) (hr.mono (by decide)) (takes_of rfl rfl rfl rfl) rfl (a_cons (e_var (pe_var (i := 0) rfl (.inr (.inl rfl)))) (a_cons (e_call (ok__law_pick F) (hr.mono (by decide)) (takes_of rfl rfl rfl rfl) rfl (a_cons (e_var (pe_var (i := 0) rfl (.inr (.inl rfl)))) (a_cons (e_lst (a_cons e_int (a_cons e_int (a_cons e_int a_nil)))) a_nil))) a_nil))))))
    (b_one (b_set (i := 6) (ps_set sc__law_words.nd rfl (Or.inr rfl) (e_bm F.ok F.hK PySem.F.plainAttrs_str PySem.F.slot_str_join PySem.F.type_str_join mt_join (tJoinK F.ok F.hK) e_str (a_cons (e_lc (own := [(("_law_j" : Str), 9)]) rfl sc__law_words.nd (pi_range1 rfl F.n_range (a_cons (e_var (pe_var (i := 7) rfl (.inl rfl))) a_nil)) (rng1_ok F.ok) (blkOk_by (N := n__law_words) (sc := defScope (top 68)) (own := [(("_law_j" : Str), 9)]) (by decide +kernel)) (gN_noX _) (fun _ _ _ _ _ => (g_name (pg_name (i := 9) sc__law_words.nd rfl (Or.inl rfl)))) (fun _ _ _ _ _ => ts_nil) (fun _ _ _ _ _ => (e_call (ok__law_pick F) (hr.mono (by decide)) takes0 rfl (a_cons (e_var (pe_var (i := 0) rfl (.inr (.inl rfl)))) (a_cons (e_var (pe_var (i := 2) rfl (.inr (.inl rfl)))) a_nil))))) a_nil))))))
    b_nil)
    (b_cons (b_set (i := 8) (ps_set sc__law_words.nd rfl (Or.inl rfl) (e_bin op_addA (oAddK F.ok F.hK) (e_lst (a_cons (e_var (pe_var (i := 6) rfl (.inr (.inl rfl)))) a_nil)) (e_lc (own := [(("_law_letter" : Str), 10)]) rfl sc__law_words.nd (pi_any (e_var (pe_var (i := 2) rfl (.inr (.inl rfl))))) (iAnyK F.ok F.hK) (blkOk_by (N := n__law_words) (sc := defScope (top 68)) (own := [(("_law_letter" : Str), 10)]) (by decide +kernel)) (gN_noX _) (fun _ _ _ _ _ => (g_name (pg_name (i := 10) sc__law_words.nd rfl (Or.inl rfl)))) (fun _ _ _ _ _ => ts_nil) (fun _ _ _ _ _ => (e_bin op_addA (oAddK F.ok F.hK) (e_sl F.hK (oSl_ok F.ok) (e_var (pe_var (i := 6) rfl (.inr (.inl rfl)))) o_none (o_some F.ok e_int)) (e_var (pe_var (i := 10) rfl (.inl rfl)))))))))
    (b_one (b_expr (e_bm F.ok F.hK PySem.F.plainAttrs_list PySem.F.slot_list_append PySem.F.type_list_append mt_append (tAppendK F.ok F.hK) (e_var (pe_var (i := 3) rfl (.inr (.inl rfl)))) (a_cons (e_ix F.ok F.hK (e_lc (own := [(("_law_uno" : Str), 11)]) rfl sc__law_words.nd (pi_any (e_var (pe_var (i := 8) rfl (.inl rfl)))) (iAnyK F.ok F.hK) (blkOk_by (N := n__law_words) (sc := defScope (top 68)) (own := [(("_law_uno" : Str), 11)]) (by decide +kernel)) (gN_noX _) (fun _ _ _ _ _ => (g_name (pg_name (i := 11) sc__law_words.nd rfl (Or.inl rfl)))) (fun _ _ _ _ _ => (ts_one (t_cmp F.ok (op_ninA (hu65 hr)) (oNinK F.ok F.hK) (e_var (pe_var (i := 11) rfl (.inl rfl))) (e_var (pe_var (i := 3) rfl (.inr (.inl rfl)))) rfl))) (fun _ _ _ _ _ => (e_var (pe_var (i := 11) rfl (.inl rfl))))) e_int) a_nil))))))))
    (b_one (b_ret (e_var (pe_var (i := 3) rfl (.inr (.inl rfl)))))))))))⟩
/-! ### _law_towns -/
abbrev p__law_towns : List Str := ["_law_draw", "_law_most"]
theorem sc__law_towns : FnScope n__law_towns p__law_towns (defScope (top 69)) := ⟨rfl, rfl, rfl, by decide +kernel, rfl, by decide +kernel, by decide +kernel⟩
theorem ok__law_towns (F : Fx P w K mg base G) : FnI P w K mg base G 5 "_law_towns" 2 f__law_towns := by
  obtain ⟨f, fd, hm, D⟩ := F.d__law_towns
  exact ⟨f, fd, p__law_towns, hm, D.kp, D.bindsN (fun _ _ _ _ _ _ us hl => match us, hl with | [_, _], _ => rfl), rfl, fn_ok D sc__law_towns (fun cdv A outer s H E hr => (b_one (b_ret (e_call (ok__law_words F) (hr.mono (by decide)) (takes_of rfl rfl rfl rfl) rfl (a_cons (e_var (pe_var (i := 0) rfl (.inl rfl))) (a_cons (e_bin op_addA (oAddK F.ok F.hK) e_int (e_call (ok__law_take F) (hr.mono (by decide)) (takes_of rfl rfl rfl rfl) rfl (a_cons (e_var (pe_var (i := 0) rfl (.inl rfl))) (a_cons (e_bin op_sub (oSub_ok F.ok) (e_var (pe_var (i := 1) rfl (.inl rfl))) e_int) a_nil)))) a_nil))))))⟩
/-! ### _law_point -/
abbrev p__law_point : List Str := ["_law_draw", "_law_names", "_law_deep"]
theorem sc__law_point : FnScope n__law_point p__law_point (defScope (top 70)) := ⟨rfl, rfl, rfl, by decide +kernel, rfl, by decide +kernel, by decide +kernel⟩
theorem ok__law_point (F : Fx P w K mg base G) : ∀ d, FnI P w K mg base G (4 + d) "_law_point" 3 (f__law_point d)
  | 0 => by
    obtain ⟨f, fd, hm, D⟩ := F.d__law_point
    exact ⟨f, fd, p__law_point, hm, D.kp, D.bindsN (fun _ _ _ _ _ _ us hl => match us, hl with | [_, _, _], _ => rfl), rfl, fn_ok D sc__law_point (fun cdv A outer s H E hr => bs_stuck)⟩
  | d + 1 => by
    obtain ⟨f, fd, hm, D⟩ := F.d__law_point
    have ih := ok__law_point F d
    have e : 4 + (d + 1) = (3 + d + 1) + 1 := by omega
    rw [e]
    exact ⟨f, fd, p__law_point, hm, D.kp, D.bindsN (fun _ _ _ _ _ _ us hl => match us, hl with | [_, _, _], _ => rfl), rfl, fn_ok D sc__law_point (fun cdv A outer s H E hr => (b_cons (b_if (PW.pt (t_or (t_cmp F.ok (op_eqD (hu64 hr)) (oEqK F.ok F.hK) (e_var (pe_var (i := 2) rfl (.inr (.inl rfl)))) e_int (nomark _)) (t_or1 (t_cmp F.ok (op_eqD (hu64 hr)) (oEqK F.ok F.hK) (e_call (ok__law_take F) (hr.mono (by omega)) (takes_of rfl rfl rfl rfl) rfl (a_cons (e_var (pe_var (i := 0) rfl (.inr (.inl rfl)))) (a_cons e_int a_nil))) e_int (nomark _)))))
    (b_one (b_ret (e_call (ok__law_pick F) (hr.mono (by omega)) (takes_of rfl rfl rfl rfl) rfl (a_cons (e_var (pe_var (i := 0) rfl (.inr (.inl rfl)))) (a_cons (e_var (pe_var (i := 1) rfl (.inr (.inl rfl)))) a_nil)))))
    b_nil)
    (b_one (b_ret (e_bin op_addA (oAddK F.ok F.hK) (e_tup (a_cons e_str a_nil)) (e_callTy (call_tuple_of) (bTupleK F.ok F.hK) rfl F.n_tuple (by decide +kernel) (a_cons (e_lc (own := [(("_law_k" : Str), 3)]) rfl sc__law_point.nd (pi_range1 rfl F.n_range (a_cons e_int a_nil)) (rng1_ok F.ok) (blkOk_by (N := n__law_point) (sc := defScope (top 70)) (own := [(("_law_k" : Str), 3)]) (by decide +kernel)) (gN_noX _) (fun _ _ _ _ _ => (g_name (pg_name (i := 3) sc__law_point.nd rfl (Or.inl rfl)))) (fun _ _ _ _ _ => ts_nil) (fun _ _ _ _ _ => (e_call ih (hr.mono (by omega)) takes0 rfl (a_cons (e_var (pe_var (i := 0) rfl (.inr (.inl rfl)))) (a_cons (e_var (pe_var (i := 1) rfl (.inr (.inl rfl)))) (a_cons (e_bin op_sub (oSub_ok F.ok) (e_var (pe_var (i := 2) rfl (.inr (.inl rfl)))) e_int) a_nil)))))) a_nil)))))))⟩
/-! ### _law_sum -/
abbrev p__law_sum : List Str := ["_law_draw", "_law_names", "_law_most", "_law_deep", "_law_top"]
theorem sc__law_sum : FnScope n__law_sum p__law_sum (defScope (top 71)) := ⟨rfl, rfl, rfl, by decide +kernel, rfl, by decide +kernel, by decide +kernel⟩
theorem ok__law_sum (F : Fx P w K mg base G) : FnI P w K mg base G 13 "_law_sum" 5 f__law_sum := by
  obtain ⟨f, fd, hm, D⟩ := F.d__law_sum
  exact ⟨f, fd, p__law_sum, hm, D.kp, D.bindsN (fun _ _ _ _ _ _ us hl => match us, hl with | [_, _, _, _, _], _ => rfl), rfl, fn_gc F.ok (fn_ok D sc__law_sum (fun cdv A outer s H E hr => (b_cons (b_set (i := 5) (ps_set sc__law_sum.nd rfl (Or.inl rfl) (e_lstC a_nil)))
    (b_cons (b_for (passes_of rfl) rfl (pi_range1 rfl F.n_range (a_cons (e_call (ok__law_take F) (hr.mono (by decide)) (takes_of rfl rfl rfl rfl) rfl (a_cons (e_var (pe_var (i := 0) rfl (.inl rfl))) (a_cons (e_bin op_addA (oAddK F.ok F.hK) (e_var (pe_var (i := 2) rfl (.inl rfl))) e_int) a_nil))) a_nil)) (rng1_ok F.ok) (gN_noX _) (g_name (pg_name (i := 6) sc__law_sum.nd rfl (Or.inl rfl)))
    (b_cons (b_set (i := 7) (ps_set sc__law_sum.nd rfl (Or.inl rfl) (e_call (ok__law_pick F) (hr.mono (by decide)) (takes_of rfl rfl rfl rfl) rfl (a_cons (e_var (pe_var (i := 0) rfl (.inl rfl))) (a_cons (e_lst (a_cons e_int (a_cons (e_bin op_addA (oAddK F.ok F.hK) e_int (e_call (ok__law_take F) (hr.mono (by decide)) (takes_of rfl rfl rfl rfl) rfl (a_cons (e_var (pe_var (i := 0) rfl (.inl rfl))) (a_cons (e_var (pe_var (i := 4) rfl (.inl rfl))) a_nil)))) a_nil))) a_nil)))))
    (b_one (b_expr (e_bm F.ok F.hK PySem.F.plainAttrs_list PySem.F.slot_list_append PySem.F.type_list_append mt_append (tAppendK F.ok F.hK) (e_var (pe_var (i := 5) rfl (.inl rfl))) (a_cons (e_tup (a_cons (e_var (pe_var (i := 7) rfl (.inl rfl))) (a_cons (e_call (ok__law_point F 8) (hr.mono (by decide)) (takes_of rfl rfl rfl rfl) rfl (a_cons (e_var (pe_var (i := 0) rfl (.inl rfl))) (a_cons (e_var (pe_var (i := 1) rfl (.inl rfl))) (a_cons (e_var (pe_var (i := 3) rfl (.inl rfl))) a_nil)))) (a_cons (e_call (ok__law_point F 8) (hr.mono (by decide)) (takes_of rfl rfl rfl rfl) rfl (a_cons (e_var (pe_var (i := 0) rfl (.inl rfl))) (a_cons (e_var (pe_var (i := 1) rfl (.inl rfl))) (a_cons (e_var (pe_var (i := 3) rfl (.inl rfl))) a_nil)))) a_nil)))) a_nil))))))
    (b_one (b_ret (e_callTy (call_tuple_of) (bTupleK F.ok F.hK) rfl F.n_tuple (by decide +kernel) (a_cons (e_var (pe_var (i := 5) rfl (.inl rfl))) a_nil))))))))⟩
/-! ### _law_claim -/
abbrev p__law_claim : List Str := ["_law_draw", "_law_names", "_law_most", "_law_deep", "_law_top"]
theorem sc__law_claim : FnScope n__law_claim p__law_claim (defScope (top 72)) := ⟨rfl, rfl, rfl, by decide +kernel, rfl, by decide +kernel, by decide +kernel⟩
theorem ok__law_claim (F : Fx P w K mg base G) : FnI P w K mg base G 14 "_law_claim" 5 f__law_claim := by
  obtain ⟨f, fd, hm, D⟩ := F.d__law_claim
  exact ⟨f, fd, p__law_claim, hm, D.kp, D.bindsN (fun _ _ _ _ _ _ us hl => match us, hl with | [_, _, _, _, _], _ => rfl), rfl, fn_ok D sc__law_claim (fun cdv A outer s H E hr => (b_cons (b_set (i := 5) (ps_set sc__law_claim.nd rfl (Or.inl rfl) (e_call (ok__law_pick F) (hr.mono (by decide)) (takes_of rfl rfl rfl rfl) rfl (a_cons (e_var (pe_var (i := 0) rfl (.inl rfl))) (a_cons (e_lst (a_cons e_str (a_cons e_str (a_cons e_str (a_cons e_str a_nil))))) a_nil)))))
    (b_one (b_ret (e_tup (a_cons (e_var (pe_var (i := 5) rfl (.inl rfl))) (a_cons (e_call (ok__law_sum F) (hr.mono (by decide)) (takes_of rfl rfl rfl rfl) rfl (a_cons (e_var (pe_var (i := 0) rfl (.inl rfl))) (a_cons (e_var (pe_var (i := 1) rfl (.inl rfl))) (a_cons (e_var (pe_var (i := 2) rfl (.inl rfl))) (a_cons (e_var (pe_var (i := 3) rfl (.inl rfl))) (a_cons (e_var (pe_var (i := 4) rfl (.inl rfl))) a_nil)))))) (a_cons (e_call (ok__law_sum F) (hr.mono (by decide)) (takes_of rfl rfl rfl rfl) rfl (a_cons (e_var (pe_var (i := 0) rfl (.inl rfl))) (a_cons (e_var (pe_var (i := 1) rfl (.inl rfl))) (a_cons (e_var (pe_var (i := 2) rfl (.inl rfl))) (a_cons (e_var (pe_var (i := 3) rfl (.inl rfl))) (a_cons (e_var (pe_var (i := 4) rfl (.inl rfl))) a_nil)))))) a_nil))))))))⟩
/-! ### _law_near_facts -/
abbrev p__law_near_facts : List Str := ["_law_draw", "_law_names"]
theorem sc__law_near_facts : FnScope n__law_near_facts p__law_near_facts (defScope (top 73)) := ⟨rfl, rfl, rfl, by decide +kernel, rfl, by decide +kernel, by decide +kernel⟩
theorem ok__law_near_facts (F : Fx P w K mg base G) : FnI P w K mg base G 15 "_law_near_facts" 2 f__law_near_facts := by
  obtain ⟨f, fd, hm, D⟩ := F.d__law_near_facts
  exact ⟨f, fd, p__law_near_facts, hm, D.kp, D.bindsN (fun _ _ _ _ _ _ us hl => match us, hl with | [_, _], _ => rfl), rfl, fn_gc F.ok (fn_ok D sc__law_near_facts (fun cdv A outer s H E hr => (b_cons (b_set (i := 2) (ps_set sc__law_near_facts.nd rfl (Or.inl rfl) (e_lstC a_nil)))
    (b_cons (b_for (passes_of rfl) rfl (pi_range1 rfl F.n_range (a_cons (e_call (ok__law_take F) (hr.mono (by decide)) (takes_of rfl rfl rfl rfl) rfl (a_cons (e_var (pe_var (i := 0) rfl (.inr (.inl rfl)))) (a_cons e_int a_nil))) a_nil)) (rng1_ok F.ok) (gN_noX _) (g_name (pg_name (i := 3) sc__law_near_facts.nd rfl (Or.inl rfl)))
    (b_cons (b_asg (gLst_noX (gCons_noX (gN_noX _) (gCons_noX (gN_noX _) (gCons_noX (gN_noX _) gNil_noX)))) (e_lc (own := [(("_law_j" : Str), 11)]) rfl sc__law_near_facts.nd (pi_range1 rfl F.n_range (a_cons e_int a_nil)) (rng1_ok F.ok) (blkOk_by (N := n__law_near_facts) (sc := defScope (top 73)) (own := [(("_law_j" : Str), 11)]) (by decide +kernel)) (gN_noX _) (fun _ _ _ _ _ => (g_name (pg_name (i := 11) sc__law_near_facts.nd rfl (Or.inl rfl)))) (fun _ _ _ _ _ => ts_nil) (fun _ _ _ _ _ => (e_call (ok__law_pick F) (hr.mono (by decide)) takes0 rfl (a_cons (e_var (pe_var (i := 0) rfl (.inr (.inl rfl)))) (a_cons (e_var (pe_var (i := 1) rfl (.inr (.inl rfl)))) a_nil))))) (g_lst F.ok F.hK (pg_lst rfl (gs_cons (gN_noX _) (g_name (pg_name (i := 4) sc__law_near_facts.nd rfl (Or.inl rfl))) (gs_cons (gN_noX _) (g_name (pg_name (i := 5) sc__law_near_facts.nd rfl (Or.inl rfl))) (gs_cons (gN_noX _) (g_name (pg_name (i := 6) sc__law_near_facts.nd rfl (Or.inl rfl))) gs_nil))))))
    (b_cons (b_par2 (i := 7) (j := 8) rfl sc__law_near_facts.nd rfl rfl (by decide) rfl rfl (a_cons (e_tup (a_cons (e_tup (a_cons e_int (a_cons (e_var (pe_var (i := 4) rfl (.inl rfl))) (a_cons (e_var (pe_var (i := 5) rfl (.inl rfl))) a_nil)))) a_nil)) (a_cons (e_tup (a_cons (e_tup (a_cons e_int (a_cons (e_var (pe_var (i := 5) rfl (.inl rfl))) (a_cons (e_var (pe_var (i := 6) rfl (.inl rfl))) a_nil)))) a_nil)) a_nil)))
    (b_cons (b_set (i := 9) (ps_set sc__law_near_facts.nd rfl (Or.inl rfl) (e_call (ok__law_claim F) (hr.mono (by decide)) (takes_of rfl rfl rfl rfl) rfl (a_cons (e_var (pe_var (i := 0) rfl (.inr (.inl rfl)))) (a_cons (e_var (pe_var (i := 1) rfl (.inr (.inl rfl)))) (a_cons e_int (a_cons e_int (a_cons e_int a_nil))))))))
    (b_cons (b_set (i := 10) (ps_set sc__law_near_facts.nd rfl (Or.inl rfl) (e_lst (a_cons (e_tup (a_cons e_str (a_cons (e_var (pe_var (i := 7) rfl (.inl rfl))) (a_cons (e_var (pe_var (i := 8) rfl (.inl rfl))) a_nil)))) (a_cons (e_tup (a_cons e_str (a_cons (e_var (pe_var (i := 7) rfl (.inl rfl))) (a_cons (e_var (pe_var (i := 8) rfl (.inl rfl))) a_nil)))) (a_cons (e_tup (a_cons e_str (a_cons (e_var (pe_var (i := 7) rfl (.inl rfl))) (a_cons (e_var (pe_var (i := 8) rfl (.inl rfl))) a_nil)))) (a_cons (e_tup (a_cons e_str (a_cons (e_var (pe_var (i := 7) rfl (.inl rfl))) (a_cons (e_tup a_nil) a_nil)))) (a_cons (e_var (pe_var (i := 9) rfl (.inl rfl))) a_nil))))))))
    (b_one (b_expr (e_bm F.ok F.hK PySem.F.plainAttrs_list PySem.F.slot_list_append PySem.F.type_list_append mt_append (tAppendK F.ok F.hK) (e_var (pe_var (i := 2) rfl (.inl rfl))) (a_cons (e_call (ok__law_pick F) (hr.mono (by decide)) (takes_of rfl rfl rfl rfl) rfl (a_cons (e_var (pe_var (i := 0) rfl (.inr (.inl rfl)))) (a_cons (e_var (pe_var (i := 10) rfl (.inl rfl))) a_nil))) a_nil)))))))))
    (b_one (b_ret (e_var (pe_var (i := 2) rfl (.inl rfl)))))))))⟩
/-! ### Book.__init__ -/
abbrev p_Book_init : List Str := ["self", "places", "facts"]
theorem sc_Book_init : FnScope n_Book_init p_Book_init (defScope (inClass (top 40) 0)) := ⟨rfl, rfl, rfl, by decide +kernel, rfl, by decide +kernel, by decide +kernel⟩
theorem ok_Book_init (F : Fx P w K mg base G) : MakI P w K mg base G 14 "Book" 2 f_Book_init := by
  obtain ⟨c, f, fd, hC, hm, hk, D⟩ := F.i_Book
  exact ⟨c, f, fd, p_Book_init, hC, hm, hk, D.bindsN (fun _ _ _ _ _ _ us hl => match us, hl with | [_, _, _], _ => rfl), rfl, fn_ok D sc_Book_init (fun cdv A outer s H E hr => (b_cons (b_set (i := 3) (ps_set sc_Book_init.nd rfl (Or.inl rfl) (e_call (ok_need_places F) (hr.mono (by decide)) (takes_of rfl rfl rfl rfl) rfl (a_cons (e_var (pe_var (i := 1) rfl (.inl rfl))) a_nil))))
    (b_cons (b_expr (e_call (ok_need_claims F) (hr.mono (by decide)) (takes_of rfl rfl rfl rfl) rfl (a_cons (e_var (pe_var (i := 3) rfl (.inl rfl))) (a_cons (e_var (pe_var (i := 2) rfl (.inl rfl))) (a_cons (e_glob F.g_MOST_FACTS rfl) a_nil)))))
    (b_cons (b_fld F.ok F.a_Book_own_places (e_var (pe_var (i := 0) rfl (.inl rfl))) (e_var (pe_var (i := 3) rfl (.inl rfl))))
    (b_one (b_fld F.ok F.a_Book_own_facts (e_var (pe_var (i := 0) rfl (.inl rfl))) (e_callTy (call_tuple_of) (bTupleK F.ok F.hK) rfl F.n_tuple (by decide +kernel) (a_cons (e_var (pe_var (i := 2) rfl (.inl rfl))) a_nil))))))))⟩
/-! ### _law_most_left -/
abbrev p__law_most_left : List Str := ["_law_names", "_law_facts", "_law_sums"]
theorem sc__law_most_left : FnScope n__law_most_left p__law_most_left (defScope (top 74)) := ⟨rfl, rfl, rfl, by decide +kernel, rfl, by decide +kernel, by decide +kernel⟩
theorem ok__law_most_left (F : Fx P w K mg base G) : FnI P w K mg base G 17 "_law_most_left" 3 f__law_most_left := by
  obtain ⟨f, fd, hm, D⟩ := F.d__law_most_left
  exact ⟨f, fd, p__law_most_left, hm, D.kp, D.bindsN (fun _ _ _ _ _ _ us hl => match us, hl with | [_, _, _], _ => rfl), rfl, fn_gc F.ok (fn_ok D sc__law_most_left (fun cdv A outer s H E hr => (b_cons (b_set (i := 3) (ps_set sc__law_most_left.nd rfl (Or.inl rfl) (e_lstC a_nil)))
    (b_cons (b_for (passes_of rfl) rfl (pi_any (e_lst (a_cons (e_tup (a_cons e_str (a_cons (e_ix F.ok F.hK (e_var (pe_var (i := 2) rfl (.inl rfl))) e_int) (a_cons (e_ix F.ok F.hK (e_var (pe_var (i := 2) rfl (.inl rfl))) e_int) a_nil)))) (a_cons (e_tup (a_cons e_str (a_cons (e_ix F.ok F.hK (e_var (pe_var (i := 2) rfl (.inl rfl))) e_int) (a_cons (e_ix F.ok F.hK (e_var (pe_var (i := 2) rfl (.inl rfl))) e_int) a_nil)))) (a_cons (e_tup (a_cons e_str (a_cons (e_ix F.ok F.hK (e_var (pe_var (i := 2) rfl (.inl rfl))) e_int) (a_cons (e_ix F.ok F.hK (e_var (pe_var (i := 2) rfl (.inl rfl))) e_int) a_nil)))) a_nil))))) (iAnyK F.ok F.hK) (gN_noX _) (g_name (pg_name (i := 4) sc__law_most_left.nd rfl (Or.inl rfl)))
    (b_one (b_expr (e_bm F.ok F.hK PySem.F.plainAttrs_list PySem.F.slot_list_append PySem.F.type_list_append mt_append (tAppendK F.ok F.hK) (e_var (pe_var (i := 3) rfl (.inl rfl))) (a_cons (e_callB (call_lenA) (bLenK F.ok F.hK) rfl F.n_len (by decide +kernel) (a_cons (e_call (ok_lots_left F) (hr.mono (by decide)) (takes_of rfl rfl rfl rfl) rfl (a_cons (e_makeF F.ok (ok_Book_init F) (hr.mono (by decide)) (takes_of rfl rfl rfl rfl) rfl (a_cons (e_var (pe_var (i := 0) rfl (.inl rfl))) (a_cons (e_bin op_addA (oAddK F.ok F.hK) (e_var (pe_var (i := 1) rfl (.inl rfl))) (e_lst (a_cons (e_var (pe_var (i := 4) rfl (.inl rfl))) a_nil))) a_nil))) a_nil)) a_nil)) a_nil)))))
    (b_one (b_ret (e_callB (call_maxA rfl) (bMaxK F.ok F.hK) rfl F.n_max (by decide +kernel) (a_cons (e_var (pe_var (i := 3) rfl (.inl rfl))) a_nil))))))))⟩
/-! ### law -/
abbrev p_law : List Str := ["_law_script"]
theorem sc_law : FnScope n_law p_law (defScope (top 75)) := ⟨rfl, rfl, rfl, by decide +kernel, rfl, by decide +kernel, by decide +kernel⟩
theorem okf_law (F : Fx P w K mg base G) {f : Addr} {fd : FuncData} (D : FunD K "law" "law" (defArgs (top 75)) (defBody (top 75)) (defScope (top 75)) [] [] f fd) : FnOk P w K mg base (L2.CX P w) 18 f fd p_law (spM G 1 f_law) := fn_gc F.ok (fn_ok D sc_law (fun cdv A outer s H E hr => (b_cons (b_set (i := 1) (ps_set sc_law.nd rfl (Or.inl rfl) (e_call (ok__law_begin F) (hr.mono (by decide)) (takes_of rfl rfl rfl rfl) rfl (a_cons (e_var (pe_var (i := 0) rfl (.inl rfl))) a_nil))))
    (b_cons (b_for (passes_of rfl) rfl (pi_range1 rfl F.n_range (a_cons (e_bin op_addA (oAddK F.ok F.hK) e_int (e_callB (call_minA rfl) (bMinK F.ok F.hK) rfl F.n_min (by decide +kernel) (a_cons (e_callB (call_lenA) (bLenK F.ok F.hK) rfl F.n_len (by decide +kernel) (a_cons (e_var (pe_var (i := 0) rfl (.inl rfl))) a_nil)) (a_cons e_int a_nil)))) a_nil)) (rng1_ok F.ok) (gN_noX _) (g_name (pg_name (i := 2) sc_law.nd rfl (Or.inl rfl)))
    (b_cons (b_asg (gTup_noX (gCons_noX (gN_noX _) (gCons_noX (gN_noX _) (gCons_noX (gN_noX _) gNil_noX)))) (e_tup (a_cons (e_call (ok__law_towns F) (hr.mono (by decide)) (takes_of rfl rfl rfl rfl) rfl (a_cons (e_var (pe_var (i := 1) rfl (.inl rfl))) (a_cons (e_call (ok__law_pick F) (hr.mono (by decide)) (takes_of rfl rfl rfl rfl) rfl (a_cons (e_var (pe_var (i := 1) rfl (.inl rfl))) (a_cons (e_lst (a_cons e_int (a_cons e_int (a_cons e_int (a_cons e_int a_nil))))) a_nil))) a_nil))) (a_cons (e_lstC a_nil) (a_cons (e_lstC a_nil) a_nil)))) (g_tup F.ok F.hK (pg_tup rfl (gs_cons (gN_noX _) (g_name (pg_name (i := 3) sc_law.nd rfl (Or.inr rfl) (Or.inl rfl))) (gs_cons (gN_noX _) (g_name (pg_name (i := 4) sc_law.nd rfl (Or.inr rfl) (Or.inl rfl))) (gs_cons (gN_noX _) (g_name (pg_name (i := 5) sc_law.nd rfl (Or.inl rfl))) gs_nil))))))
    (b_cons (b_for (passes_of rfl) rfl (pi_any (e_call (ok__law_near_facts F) (hr.mono (by decide)) (takes_of rfl rfl rfl rfl) rfl (a_cons (e_var (pe_var (i := 1) rfl (.inl rfl))) (a_cons (e_var (pe_var (i := 3) rfl (.inr (.inl rfl)))) a_nil)))) (iAnyK F.ok F.hK) (gN_noX _) (g_name (pg_name (i := 6) sc_law.nd rfl (Or.inl rfl)))
    (b_one (b_expr (e_bm F.ok F.hK PySem.F.plainAttrs_list PySem.F.slot_list_append PySem.F.type_list_append mt_append (tAppendK F.ok F.hK) (e_var (pe_var (i := 4) rfl (.inr (.inl rfl)))) (a_cons (e_var (pe_var (i := 6) rfl (.inl rfl))) a_nil)))))
    (b_cons (b_for (passes_of rfl) rfl (pi_range1 rfl F.n_range (a_cons (e_bin op_addA (oAddK F.ok F.hK) e_int (e_call (ok__law_take F) (hr.mono (by decide)) (takes_of rfl rfl rfl rfl) rfl (a_cons (e_var (pe_var (i := 1) rfl (.inl rfl))) (a_cons e_int a_nil)))) a_nil)) (rng1_ok F.ok) (gN_noX _) (g_name (pg_name (i := 7) sc_law.nd rfl (Or.inl rfl)))
    (b_cons (b_set (i := 8) (ps_set sc_law.nd rfl (Or.inl rfl) (e_tup (a_cons (e_call (ok__law_sum F) (hr.mono (by decide)) (takes_of rfl rfl rfl rfl) rfl (a_cons (e_var (pe_var (i := 1) rfl (.inl rfl))) (a_cons (e_var (pe_var (i := 3) rfl (.inr (.inl rfl)))) (a_cons e_int (a_cons e_int (a_cons e_int a_nil)))))) (a_cons (e_call (ok__law_sum F) (hr.mono (by decide)) (takes_of rfl rfl rfl rfl) rfl (a_cons (e_var (pe_var (i := 1) rfl (.inl rfl))) (a_cons (e_var (pe_var (i := 3) rfl (.inr (.inl rfl)))) (a_cons e_int (a_cons e_int (a_cons e_int a_nil)))))) a_nil)))))
    (b_one (b_expr (e_bm F.ok F.hK PySem.F.plainAttrs_list PySem.F.slot_list_append PySem.F.type_list_append mt_append (tAppendK F.ok F.hK) (e_var (pe_var (i := 5) rfl (.inl rfl))) (a_cons (e_call (ok__law_pick F) (hr.mono (by decide)) (takes_of rfl rfl rfl rfl) rfl (a_cons (e_var (pe_var (i := 1) rfl (.inl rfl))) (a_cons (e_bin op_addA (oAddK F.ok F.hK) (e_lst (a_cons (e_var (pe_var (i := 8) rfl (.inl rfl))) (a_cons (e_var (pe_var (i := 8) rfl (.inl rfl))) (a_cons (e_var (pe_var (i := 8) rfl (.inl rfl))) a_nil)))) (e_var (pe_var (i := 5) rfl (.inl rfl)))) a_nil))) a_nil))))))
    (b_cons (b_setLc (k := 9) (own := [(("_law_sums" : Str), 13)]) rfl sc_law.nd rfl rfl (sw_true rfl rfl rfl (by decide +kernel)) (pi_any (e_var (pe_var (i := 5) rfl (.inl rfl)))) (iAnyK F.ok F.hK) (blkOk_by (N := n_law) (sc := defScope (top 75)) (own := [(("_law_sums" : Str), 13)]) (by decide +kernel)) (gN_noX _) (fun _ _ _ _ _ => (g_name (pg_name (i := 13) sc_law.nd rfl (Or.inl rfl)))) (fun _ _ _ _ _ => ts_nil) (fun _ _ _ _ _ => (e_call (ok__law_most_left F) (hr.mono (by decide)) takes0 rfl (a_cons (e_var (pe_var (i := 3) rfl (.inr (.inl rfl)))) (a_cons (e_var (pe_var (i := 4) rfl (.inr (.inl rfl)))) (a_cons (e_var (pe_var (i := 13) rfl (.inl rfl))) a_nil))))))
    (b_cons (b_set (i := 10) (ps_set sc_law.nd rfl (Or.inl rfl) (e_bm F.ok F.hK PySem.F.plainAttrs_list PySem.F.slot_list_index PySem.F.type_list_index mt_index (tIndexK F.ok F.hK) (e_var (pe_var (i := 9) rfl (.inl rfl))) (a_cons (e_callB (call_minA rfl) (bMinK F.ok F.hK) rfl F.n_min (by decide +kernel) (a_cons (e_var (pe_var (i := 9) rfl (.inl rfl))) a_nil)) a_nil))))
    (b_cons (b_set (i := 11) (ps_set sc_law.nd rfl (Or.inl rfl) (e_makeF F.ok (ok_Book_init F) (hr.mono (by decide)) (takes_of rfl rfl rfl rfl) rfl (a_cons (e_var (pe_var (i := 3) rfl (.inr (.inl rfl)))) (a_cons (e_var (pe_var (i := 4) rfl (.inr (.inl rfl)))) a_nil)))))
    (b_cons (b_if (PW.pt (t_or (t_cmp F.ok (op_neD (hu64 hr)) (oNeK F.ok F.hK) (e_call (ok_best_asked F) (hr.mono (by decide)) (takes_of rfl rfl rfl rfl) rfl (a_cons (e_var (pe_var (i := 11) rfl (.inl rfl))) (a_cons (e_var (pe_var (i := 5) rfl (.inl rfl))) a_nil))) (e_var (pe_var (i := 10) rfl (.inl rfl))) (nomark _)) (t_or1 (t_cmp F.ok (op_neD (hu64 hr)) (oNeK F.ok F.hK) (e_callKw (kw_best_asked F) (hr.mono (by decide)) (takes_of rfl rfl rfl rfl) rfl (pk_cons' (e_callTy (call_tuple_of) (bTupleK F.ok F.hK) rfl F.n_tuple (by decide +kernel) (a_cons (e_var (pe_var (i := 5) rfl (.inl rfl))) a_nil)) (pk_cons' (e_var (pe_var (i := 11) rfl (.inl rfl))) pk_nil'))) (e_var (pe_var (i := 10) rfl (.inl rfl))) (nomark _)))))
    (b_one (b_ret e_bl))
    b_nil)
    (b_cons (b_set (i := 12) (ps_set sc_law.nd rfl (Or.inl rfl) (e_sl F.hK (oSl_ok F.ok) (e_bin op_mulA (oMul_ok F.ok) (e_var (pe_var (i := 4) rfl (.inr (.inl rfl)))) e_int) o_none (o_some F.ok e_int))))
    (b_one (b_if (PW.pt (t_and (t_cmp F.ok (op_neD (hu64 hr)) (oNeK F.ok F.hK) (e_var (pe_var (i := 4) rfl (.inr (.inl rfl)))) (e_lst a_nil) (nomark _)) (t_and1 (t_cmp F.ok (op_neD (hu64 hr)) (oNeK F.ok F.hK) (e_call (ok_best_asked F) (hr.mono (by decide)) (takes_of rfl rfl rfl rfl) rfl (a_cons (e_makeF F.ok (ok_Book_init F) (hr.mono (by decide)) (takes_of rfl rfl rfl rfl) rfl (a_cons (e_var (pe_var (i := 3) rfl (.inr (.inl rfl)))) (a_cons (e_var (pe_var (i := 12) rfl (.inl rfl))) a_nil))) (a_cons (e_var (pe_var (i := 5) rfl (.inl rfl))) a_nil))) (e_var (pe_var (i := 10) rfl (.inl rfl))) (nomark _)))))
    (b_one (b_ret e_bl))
    b_nil)))))))))))
    (b_one (b_ret e_bl))))))
theorem ok_law (F : Fx P w K mg base G) : FnI P w K mg base G 18 "law" 1 f_law := by
  obtain ⟨f, fd, hm, D⟩ := F.d_law
  exact ⟨f, fd, p_law, hm, D.kp, D.bindsN (fun _ _ _ _ _ _ us hl => match us, hl with | [_], _ => rfl), rfl, (okf_law F D)⟩
theorem kw_law (F : Fx P w K mg base G) : KwI P w K mg base G 18 "law" ["_law_script"] [0] f_law := by
  obtain ⟨f, fd, hm, D⟩ := F.d_law
  exact ⟨f, fd, p_law, hm, D.kp, kwB D (fun _ _ _ _ _ _ us hl => match us, hl with | [_], _ => rfl), rfl, by decide, okf_law F D⟩
end
end Wk
set_option linter.all false
set_option maxRecDepth 10000
namespace SM
/-! ## sums -/
def sm : Nat → (Nat → Int) → Int
  | 0, _ => 0
  | n + 1, f => sm n f + f n
theorem sm_congr {n : Nat} {f g : Nat → Int} (h : ∀ k, k < n → f k = g k) : sm n f = sm n g := by
  induction n with
  | zero => rfl
  | succ n ih => simp only [sm]; rw [ih fun k hk => h k (by omega), h n (by omega)]
theorem sm_zero {n : Nat} {f : Nat → Int} (h : ∀ k, k < n → f k = 0) : sm n f = 0 := by
  induction n with
  | zero => rfl
  | succ n ih => simp only [sm]; rw [ih fun k hk => h k (by omega), h n (by omega)]; rfl
theorem sm_add {n : Nat} {f g : Nat → Int} : sm n (fun k => f k + g k) = sm n f + sm n g := by
  induction n with
  | zero => rfl
  | succ n ih => simp only [sm]; rw [ih]; omega
theorem sm_neg {n : Nat} {f : Nat → Int} : sm n (fun k => - f k) = - sm n f := by
  induction n with
  | zero => rfl
  | succ n ih => simp only [sm]; rw [ih]; omega
theorem sm_sub {n : Nat} {f g : Nat → Int} : sm n (fun k => f k - g k) = sm n f - sm n g := by
  induction n with
  | zero => rfl
  | succ n ih => simp only [sm]; rw [ih]; omega
theorem sm_mul {n : Nat} {f : Nat → Int} (c : Int) : sm n (fun k => c * f k) = c * sm n f := by
  induction n with
  | zero => simp [sm]
  | succ n ih => simp only [sm]; rw [ih, Int.mul_add]
theorem sm_mulr {n : Nat} {f : Nat → Int} (c : Int) : sm n (fun k => f k * c) = sm n f * c := by
  induction n with
  | zero => simp [sm]
  | succ n ih => simp only [sm]; rw [ih, Int.add_mul]
theorem sm_one {n i : Nat} {f : Nat → Int} (hi : i < n) (h : ∀ k, k < n → k ≠ i → f k = 0) : sm n f = f i := by
  induction n with
  | zero => omega
  | succ n ih =>
    simp only [sm]
    by_cases e : i = n
    · subst e
      rw [sm_zero fun k hk => h k (by omega) (by omega)]
      omega
    · rw [ih (by omega) fun k hk => h k (by omega), h n (by omega) (by omega)]
      omega
theorem sm_two {n i j : Nat} {f : Nat → Int} (hi : i < n) (hj : j < n) (ne : i ≠ j) (h : ∀ k, k < n → k ≠ i → k ≠ j → f k = 0) : sm n f = f i + f j := by
  induction n with
  | zero => omega
  | succ n ih =>
    simp only [sm]
    by_cases e : i = n
    · subst e
      rw [sm_one (i := j) (by omega) fun k hk hkj => h k (by omega) (by omega) hkj]
      omega
    · by_cases e2 : j = n
      · subst e2
        rw [sm_one (i := i) (by omega) fun k hk hki => h k (by omega) hki (by omega)]
      · rw [ih (by omega) (by omega) fun k hk => h k (by omega), h n (by omega) (by omega) (by omega)]
        omega
theorem sm_head {n : Nat} {f : Nat → Int} : sm (n + 1) f = f 0 + sm n fun k => f (k + 1) := by
  induction n with
  | zero => simp [sm]
  | succ n ih =>
    rw [show sm (n + 1 + 1) f = sm (n + 1) f + f (n + 1) from rfl, ih]
    simp only [sm]
    omega
theorem sm_swap {n m : Nat} {f : Nat → Nat → Int} : sm n (fun i => sm m fun j => f i j) = sm m fun j => sm n fun i => f i j := by
  induction n with
  | zero => simp only [sm]; rw [sm_zero]; intros; rfl
  | succ n ih =>
    simp only [sm]
    rw [ih, ← sm_add]
/-! ## leaving one out -/
def skip (k l : Nat) : Nat := if l < k then l else l + 1
def drp (k l : Nat) : Nat := if l < k then k - 1 else k
theorem sm_pairs : ∀ (n : Nat) (f : Nat → Nat → Int), sm (n + 1) (fun k => sm n fun l => f k l) = sm (n + 1) fun b => sm b fun a => f b a + f a (b - 1)
  | 0, f => by simp [sm]
  | n + 1, f => by
    have ih := sm_pairs n f
    have e : sm (n + 1 + 1) (fun k => sm (n + 1) fun l => f k l) = sm (n + 1) (fun k => sm n (fun l => f k l) + f k n) + sm (n + 1) (fun l => f (n + 1) l) := rfl
    rw [e, sm_add, ih]
    show _ = sm (n + 1) (fun b => sm b fun a => f b a + f a (b - 1)) + sm (n + 1) (fun a => f (n + 1) a + f a (n + 1 - 1))
    rw [sm_add (f := fun a => f (n + 1) a)]
    simp only [Nat.add_sub_cancel]
    omega
theorem sm_inv (n : Nat) (f : Nat → Nat → Int) : sm (n + 1) (fun k => sm n fun l => f k l) = sm (n + 1) fun k => sm n fun l => f (skip k l) (drp k l) := by
  rw [sm_pairs, sm_pairs n fun k l => f (skip k l) (drp k l)]
  refine sm_congr fun b _ => sm_congr fun a ha => ?_
  have h1 : skip b a = a := by simp [skip, ha]
  have h2 : drp b a = b - 1 := by simp [drp, ha]
  have h3 : skip a (b - 1) = b := by unfold skip; rw [if_neg (by omega)]; omega
  have h4 : drp a (b - 1) = a := by unfold drp; rw [if_neg (by omega)]
  rw [h1, h2, h3, h4]
  omega
theorem skip_inv (k l : Nat) : skip (skip k l) (drp k l) = k := by
  unfold skip drp
  by_cases h : l < k
  · simp only [if_pos h]
    split <;> omega
  · simp only [if_neg h]
    split <;> omega
theorem skip_two (k l j : Nat) : skip (skip k l) (skip (drp k l) j) = skip k (skip l j) := by
  unfold skip drp
  by_cases h : l < k
  · simp only [if_pos h]
    split <;> split <;> (try split) <;> (try split) <;> omega
  · simp only [if_neg h]
    split <;> split <;> (try split) <;> (try split) <;> omega
def sg : Nat → Int
  | 0 => 1
  | n + 1 => - sg n
theorem sg_add (a b : Nat) : sg (a + b) = sg a * sg b := by
  induction b with
  | zero => simp [sg]
  | succ b ih => rw [← Nat.add_assoc]; simp only [sg]; rw [ih, Int.mul_neg]
theorem sg_sq (a : Nat) : sg a * sg a = 1 := by
  induction a with
  | zero => rfl
  | succ a ih => simp only [sg]; rw [Int.neg_mul_neg, ih]
theorem sg_inv (k l : Nat) : sg (skip k l) * sg (drp k l) = - (sg k * sg l) := by
  unfold skip drp
  by_cases h : l < k
  · simp only [if_pos h]
    obtain ⟨j, rfl⟩ : ∃ j, k = j + 1 := ⟨k - 1, by omega⟩
    simp only [Nat.add_sub_cancel, sg, Int.neg_mul, Int.neg_neg]
    exact Int.mul_comm _ _
  · simp only [if_neg h, sg, Int.neg_mul]
    rw [Int.mul_comm]
/-! ## determinants: of n columns, each by its rows -/
abbrev Cols := Nat → Nat → Int
def dn (f : Nat → Int) : Nat → Int := fun s => f (s + 1)
def dns (v : Cols) : Cols := fun k => dn (v k)
def det : Nat → Cols → Int
  | 0, _ => 1
  | n + 1, v => sm (n + 1) fun k => sg k * v k 0 * det n (dns fun j => v (skip k j))
theorem det_congr : ∀ {n : Nat} {v w : Cols}, (∀ k s, k < n → s < n → v k s = w k s) → det n v = det n w
  | 0, _, _, _ => rfl
  | n + 1, v, w, h => by
    refine sm_congr fun k hk => ?_
    rw [h k 0 hk (by omega)]
    rw [det_congr (n := n) (v := dns fun j => v (skip k j)) (w := dns fun j => w (skip k j))]
    intro j s hj hs
    show v (skip k j) (s + 1) = w (skip k j) (s + 1)
    refine h _ _ ?_ (by omega)
    unfold skip
    split <;> omega
/-- one column too many: they depend on one another -/
theorem cramer0 : ∀ (n : Nat) (v : Cols) (s : Nat), s < n → sm (n + 1) (fun k => sg k * v k s * det n fun j => v (skip k j)) = 0
  | 0, v, s, h => by omega
  | n + 1, v, s, hs => by
    have e1 : sm (n + 1 + 1) (fun k => sg k * v k s * det (n + 1) fun j => v (skip k j)) = sm (n + 1 + 1) (fun k => sm (n + 1) fun l => sg k * sg l * (v k s * v (skip k l) 0) * det n (dns fun j => v (skip k (skip l j)))) := by
      refine sm_congr fun k _ => ?_
      show sg k * v k s * sm (n + 1) (fun l => sg l * v (skip k l) 0 * det n (dns fun j => v (skip k (skip l j)))) = _
      rw [← sm_mul]
      refine sm_congr fun l _ => ?_
      grind
    have e2 := sm_inv (n + 1) fun k l => sg k * sg l * (v k s * v (skip k l) 0) * det n (dns fun j => v (skip k (skip l j)))
    have e3 : sm (n + 1 + 1) (fun k => sm (n + 1) fun l => sg (skip k l) * sg (drp k l) * (v (skip k l) s * v (skip (skip k l) (drp k l)) 0) * det n (dns fun j => v (skip (skip k l) (skip (drp k l) j)))) = sm (n + 1 + 1) (fun k => - (sm (n + 1) fun l => sg k * sg l * (v (skip k l) s * v k 0) * det n (dns fun j => v (skip k (skip l j))))) := by
      refine sm_congr fun k _ => ?_
      rw [← sm_neg]
      refine sm_congr fun l _ => ?_
      rw [sg_inv, skip_inv]
      have : (fun j => v (skip (skip k l) (skip (drp k l) j))) = fun j => v (skip k (skip l j)) := by
        funext j
        rw [skip_two]
      rw [this]
      grind
    rw [e1, e2, e3]
    cases s with
    | zero =>
      rw [sm_neg]
      have e4 : sm (n + 1 + 1) (fun k => sm (n + 1) fun l => sg k * sg l * (v k 0 * v (skip k l) 0) * det n (dns fun j => v (skip k (skip l j)))) = sm (n + 1 + 1) (fun k => sm (n + 1) fun l => sg k * sg l * (v (skip k l) 0 * v k 0) * det n (dns fun j => v (skip k (skip l j)))) := sm_congr fun k _ => sm_congr fun l _ => by grind
      rw [e3, sm_neg] at e2
      rw [← e4] at e2 ⊢
      omega
    | succ s =>
      refine sm_zero fun k _ => ?_
      have ih := cramer0 n (fun j => dn (v (skip k j))) s (by omega)
      have : sm (n + 1) (fun l => sg k * sg l * (v (skip k l) (s + 1) * v k 0) * det n (dns fun j => v (skip k (skip l j)))) = (sg k * v k 0) * sm (n + 1) (fun l => sg l * dn (v (skip k l)) s * det n fun j => dn (v (skip k (skip l j)))) := by
        rw [← sm_mul]
        refine sm_congr fun l _ => ?_
        show _ = sg k * v k 0 * (sg l * v (skip k l) (s + 1) * det n (dns fun j => v (skip k (skip l j))))
        grind
      rw [this, ih]
      simp
end SM
set_option linter.all false
set_option maxRecDepth 10000
namespace SM
def rep (v : Cols) (i : Nat) (x : Nat → Int) : Cols := fun k => if k = i then x else v k
theorem rep_same (v : Cols) (i : Nat) (x : Nat → Int) : rep v i x i = x := if_pos rfl
theorem rep_ne {v : Cols} {i k : Nat} {x : Nat → Int} (h : k ≠ i) : rep v i x k = v k := if_neg h
theorem rep_skip (v : Cols) (i : Nat) (x : Nat → Int) : (dns fun j => rep v i x (skip i j)) = dns fun j => v (skip i j) := by
  funext j
  show dn (rep v i x (skip i j)) = dn (v (skip i j))
  rw [rep_ne]
  unfold skip
  split <;> omega
theorem rep_skip2 {v : Cols} {i k : Nat} {x : Nat → Int} (h : k ≠ i) : (dns fun j => rep v i x (skip k j)) = rep (dns fun j => v (skip k j)) (if i < k then i else i - 1) (dn x) := by
  funext j
  show dn (if skip k j = i then x else v (skip k j)) = if j = (if i < k then i else i - 1) then dn x else dn (v (skip k j))
  by_cases e : skip k j = i
  · have e2 : j = if i < k then i else i - 1 := by
      unfold skip at e
      split at e <;> split <;> omega
    rw [if_pos e, if_pos e2]
  · have e2 : ¬ j = if i < k then i else i - 1 := by
      intro z
      apply e
      unfold skip
      split at z <;> split <;> omega
    rw [if_neg e, if_neg e2]
theorem det_lin : ∀ {n i : Nat} (v : Cols) (x y : Nat → Int) (a b : Int), i < n → det n (rep v i fun s => a * x s + b * y s) = a * det n (rep v i x) + b * det n (rep v i y)
  | 0, i, v, x, y, a, b, h => by omega
  | n + 1, i, v, x, y, a, b, h => by
    show sm (n + 1) _ = a * sm (n + 1) _ + b * sm (n + 1) _
    rw [← sm_mul, ← sm_mul, ← sm_add]
    refine sm_congr fun k hk => ?_
    by_cases e : k = i
    · subst e
      rw [rep_same, rep_same, rep_same, rep_skip, rep_skip, rep_skip]
      grind
    · rw [rep_ne e, rep_ne e, rep_ne e, rep_skip2 e, rep_skip2 e, rep_skip2 e]
      have ih := det_lin (n := n) (i := if i < k then i else i - 1) (dns fun j => v (skip k j)) (dn x) (dn y) a b (by split <;> omega)
      have e2 : dn (fun s => a * x s + b * y s) = fun s => a * dn x s + b * dn y s := rfl
      rw [e2, ih]
      grind
theorem rep_rep {v : Cols} {i j : Nat} {x y : Nat → Int} (h : i ≠ j) : rep (rep v i x) j y = rep (rep v j y) i x := by
  funext k
  unfold rep
  by_cases a : k = i <;> by_cases b : k = j <;> simp_all
theorem rep_id (v : Cols) (i : Nat) : rep v i (v i) = v := by
  funext k
  unfold rep
  split
  · rename_i h; rw [h]
  · rfl
theorem rep_twice (v : Cols) (i : Nat) (x y : Nat → Int) : rep (rep v i x) i y = rep v i y := by
  funext k
  unfold rep
  split <;> rfl
/-- what the dimension n knows -/
def Alt (n : Nat) : Prop := ∀ (v : Cols) (a b : Nat), a < b → b < n → v a = v b → det n v = 0
theorem Alt.two {n : Nat} (h : Alt n) {v : Cols} {i j : Nat} (hi : i < n) (hj : j < n) (ne : i ≠ j) (e : v i = v j) : det n v = 0 := by
  rcases Nat.lt_or_gt_of_ne ne with q | q
  · exact h v i j q hj e
  · exact h v j i q hi e.symm
theorem Alt.swap {n : Nat} (h : Alt n) (w : Cols) {i j : Nat} (hi : i < n) (hj : j < n) (ne : i ≠ j) (x y : Nat → Int) : det n (rep (rep w i x) j y) = - det n (rep (rep w i y) j x) := by
  have z : ∀ u : Nat → Int, det n (rep (rep w i u) j u) = 0 := fun u => h.two hi hj ne (by rw [rep_same, rep_ne ne, rep_same])
  have e := z fun s => 1 * x s + 1 * y s
  rw [det_lin _ _ _ _ _ hj, rep_rep ne, rep_rep ne, det_lin _ _ _ _ _ hi, det_lin _ _ _ _ _ hi] at e
  have z1 := z x
  have z2 := z y
  rw [rep_rep ne] at z1 z2
  rw [rep_rep ne, rep_rep ne]
  grind
def mv (a b : Nat) (w : Cols) : Cols := fun k => if k < a then w k else if k = a then w b else if k ≤ b then w (k - 1) else w k
theorem mv_self (a : Nat) (w : Cols) : mv a a w = w := by
  funext k
  unfold mv
  split
  · rfl
  · split
    · rename_i h; rw [h]
    · rw [if_neg (by omega)]
theorem mv_step (a t : Nat) (w : Cols) : mv a (a + 1 + t) w = rep (rep (mv (a + 1) (a + 1 + t) w) a (w (a + 1 + t))) (a + 1) (w a) := by
  funext k
  show (if k < a then w k else if k = a then w (a + 1 + t) else if k ≤ a + 1 + t then w (k - 1) else w k) = if k = a + 1 then w a else if k = a then w (a + 1 + t) else if k < a + 1 then w k else if k = a + 1 then w (a + 1 + t) else if k ≤ a + 1 + t then w (k - 1) else w k
  by_cases h1 : k = a + 1
  · subst h1
    rw [if_pos rfl, if_neg (by omega), if_neg (by omega), if_pos (by omega)]
    rfl
  · rw [if_neg h1]
    by_cases h2 : k = a
    · subst h2
      rw [if_neg (by omega), if_pos rfl, if_pos rfl]
    · rw [if_neg h2, if_neg h2, if_neg h1]
      by_cases h3 : k < a
      · rw [if_pos h3, if_pos (by omega)]
      · rw [if_neg h3, if_neg (show ¬ k < a + 1 by omega)]
theorem mv_back (a t : Nat) (w : Cols) : mv (a + 1) (a + 1 + t) w = rep (rep (mv (a + 1) (a + 1 + t) w) a (w a)) (a + 1) (w (a + 1 + t)) := by
  funext k
  show _ = if k = a + 1 then w (a + 1 + t) else if k = a then w a else mv (a + 1) (a + 1 + t) w k
  by_cases h1 : k = a + 1
  · subst h1
    rw [if_pos rfl]
    show (if a + 1 < a + 1 then w (a + 1) else if a + 1 = a + 1 then w (a + 1 + t) else _) = _
    rw [if_neg (by omega), if_pos rfl]
  · rw [if_neg h1]
    by_cases h2 : k = a
    · subst h2
      rw [if_pos rfl]
      show (if k < k + 1 then w k else _) = _
      rw [if_pos (by omega)]
    · rw [if_neg h2]
theorem Alt.mv {n : Nat} (h : Alt n) (w : Cols) : ∀ (t a : Nat), a + t < n → det n (SM.mv a (a + t) w) = sg t * det n w
  | 0, a, _ => by
    rw [Nat.add_zero, mv_self]
    simp [sg]
  | t + 1, a, hl => by
    have e : a + (t + 1) = a + 1 + t := by omega
    rw [e, mv_step, h.swap _ (by omega) (by omega) (by omega), ← mv_back, Alt.mv h w t (a + 1) (by omega)]
    simp only [sg, Int.neg_mul]
theorem alt : ∀ n, Alt n
  | 0 => fun v a b _ hb _ => by omega
  | n + 1 => fun v a b hab hb e => by
    have ih := alt n
    show sm (n + 1) _ = 0
    rw [sm_two (i := a) (j := b) (by omega) hb (by omega)]
    · have e2 : (dns fun j => v (skip b j)) = SM.mv a (b - 1) (dns fun j => v (skip a j)) := by
        funext j
        show dn (v (skip b j)) = if j < a then dn (v (skip a j)) else if j = a then dn (v (skip a (b - 1))) else if j ≤ b - 1 then dn (v (skip a (j - 1))) else dn (v (skip a j))
        by_cases h1 : j < a
        · rw [if_pos h1]
          have q1 : skip b j = j := if_pos (show j < b by omega)
          have q2 : skip a j = j := if_pos h1
          rw [q1, q2]
        · rw [if_neg h1]
          by_cases h2 : j = a
          · subst h2
            have q1 : skip b j = j := if_pos hab
            have q2 : skip j (b - 1) = b := by unfold skip; rw [if_neg (show ¬ b - 1 < j by omega)]; omega
            rw [if_pos rfl, q1, q2, e]
          · rw [if_neg h2]
            by_cases h3 : j ≤ b - 1
            · have q1 : skip b j = j := if_pos (show j < b by omega)
              have q2 : skip a (j - 1) = j := by unfold skip; rw [if_neg (show ¬ j - 1 < a by omega)]; omega
              rw [if_pos h3, q1, q2]
            · have q1 : skip b j = j + 1 := if_neg (show ¬ j < b by omega)
              have q2 : skip a j = j + 1 := if_neg (show ¬ j < a by omega)
              rw [if_neg h3, q1, q2]
      have e3 : b - 1 = a + (b - 1 - a) := by omega
      rw [e2, e3, ih.mv _ _ _ (by omega), ← e]
      have e4 : sg b = - (sg a * sg (b - 1 - a)) := by
        have : b = a + (b - 1 - a) + 1 := by omega
        conv => lhs; rw [this]
        simp only [sg]
        rw [sg_add]
      have e5 := sg_sq (b - 1 - a)
      rw [e4]
      grind
    · intro k hk ka kb
      have : det n (dns fun j => v (skip k j)) = 0 := by
        refine ih _ (if a < k then a else a - 1) (if b < k then b else b - 1) ?_ ?_ ?_
        · split <;> split <;> omega
        · split <;> omega
        · show dn (v (skip k _)) = dn (v (skip k _))
          have q1 : skip k (if a < k then a else a - 1) = a := by unfold skip; grind
          have q2 : skip k (if b < k then b else b - 1) = b := by unfold skip; grind
          rw [q1, q2, e]
      rw [this]
      simp
/-- Cramer's rule -/
def cns (v : Nat → Int) (B : Cols) : Cols
  | 0 => v
  | k + 1 => B k
theorem cns_skip0 (v : Nat → Int) (B : Cols) : (fun j => cns v B (skip 0 j)) = B := by
  funext j
  rfl
theorem cns_skip (v : Nat → Int) (B : Cols) (k : Nat) : (fun j => cns v B (skip (k + 1) j)) = mv 0 k (rep B k v) := by
  funext j
  show cns v B (skip (k + 1) j) = if j < 0 then rep B k v j else if j = 0 then rep B k v k else if j ≤ k then rep B k v (j - 1) else rep B k v j
  rw [if_neg (Nat.not_lt_zero j)]
  cases j with
  | zero =>
    rw [if_pos rfl, rep_same]
    rfl
  | succ i =>
    rw [if_neg (Nat.succ_ne_zero i)]
    by_cases h1 : i + 1 < k + 1
    · have q : skip (k + 1) (i + 1) = i + 1 := if_pos h1
      rw [q, if_pos (show i + 1 ≤ k by omega), Nat.add_sub_cancel, rep_ne (by omega)]
      rfl
    · have q : skip (k + 1) (i + 1) = i + 1 + 1 := if_neg h1
      rw [q, if_neg (show ¬ i + 1 ≤ k by omega), rep_ne (by omega)]
      rfl
theorem cramer {n : Nat} (B : Cols) (v : Nat → Int) {s : Nat} (hs : s < n) : det n B * v s = sm n fun k => det n (rep B k v) * B k s := by
  have h := cramer0 n (cns v B) s hs
  rw [sm_head] at h
  have e1 : ∀ k, k < n → sg (k + 1) * cns v B (k + 1) s * det n (fun j => cns v B (skip (k + 1) j)) = - (det n (rep B k v) * B k s) := fun k hk => by
    have e3 := (alt n).mv (rep B k v) k 0 (by omega)
    rw [Nat.zero_add] at e3
    rw [cns_skip, e3]
    have := sg_sq k
    show - sg k * B k s * _ = _
    grind
  rw [cns_skip0, sm_congr e1, sm_neg] at h
  have h : 1 * v s * det n B + - (sm n fun k => det n (rep B k v) * B k s) = 0 := h
  rw [Int.one_mul] at h
  rw [Int.mul_comm]
  omega
theorem det_sum {n i : Nat} (w : Cols) (hi : i < n) : ∀ (m : Nat) (t : Nat → Int) (b : Cols), det n (rep w i fun s => sm m fun k => t k * b k s) = sm m fun k => t k * det n (rep w i (b k))
  | 0, t, b => by
    have := det_lin (n := n) w (fun _ => 0) (fun _ => 0) 0 0 hi
    simp only [sm]
    simp at this
    exact this
  | m + 1, t, b => by
    have ih := det_sum w hi m t b
    have := det_lin (n := n) w (fun s => sm m fun k => t k * b k s) (b m) 1 (t m) hi
    simp only [sm]
    rw [← ih]
    rw [show (fun s => 1 * (sm m fun k => t k * b k s) + t m * b m s) = fun s => (sm m fun k => t k * b k s) + t m * b m s by funext s; rw [Int.one_mul]] at this
    rw [this, Int.one_mul]
theorem det_scale {n i : Nat} (w : Cols) (hi : i < n) (c : Int) (x : Nat → Int) : det n (rep w i fun s => c * x s) = c * det n (rep w i x) := by
  have := det_lin (n := n) w x x c 0 hi
  simp at this
  exact this
/-- the three-term relation -/
theorem plucker {n i r : Nat} (B : Cols) (x y : Nat → Int) (hi : i < n) (hr : r < n) (ne : i ≠ r) : det n B * det n (rep (rep B r y) i x) = det n (rep B i x) * det n (rep B r y) - det n (rep B r x) * det n (rep B i y) := by
  rw [← det_scale _ hi]
  have e : det n (rep (rep B r y) i fun s => det n B * x s) = det n (rep (rep B r y) i fun s => sm n fun k => det n (rep B k x) * B k s) := by
    refine det_congr fun k s hk hs => ?_
    by_cases h : k = i
    · subst h
      rw [rep_same, rep_same]
      exact cramer B x hs
    · rw [rep_ne h, rep_ne h]
  rw [e, det_sum _ hi, sm_two hi hr ne]
  · have h1 : rep (rep B r y) i (B i) = rep B r y := by
      rw [rep_rep (Ne.symm ne), rep_id]
    have h2 : det n (rep (rep B r y) i (B r)) = - det n (rep B i y) := by
      rw [(alt n).swap B hr hi (Ne.symm ne), rep_id]
    rw [h1, h2]
    grind
  · intro k hk ki kr
    have : det n (rep (rep B r y) i (B k)) = 0 := by
      refine (alt n).two hi hk (Ne.symm ki) ?_
      rw [rep_same, rep_ne ki, rep_ne kr]
    rw [this]
    simp
/-! ## how great they are -/
theorem sm_abs {n : Nat} {f : Nat → Int} {M : Nat} (h : ∀ k, k < n → (f k).natAbs ≤ M) : (sm n f).natAbs ≤ n * M := by
  induction n with
  | zero => simp [sm]
  | succ n ih =>
    have h1 := ih fun k hk => h k (by omega)
    have h2 := h n (by omega)
    simp only [sm]
    have : (sm n f + f n).natAbs ≤ (sm n f).natAbs + (f n).natAbs := Int.natAbs_add_le _ _
    rw [Nat.add_mul, Nat.one_mul]
    omega
theorem sg_abs (k : Nat) : (sg k).natAbs = 1 := by
  induction k with
  | zero => rfl
  | succ k ih => simp only [sg, Int.natAbs_neg]; exact ih
theorem det_abs : ∀ {n M : Nat} {v : Cols}, (∀ k s, k < n → s < n → (v k s).natAbs ≤ M) → (det n v).natAbs ≤ (n * M) ^ n
  | 0, M, v, h => by simp [det]
  | n + 1, M, v, h => by
    have h1 : (det (n + 1) v).natAbs ≤ (n + 1) * (M * (n * M) ^ n) := by
      refine sm_abs fun k hk => ?_
      rw [Int.natAbs_mul, Int.natAbs_mul, sg_abs, Nat.one_mul]
      refine Nat.mul_le_mul (h k 0 hk (by omega)) (det_abs fun j s hj hs => ?_)
      show (v (skip k j) (s + 1)).natAbs ≤ M
      refine h _ _ ?_ (by omega)
      unfold skip
      split <;> omega
    refine Nat.le_trans h1 ?_
    rw [Nat.pow_succ, ← Nat.mul_assoc, Nat.mul_comm]
    exact Nat.mul_le_mul (Nat.pow_le_pow_left (Nat.mul_le_mul (by omega) (Nat.le_refl _)) n) (Nat.le_refl _)
end SM
set_option linter.all false
set_option maxRecDepth 10000
namespace SM
/-! ## a basis, its table -/
structure Prob where
  m : Nat
  W : Nat
  A : Cols
  c : Nat → Int
  wd : Nat
section
variable (P : Prob)
abbrev Bs := Nat → Nat
def Prob.B (b : Bs) : Cols := fun k => P.A (b k)
def Prob.d (b : Bs) : Int := det P.m (P.B b)
def Prob.T (b : Bs) (i j : Nat) : Int := det P.m (rep (P.B b) i (P.A j))
def Prob.g (b : Bs) (j : Nat) : Int := P.d b * P.c j - sm P.m fun k => P.c (b k) * P.T b k j
def up (b : Bs) (r q : Nat) : Bs := fun k => if k = r then q else b k
end
variable {P : Prob}
theorem B_up (b : Bs) (r q : Nat) : P.B (up b r q) = rep (P.B b) r (P.A q) := by
  funext k
  show P.A (if k = r then q else b k) = if k = r then P.A q else P.A (b k)
  split <;> rfl
theorem d_up (b : Bs) (r q : Nat) : P.d (up b r q) = P.T b r q := by
  unfold Prob.d Prob.T
  rw [B_up]
theorem T_up_r (b : Bs) (r q j : Nat) : P.T (up b r q) r j = P.T b r j := by
  unfold Prob.T
  rw [B_up, rep_twice]
theorem T_up {b : Bs} {r q i j : Nat} (hi : i < P.m) (hr : r < P.m) (ne : i ≠ r) : P.d b * P.T (up b r q) i j = P.T b i j * P.T b r q - P.T b r j * P.T b i q := by
  unfold Prob.T Prob.d
  rw [B_up]
  exact plucker (P.B b) (P.A j) (P.A q) hi hr ne
theorem T_base {b : Bs} {i k : Nat} (hi : i < P.m) (hk : k < P.m) : P.T b i (b k) = if i = k then P.d b else 0 := by
  unfold Prob.T Prob.d
  split
  · rename_i e
    subst e
    have : P.A (b i) = P.B b i := rfl
    rw [this, rep_id]
  · rename_i ne
    refine (alt P.m).two hi hk ne ?_
    rw [rep_same, rep_ne (Ne.symm ne)]
    rfl
theorem g_base {b : Bs} {k : Nat} (hk : k < P.m) : P.g b (b k) = 0 := by
  unfold Prob.g
  rw [sm_one (i := k) hk]
  · rw [T_base hk hk, if_pos rfl, Int.mul_comm]
    omega
  · intro i hi ne
    rw [T_base hi hk, if_neg ne]
    simp
theorem cram {b : Bs} {j s : Nat} (hs : s < P.m) : P.d b * P.A j s = sm P.m fun k => P.T b k j * P.A (b k) s := cramer (P.B b) (P.A j) hs
/-- the rows of another table are the same sums -/
theorem T_two {b b' : Bs} {q k : Nat} (hk : k < P.m) : P.d b * P.T b' k q = sm P.m fun i => P.T b i q * P.T b' k (b i) := by
  unfold Prob.T
  rw [← det_scale _ hk]
  have e : det P.m (rep (P.B b') k fun s => P.d b * P.A q s) = det P.m (rep (P.B b') k fun s => sm P.m fun i => P.T b i q * P.A (b i) s) := by
    refine det_congr fun j s hj hs => ?_
    by_cases h : j = k
    · subst h
      rw [rep_same, rep_same]
      exact cram hs
    · rw [rep_ne h, rep_ne h]
  rw [e]
  exact det_sum (P.B b') hk P.m (fun i => P.T b i q) fun i => P.A (b i)
theorem ray (b b' : Bs) (q : Nat) : P.d b * P.g b' q - (sm P.m fun i => P.T b i q * P.g b' (b i)) = P.d b' * P.g b q := by
  unfold Prob.g
  have e1 : (sm P.m fun i => P.T b i q * (P.d b' * P.c (b i) - sm P.m fun k => P.c (b' k) * P.T b' k (b i))) = P.d b' * (sm P.m fun i => P.c (b i) * P.T b i q) - sm P.m fun k => P.c (b' k) * (P.d b * P.T b' k q) := by
    have h1 : (fun i => P.T b i q * (P.d b' * P.c (b i) - sm P.m fun k => P.c (b' k) * P.T b' k (b i))) = fun i => P.d b' * (P.c (b i) * P.T b i q) - sm P.m fun k => P.c (b' k) * (P.T b i q * P.T b' k (b i)) := by
      funext i
      rw [Int.mul_sub, ← sm_mul]
      congr 1
      · grind
      · congr 1
        funext k
        grind
    rw [h1, sm_sub, sm_mul, sm_swap]
    congr 1
    refine sm_congr fun k hk => ?_
    rw [sm_mul, ← T_two hk]
  rw [e1]
  have e2 : (sm P.m fun k => P.c (b' k) * (P.d b * P.T b' k q)) = P.d b * sm P.m fun k => P.c (b' k) * P.T b' k q := by
    rw [← sm_mul]
    refine sm_congr fun k _ => ?_
    grind
  rw [e2]
  grind
theorem g_up {b : Bs} {r q j : Nat} (hr : r < P.m) (z : P.T b r q ≠ 0) : P.d b * P.g (up b r q) j = P.T b r q * P.g b j - P.g b q * P.T b r j := by
  have h := ray (P := P) b (up b r q) j
  have e : (sm P.m fun i => P.T b i j * P.g (up b r q) (b i)) = P.T b r j * P.g (up b r q) (b r) := by
    refine sm_one hr fun k hk ne => ?_
    have : b k = up b r q k := by unfold up; rw [if_neg ne]
    rw [this, g_base hk]
    simp
  have h2 := ray (P := P) b (up b r q) q
  have e2 : (sm P.m fun i => P.T b i q * P.g (up b r q) (b i)) = P.T b r q * P.g (up b r q) (b r) := by
    refine sm_one hr fun k hk ne => ?_
    have : b k = up b r q k := by unfold up; rw [if_neg ne]
    rw [this, g_base hk]
    simp
  have e3 : P.g (up b r q) q = 0 := by
    have : q = up b r q r := by unfold up; rw [if_pos rfl]
    conv => lhs; arg 3; rw [this]
    exact g_base hr
  rw [e, d_up] at h
  rw [e2, d_up, e3] at h2
  have h3 : P.g (up b r q) (b r) = - P.g b q := by
    have : P.T b r q * (P.g (up b r q) (b r) + P.g b q) = 0 := by grind
    rcases Int.mul_eq_zero.mp this with h | h
    · exact absurd h z
    · omega
  rw [h3] at h
  grind
/-! ## a step -/
structure Good (P : Prob) (b : Bs) : Prop where
  d : 0 < P.d b
  W : ∀ i, i < P.m → 0 ≤ P.T b i P.W
  lt : ∀ i, i < P.m → b i < P.W
structure Ent (P : Prob) (b : Bs) (q : Nat) : Prop where
  lt : q < P.wd
  neg : P.g b q < 0
  least : ∀ j, j < q → 0 ≤ P.g b j
structure Lv (P : Prob) (b : Bs) (q r : Nat) : Prop where
  lt : r < P.m
  pos : 0 < P.T b r q
  least : ∀ i, i < P.m → 0 < P.T b i q → P.T b r P.W * P.T b i q < P.T b i P.W * P.T b r q ∨ (P.T b r P.W * P.T b i q = P.T b i P.W * P.T b r q ∧ b r ≤ b i)
theorem nonbasic {b : Bs} {q : Nat} (h : P.g b q ≠ 0) {i : Nat} (hi : i < P.m) : b i ≠ q := fun e => h (by rw [← e]; exact g_base hi)
theorem Good.up {b : Bs} {q r : Nat} (G : Good P b) (L : Lv P b q r) (hq : q < P.W) : Good P (up b r q) where
  d := by rw [d_up]; exact L.pos
  W := fun i hi => by
    by_cases e : i = r
    · subst e
      rw [T_up_r]
      exact G.W i hi
    · have h := T_up (b := b) (r := r) (q := q) (j := P.W) hi L.lt e
      have hd := G.d
      have h2 : 0 ≤ P.T b i P.W * P.T b r q - P.T b r P.W * P.T b i q := by
        by_cases z : 0 < P.T b i q
        · rcases L.least i hi z with h | ⟨h, _⟩ <;> omega
        · have h3 : P.T b r P.W * P.T b i q ≤ 0 := Int.mul_nonpos_of_nonneg_of_nonpos (G.W r L.lt) (by omega)
          have h4 : 0 ≤ P.T b i P.W * P.T b r q := Int.mul_nonneg (G.W i hi) (by have := L.pos; omega)
          omega
      rw [← h] at h2
      rcases Int.lt_or_le (P.T (SM.up b r q) i P.W) 0 with z | z
      · exact absurd h2 (by have := Int.mul_neg_of_pos_of_neg hd z; omega)
      · exact z
  lt := fun i hi => by
    unfold SM.up
    split
    · exact hq
    · exact G.lt i hi
/-- some row can leave -/
theorem sm_nonneg {n : Nat} {f : Nat → Int} (h : ∀ k, k < n → 0 ≤ f k) : 0 ≤ sm n f := by
  induction n with
  | zero => exact Int.le_refl 0
  | succ n ih =>
    have h1 := ih fun k hk => h k (by omega)
    have h2 := h n (by omega)
    simp only [sm]
    omega
theorem sm_pos_ex {n : Nat} {f : Nat → Int} (h : 0 < sm n f) : ∃ k, k < n ∧ 0 < f k := by
  induction n with
  | zero => simp [sm] at h
  | succ n ih =>
    simp only [sm] at h
    by_cases z : 0 < f n
    · exact ⟨n, by omega, z⟩
    · obtain ⟨k, hk, hz⟩ := ih (by omega)
      exact ⟨k, by omega, hz⟩
theorem some_pos {b : Bs} {q : Nat} (G : Good P b) (hc : ∀ j, 0 ≤ P.c j) (hq : P.g b q < 0) : ∃ i, i < P.m ∧ 0 < P.T b i q := by
  have h : P.g b q = P.d b * P.c q - sm P.m fun k => P.c (b k) * P.T b k q := rfl
  have h1 : 0 ≤ P.d b * P.c q := Int.mul_nonneg (by have := G.d; omega) (hc q)
  obtain ⟨k, hk, hp⟩ := sm_pos_ex (n := P.m) (f := fun k => P.c (b k) * P.T b k q) (by omega)
  refine ⟨k, hk, ?_⟩
  rcases Int.lt_or_le 0 (P.T b k q) with z | z
  · exact z
  · have := Int.mul_nonpos_of_nonneg_of_nonpos (hc (b k)) z
    omega
/-! ## no way round and round -/
structure Run (P : Prob) (b : Nat → Bs) (q r : Nat → Nat) : Prop where
  good : ∀ t, Good P (b t)
  ent : ∀ t, Ent P (b t) (q t)
  lv : ∀ t, Lv P (b t) (q t) (r t)
  step : ∀ t, b (t + 1) = up (b t) (r t) (q t)
  hw : P.wd ≤ P.W
section
variable {b : Nat → Bs} {q r : Nat → Nat} {N : Nat}
theorem Run.obj (R : Run P b q r) (t : Nat) : P.d (b t) * P.g (b (t + 1)) P.W = P.d (b (t + 1)) * P.g (b t) P.W - P.g (b t) (q t) * P.T (b t) (r t) P.W := by
  rw [R.step t, d_up]
  exact g_up (R.lv t).lt (by have := (R.lv t).pos; omega)
theorem cross {a b c d e f : Int} (hd : 0 < d) (hb : 0 ≤ b) (hf : 0 ≤ f) (h1 : a * d ≤ c * b) (h2 : c * f ≤ e * d) : a * f ≤ e * b := by
  have e1 : a * d * f ≤ c * b * f := Int.mul_le_mul_of_nonneg_right h1 hf
  have e2 : c * f * b ≤ e * d * b := Int.mul_le_mul_of_nonneg_right h2 hb
  have e3 : (a * f) * d ≤ (e * b) * d := by
    have : a * f * d = a * d * f := by grind
    have : c * b * f = c * f * b := by grind
    have : e * b * d = e * d * b := by grind
    omega
  exact Int.le_of_mul_le_mul_right e3 hd
theorem Run.mono1 (R : Run P b q r) (t : Nat) : P.g (b t) P.W * P.d (b (t + 1)) ≤ P.g (b (t + 1)) P.W * P.d (b t) := by
  have h := R.obj t
  have h1 : P.g (b t) (q t) * P.T (b t) (r t) P.W ≤ 0 := Int.mul_nonpos_of_nonpos_of_nonneg (by have := (R.ent t).neg; omega) ((R.good t).W _ (R.lv t).lt)
  rw [Int.mul_comm (P.g (b t) P.W), Int.mul_comm (P.g (b (t + 1)) P.W)]
  omega
theorem Run.mono (R : Run P b q r) (s : Nat) : ∀ k, P.g (b s) P.W * P.d (b (s + k)) ≤ P.g (b (s + k)) P.W * P.d (b s)
  | 0 => Int.le_refl _
  | k + 1 => cross (R.good (s + k)).d (by have := (R.good s).d; omega) (by have := (R.good (s + (k + 1))).d; omega) (R.mono s k) (R.mono1 (s + k))
theorem Run.flat (R : Run P b q r) (hN : 0 < N) (per : ∀ t, b (t + N) = b t) (t : Nat) : P.T (b t) (r t) P.W = 0 := by
  have h1 := R.mono (t + 1) (N - 1)
  have e : t + 1 + (N - 1) = t + N := by omega
  rw [e, per] at h1
  have h2 := R.obj t
  have h3 : P.g (b t) (q t) * P.T (b t) (r t) P.W = 0 := by
    have h4 : P.g (b t) (q t) * P.T (b t) (r t) P.W ≤ 0 := Int.mul_nonpos_of_nonpos_of_nonneg (by have := (R.ent t).neg; omega) ((R.good t).W _ (R.lv t).lt)
    rw [Int.mul_comm (P.g (b t) P.W), Int.mul_comm (P.g (b (t + 1)) P.W)] at h1
    omega
  rcases Int.mul_eq_zero.mp h3 with h | h
  · have := (R.ent t).neg
    omega
  · exact h
/-- what is nought stays it -/
def Zr (P : Prob) (b : Bs) (j : Nat) : Prop := ∀ i, i < P.m → b i = j → P.T b i P.W = 0
theorem Run.zr1 (R : Run P b q r) {t : Nat} (hf : P.T (b t) (r t) P.W = 0) {j : Nat} (h : Zr P (b t) j) : Zr P (b (t + 1)) j := by
  intro i hi e
  rw [R.step t] at e ⊢
  by_cases z : i = r t
  · subst z
    rw [T_up_r]
    exact hf
  · have e2 : b t i = j := by
      unfold up at e
      rw [if_neg z] at e
      exact e
    have h2 := h i hi e2
    have h3 := T_up (b := b t) (r := r t) (q := q t) (j := P.W) hi (R.lv t).lt z
    rw [h2, hf, Int.zero_mul, Int.zero_mul, Int.sub_self] at h3
    rcases Int.mul_eq_zero.mp h3 with h | h
    · have := (R.good t).d
      omega
    · exact h
theorem Run.zr (R : Run P b q r) (hf : ∀ t, P.T (b t) (r t) P.W = 0) {j u : Nat} (h : Zr P (b u) j) : ∀ k, Zr P (b (u + k)) j
  | 0 => h
  | k + 1 => R.zr1 (hf (u + k)) (R.zr hf h k)
theorem zr_non {b : Bs} {j : Nat} (h : ∀ i, i < P.m → b i ≠ j) : Zr P b j := fun i hi e => absurd e (h i hi)
/-- who came in -/
theorem Run.came (R : Run P b q r) {j u : Nat} (h : ∀ i, i < P.m → b u i ≠ j) : ∀ k, (∃ i, i < P.m ∧ b (u + k) i = j) → ∃ t, q t = j
  | 0, ⟨i, hi, e⟩ => absurd e (h i hi)
  | k + 1, ⟨i, hi, e⟩ => by
    have e : b (u + k + 1) i = j := e
    rw [R.step] at e
    unfold up at e
    split at e
    · exact ⟨_, e⟩
    · exact R.came h k ⟨i, hi, e⟩
/-- who went out -/
theorem Run.went (R : Run P b q r) {j u : Nat} {i0 : Nat} (hi0 : i0 < P.m) (h0 : b u i0 = j) : ∀ k, (∀ i, i < P.m → b (u + k) i ≠ j) → ∃ v, u ≤ v ∧ b v (r v) = j
  | 0, h => absurd h0 (h i0 hi0)
  | k + 1, h => by
    by_cases z : ∃ i, i < P.m ∧ b (u + k) i = j
    · obtain ⟨i, hi, e⟩ := z
      refine ⟨u + k, by omega, ?_⟩
      have h2 := h i hi
      rw [show u + (k + 1) = u + k + 1 from rfl, R.step] at h2
      unfold up at h2
      split at h2
      · rename_i q
        rw [← q]
        exact e
      · exact absurd e h2
    · exact R.went hi0 h0 k fun i hi e => z ⟨i, hi, e⟩
theorem max_ex (f : Nat → Nat) : ∀ N, 0 < N → ∃ u, u < N ∧ ∀ t, t < N → f t ≤ f u
  | 0, h => by omega
  | 1, _ => by
    refine ⟨0, by omega, fun t ht => ?_⟩
    have : t = 0 := by omega
    rw [this]
    exact Nat.le_refl _
  | N + 2, _ => by
    obtain ⟨u, hu, h⟩ := max_ex f (N + 1) (by omega)
    rcases Nat.le_total (f u) (f (N + 1)) with z | z
    · refine ⟨N + 1, by omega, fun t ht => ?_⟩
      by_cases e : t = N + 1
      · rw [e]; exact Nat.le_refl _
      · exact Nat.le_trans (h t (by omega)) z
    · refine ⟨u, by omega, fun t ht => ?_⟩
      by_cases e : t = N + 1
      · rw [e]; exact z
      · exact h t (by omega)
theorem inj {b : Bs} (G : Good P b) {i k : Nat} (hi : i < P.m) (hk : k < P.m) (e : b i = b k) : i = k := by
  have h1 := T_base (P := P) (b := b) hi hk
  have h2 := T_base (P := P) (b := b) hi hi
  rw [if_pos rfl, e] at h2
  by_cases z : i = k
  · exact z
  · rw [if_neg z, h2] at h1
    have := G.d
    omega
/-- Bland: never the same basis again -/
theorem Run.never (R : Run P b q r) (hN : 0 < N) (per : ∀ t, b (t + N) = b t) (perq : ∀ t, q (t + N) = q t) : False := by
  have hf := R.flat hN per
  obtain ⟨u, huN, hmax0⟩ := max_ex q N hN
  have hmax : ∀ t, q t ≤ q u := by
    intro t
    have : ∀ k t, t < N → q (t + k * N) = q t := by
      intro k
      induction k with
      | zero => intro t _; simp
      | succ k ih =>
        intro t ht
        have e : t + (k + 1) * N = t + k * N + N := by rw [Nat.add_mul]; omega
        rw [e, perq, ih t ht]
    have e : t = t % N + (t / N) * N := by
      have := Nat.mod_add_div t N
      rw [Nat.mul_comm N] at this
      omega
    have hm := Nat.mod_lt t hN
    rw [e, this _ _ hm]
    exact hmax0 _ hm
  have Eu := R.ent u
  -- the greatest leaves some time later
  have hin : b (u + 1) (r u) = q u := by
    rw [R.step]
    unfold up
    rw [if_pos rfl]
  have hout : ∀ i, i < P.m → b (u + 1 + (N - 1)) i ≠ q u := by
    have e : u + 1 + (N - 1) = u + N := by omega
    rw [e, per]
    intro i hi
    exact nonbasic (by have := Eu.neg; omega) hi
  obtain ⟨v, huv, hv⟩ := R.went (R.lv u).lt hin (N - 1) hout
  have Lvv := R.lv v
  have Ev := R.ent v
  have h := ray (P := P) (b v) (b u) (q v)
  have hneg : P.d (b u) * P.g (b v) (q v) < 0 := Int.mul_neg_of_pos_of_neg (R.good u).d Ev.neg
  have hpq : q v ≠ q u := fun e => nonbasic (P := P) (b := b v) (q := q v) (by have := Ev.neg; omega) Lvv.lt (by rw [hv, e])
  have hp : 0 ≤ P.g (b u) (q v) := Eu.least _ (by have := hmax v; omega)
  have hp2 : 0 ≤ P.d (b v) * P.g (b u) (q v) := Int.mul_nonneg (by have := (R.good v).d; omega) hp
  obtain ⟨i, hi, hpos⟩ := sm_pos_ex (n := P.m) (f := fun i => P.T (b v) i (q v) * P.g (b u) (b v i)) (by omega)
  have hgne : P.g (b u) (b v i) ≠ 0 := fun e => by
    rw [e, Int.mul_zero] at hpos
    omega
  have hnon : ∀ k, k < P.m → b u k ≠ b v i := fun k hk => nonbasic hgne hk
  by_cases e : b v i = q u
  · have ei : i = r v := inj (R.good v) hi Lvv.lt (by rw [e, hv])
    rw [ei, hv] at hpos
    have := Int.mul_neg_of_pos_of_neg Lvv.pos Eu.neg
    omega
  · obtain ⟨k, rfl⟩ : ∃ k, v = u + k := ⟨v - u, by omega⟩
    obtain ⟨t, ht⟩ := R.came hnon k ⟨i, hi, rfl⟩
    have hlt : b (u + k) i < q u := by
      have := hmax t
      omega
    have hg : 0 ≤ P.g (b u) (b (u + k) i) := Eu.least _ hlt
    have hT : 0 < P.T (b (u + k)) i (q (u + k)) := by
      rcases Int.lt_or_le 0 (P.T (b (u + k)) i (q (u + k))) with z | z
      · exact z
      · have := Int.mul_nonpos_of_nonpos_of_nonneg z hg
        omega
    have hz := R.zr hf (zr_non hnon) k i hi rfl
    rcases Lvv.least i hi hT with h | ⟨_, h⟩
    · rw [hz, hf (u + k)] at h
      omega
    · omega
end
/-! ## so many bases -/
def code (W : Nat) (b : Bs) : Nat → Nat
  | 0 => 0
  | n + 1 => code W b n * W + b n
theorem code_lt {W : Nat} {b : Bs} : ∀ {n : Nat}, (∀ i, i < n → b i < W) → code W b n < W ^ n
  | 0, _ => by simp [code]
  | n + 1, h => by
    have ih := code_lt (n := n) fun i hi => h i (by omega)
    have hn := h n (by omega)
    simp only [code]
    rw [Nat.pow_succ]
    calc code W b n * W + b n < code W b n * W + W := by omega
      _ = (code W b n + 1) * W := by rw [Nat.add_mul, Nat.one_mul]
      _ ≤ W ^ n * W := Nat.mul_le_mul_right _ ih
theorem code_inj {W : Nat} {b c : Bs} : ∀ {n : Nat}, (∀ i, i < n → b i < W) → (∀ i, i < n → c i < W) → code W b n = code W c n → ∀ i, i < n → b i = c i
  | 0, _, _, _, i, hi => by omega
  | n + 1, hb, hc, e, i, hi => by
    simp only [code] at e
    have h1 := hb n (by omega)
    have h2 := hc n (by omega)
    have e1 : b n = c n := by
      have := congrArg (· % W) e
      simp only [Nat.mul_add_mod_self_right] at this
      rw [Nat.mod_eq_of_lt h1, Nat.mod_eq_of_lt h2] at this
      exact this
    have e2 : code W b n = code W c n := by
      rw [e1] at e
      have : code W b n * W = code W c n * W := by omega
      exact Nat.eq_of_mul_eq_mul_right (by omega) this
    by_cases z : i = n
    · rw [z]; exact e1
    · exact code_inj (fun i hi => hb i (by omega)) (fun i hi => hc i (by omega)) e2 i (by omega)
theorem pigeon : ∀ (N : Nat) (f : Nat → Nat), (∀ t, t ≤ N → f t < N) → ∃ s t, s < t ∧ t ≤ N ∧ f s = f t
  | 0, f, h => by have := h 0 (by omega); omega
  | N + 1, f, h => by
    by_cases z : ∃ s, s ≤ N ∧ f s = f (N + 1)
    · obtain ⟨s, hs, e⟩ := z
      exact ⟨s, N + 1, by omega, by omega, e⟩
    · -- send what equals N to f (N+1)
      obtain ⟨s, t, h1, h2, h3⟩ := pigeon N (fun t => if f t = N then f (N + 1) else f t) fun t ht => by
        have h1 := h t (by omega)
        have h2 := h (N + 1) (by omega)
        split
        · rename_i e
          have : f (N + 1) ≠ N := fun e2 => z ⟨t, ht, by omega⟩
          omega
        · omega
      refine ⟨s, t, h1, by omega, ?_⟩
      have h3 : (if f s = N then f (N + 1) else f s) = if f t = N then f (N + 1) else f t := h3
      split at h3 <;> split at h3
      · omega
      · exact absurd h3.symm fun e => z ⟨t, h2, e⟩
      · exact absurd h3 fun e => z ⟨s, by omega, e⟩
      · exact h3
/-- the walk over the bases ends -/
theorem ends (hw : P.wd ≤ P.W) (nx : Bs → Option (Nat × Nat)) (hn : ∀ b q r, Good P b → nx b = some (q, r) → Ent P b q ∧ Lv P b q r) (b0 : Bs) (G0 : Good P b0) (seq : Nat → Bs) (h0 : seq 0 = b0)
    (hs : ∀ t, ∃ q r, nx (seq t) = some (q, r) ∧ seq (t + 1) = up (seq t) r q) : False := by
  have good : ∀ t, Good P (seq t) := by
    intro t
    induction t with
    | zero => rw [h0]; exact G0
    | succ t ih =>
      obtain ⟨q, r, e1, e2⟩ := hs t
      obtain ⟨E, L⟩ := hn _ _ _ ih e1
      rw [e2]
      exact ih.up L (Nat.lt_of_lt_of_le E.lt hw)
  obtain ⟨s, t, h1, h2, h3⟩ := pigeon (P.W ^ P.m) (fun t => code P.W (seq t) P.m) fun t _ => code_lt fun i hi => (good t).lt i hi
  have he := code_inj (fun i hi => (good s).lt i hi) (fun i hi => (good t).lt i hi) h3
  have far : ∀ t i, P.m ≤ i → seq t i = b0 i := by
    intro t
    induction t with
    | zero => intro i _; rw [h0]
    | succ t ih =>
      intro i hi
      obtain ⟨q, r, e1, e2⟩ := hs t
      obtain ⟨E, L⟩ := hn _ _ _ (good t) e1
      rw [e2]
      unfold up
      rw [if_neg (by have := L.lt; omega)]
      exact ih i hi
  have est : seq s = seq t := by
    funext i
    rcases Nat.lt_or_ge i P.m with z | z
    · exact he i z
    · rw [far s i z, far t i z]
  have det1 : ∀ x y, seq x = seq y → seq (x + 1) = seq (y + 1) := fun x y e => by
    obtain ⟨q, r, e1, e2⟩ := hs x
    obtain ⟨q', r', e3, e4⟩ := hs y
    rw [e, e3] at e1
    cases e1
    rw [e2, e4, e]
  have det2 : ∀ k, seq (s + k) = seq (t + k) := by
    intro k
    induction k with
    | zero => exact est
    | succ k ih => exact det1 _ _ ih
  let q := fun k => ((nx (seq (s + k))).getD (0, 0)).1
  let r := fun k => ((nx (seq (s + k))).getD (0, 0)).2
  have R : Run P (fun k => seq (s + k)) q r := {
    good := fun k => good _
    ent := fun k => by
      obtain ⟨a, b, e1, e2⟩ := hs (s + k)
      have e : q k = a := by show ((nx (seq (s + k))).getD (0, 0)).1 = a; rw [e1]; rfl
      rw [e]
      exact (hn _ _ _ (good _) e1).1
    lv := fun k => by
      obtain ⟨a, b, e1, e2⟩ := hs (s + k)
      have e : q k = a := by show ((nx (seq (s + k))).getD (0, 0)).1 = a; rw [e1]; rfl
      have e' : r k = b := by show ((nx (seq (s + k))).getD (0, 0)).2 = b; rw [e1]; rfl
      rw [e, e']
      exact (hn _ _ _ (good _) e1).2
    step := fun k => by
      obtain ⟨a, b, e1, e2⟩ := hs (s + k)
      have e : q k = a := by show ((nx (seq (s + k))).getD (0, 0)).1 = a; rw [e1]; rfl
      have e' : r k = b := by show ((nx (seq (s + k))).getD (0, 0)).2 = b; rw [e1]; rfl
      rw [e, e']
      exact e2
    hw := hw }
  have per : ∀ k, seq (s + (k + (t - s))) = seq (s + k) := fun k => by
    have : s + (k + (t - s)) = t + k := by omega
    rw [this, det2]
  exact R.never (N := t - s) (by omega) per fun k => by
    show ((nx (seq (s + (k + (t - s))))).getD (0, 0)).1 = _
    rw [per]
end SM
set_option linter.all false
set_option maxRecDepth 10000
namespace SM
variable {P : Prob}
/-! ## at the end -/
structure Done (P : Prob) (b : Bs) : Prop where
  good : Good P b
  ge : ∀ j, j < P.wd → 0 ≤ P.g b j
/-- costs: helpers alone, behind the others -/
structure Costs (P : Prob) : Prop where
  nn : ∀ j, 0 ≤ P.c j
  lo : ∀ j, j < P.wd → P.c j = 0
  one : ∀ j, P.wd ≤ j → j < P.W → 0 < P.c j
  W : P.c P.W = 0
  hw : P.wd ≤ P.W
theorem g_W (C : Costs P) (b : Bs) : P.g b P.W = - sm P.m fun k => P.c (b k) * P.T b k P.W := by
  unfold Prob.g
  rw [C.W]
  omega
theorem g_W_le (C : Costs P) {b : Bs} (G : Good P b) : P.g b P.W ≤ 0 := by
  rw [g_W C]
  have := sm_nonneg (n := P.m) (f := fun k => P.c (b k) * P.T b k P.W) fun k hk => Int.mul_nonneg (C.nn _) (G.W k hk)
  omega
theorem sm_zero_all {n : Nat} {f : Nat → Int} (h : ∀ k, k < n → 0 ≤ f k) (e : sm n f = 0) : ∀ k, k < n → f k = 0 := by
  induction n with
  | zero => intro k hk; omega
  | succ n ih =>
    have h1 := sm_nonneg (n := n) (f := f) fun k hk => h k (by omega)
    have h2 := h n (by omega)
    simp only [sm] at e
    intro k hk
    by_cases z : k = n
    · rw [z]; omega
    · exact ih (fun k hk => h k (by omega)) (by omega) k (by omega)
/-- the values of the columns -/
def val (P : Prob) (b : Bs) (j : Nat) : Int := sm P.m fun k => if b k = j then P.T b k P.W else 0
theorem val_nn {b : Bs} (G : Good P b) (j : Nat) : 0 ≤ val P b j := sm_nonneg fun k hk => by
  split
  · exact G.W k hk
  · exact Int.le_refl 0
theorem val_base {b : Bs} (G : Good P b) {i : Nat} (hi : i < P.m) : val P b (b i) = P.T b i P.W := by
  unfold val
  rw [sm_one (i := i) hi]
  · rw [if_pos rfl]
  · intro k hk ne
    rw [if_neg fun e => ne (inj G hk hi e)]
theorem val_none {b : Bs} {j : Nat} (h : ∀ i, i < P.m → b i ≠ j) : val P b j = 0 := sm_zero fun k hk => if_neg (h k hk)
/-- a sum over the columns, by rows -/
theorem val_sum {b : Bs} (G : Good P b) (f : Nat → Int) : sm P.W (fun j => val P b j * f j) = sm P.m fun k => P.T b k P.W * f (b k) := by
  have e1 : sm P.W (fun j => val P b j * f j) = sm P.W fun j => sm P.m fun k => if b k = j then P.T b k P.W * f (b k) else 0 := by
    refine sm_congr fun j _ => ?_
    unfold val
    rw [← sm_mulr]
    refine sm_congr fun k _ => ?_
    split
    · rename_i e; rw [e]
    · simp
  rw [e1, sm_swap]
  refine sm_congr fun k hk => ?_
  rw [sm_one (i := b k) (G.lt k hk)]
  · rw [if_pos rfl]
  · intro j _ ne
    rw [if_neg (Ne.symm ne)]
theorem val_rows {b : Bs} (G : Good P b) {s : Nat} (hs : s < P.m) : sm P.W (fun j => val P b j * P.A j s) = P.d b * P.A P.W s := by
  rw [val_sum G fun j => P.A j s, cram hs]
theorem sound (C : Costs P) {b : Bs} (G : Good P b) (h : P.g b P.W = 0) {j : Nat} (h1 : P.wd ≤ j) (h2 : j < P.W) : val P b j = 0 := by
  rw [g_W C] at h
  have h3 := sm_zero_all (n := P.m) (f := fun k => P.c (b k) * P.T b k P.W) (fun k hk => Int.mul_nonneg (C.nn _) (G.W k hk)) (by omega)
  refine sm_zero fun k hk => ?_
  split
  · rename_i e
    have h4 : P.c (b k) * P.T b k P.W = 0 := h3 k hk
    rcases Int.mul_eq_zero.mp h4 with z | z
    · rw [e] at z
      have := C.one j h1 h2
      omega
    · exact z
  · rfl
/-- a solution: of what is not below nought, without helpers -/
structure Sol (P : Prob) (y : Nat → Int) : Prop where
  nn : ∀ j, j < P.W → 0 ≤ y j
  no : ∀ j, P.wd ≤ j → j < P.W → y j = 0
  row : ∀ s, s < P.m → sm P.W (fun j => y j * P.A j s) = P.A P.W s
theorem T_sum {b : Bs} {y : Nat → Int} (Y : Sol P y) {k : Nat} (hk : k < P.m) : P.T b k P.W = sm P.W fun j => y j * P.T b k j := by
  unfold Prob.T
  rw [← det_sum (P.B b) hk P.W y P.A]
  refine det_congr fun j s hj hs => ?_
  by_cases h : j = k
  · subst h
    rw [rep_same, rep_same]
    exact (Y.row s hs).symm
  · rw [rep_ne h, rep_ne h]
theorem complete (C : Costs P) {b : Bs} (E : Done P b) {y : Nat → Int} (Y : Sol P y) : P.g b P.W = 0 := by
  have h1 : sm P.W (fun j => y j * P.g b j) = P.g b P.W := by
    rw [g_W C]
    have e : ∀ j, j < P.W → y j * P.g b j = - sm P.m fun k => P.c (b k) * (y j * P.T b k j) := fun j hj => by
      have e1 : y j * P.c j = 0 := by
        rcases Nat.lt_or_ge j P.wd with z | z
        · rw [C.lo j z, Int.mul_zero]
        · rw [Y.no j z hj, Int.zero_mul]
      unfold Prob.g
      rw [Int.mul_sub, ← sm_mul]
      have e2 : y j * (P.d b * P.c j) = P.d b * (y j * P.c j) := by grind
      rw [e2, e1, Int.mul_zero, Int.zero_sub]
      congr 1
      refine sm_congr fun k _ => ?_
      grind
    rw [sm_congr e, sm_neg]
    congr 1
    rw [sm_swap]
    refine sm_congr fun k hk => ?_
    rw [sm_mul, ← T_sum Y hk]
  have h2 : 0 ≤ sm P.W fun j => y j * P.g b j := sm_nonneg fun j hj => by
    rcases Nat.lt_or_ge j P.wd with z | z
    · exact Int.mul_nonneg (Y.nn j hj) (E.ge j z)
    · rw [Y.no j z hj, Int.zero_mul]
      exact Int.le_refl 0
  have h3 := g_W_le C E.good
  omega
/-! ## sizes -/
theorem T_abs {b : Bs} {M : Nat} (hM : ∀ j s, j ≤ P.W → s < P.m → (P.A j s).natAbs ≤ M) (hb : ∀ i, i < P.m → b i < P.W) {i j : Nat} (hj : j ≤ P.W) : (P.T b i j).natAbs ≤ (P.m * M) ^ P.m := by
  refine det_abs fun k s hk hs => ?_
  unfold rep
  split
  · exact hM j s hj hs
  · exact hM _ s (Nat.le_of_lt (hb k hk)) hs
theorem d_abs {b : Bs} {M : Nat} (hM : ∀ j s, j ≤ P.W → s < P.m → (P.A j s).natAbs ≤ M) (hb : ∀ i, i < P.m → b i < P.W) : (P.d b).natAbs ≤ (P.m * M) ^ P.m := by
  refine det_abs fun k s hk hs => hM _ s (Nat.le_of_lt (hb k hk)) hs
theorem g_abs {b : Bs} {M : Nat} (hM : ∀ j s, j ≤ P.W → s < P.m → (P.A j s).natAbs ≤ M) (hb : ∀ i, i < P.m → b i < P.W) (hc : ∀ j, (P.c j).natAbs ≤ 1) {j : Nat} (hj : j ≤ P.W) : (P.g b j).natAbs ≤ (P.m + 1) * (P.m * M) ^ P.m := by
  unfold Prob.g
  have h1 : (P.d b * P.c j).natAbs ≤ (P.m * M) ^ P.m := by
    rw [Int.natAbs_mul]
    calc _ ≤ (P.m * M) ^ P.m * 1 := Nat.mul_le_mul (d_abs hM hb) (hc j)
      _ = _ := Nat.mul_one _
  have h2 : (sm P.m fun k => P.c (b k) * P.T b k j).natAbs ≤ P.m * (P.m * M) ^ P.m := sm_abs fun k hk => by
    rw [Int.natAbs_mul]
    calc _ ≤ 1 * (P.m * M) ^ P.m := Nat.mul_le_mul (hc _) (T_abs hM hb hj)
      _ = _ := Nat.one_mul _
  have h3 : (P.d b * P.c j - sm P.m fun k => P.c (b k) * P.T b k j).natAbs ≤ (P.d b * P.c j).natAbs + (sm P.m fun k => P.c (b k) * P.T b k j).natAbs := by
    omega
  rw [Nat.add_mul, Nat.one_mul]
  omega
end SM
set_option linter.all false
set_option maxRecDepth 10000
namespace SM
variable {P : Prob}
/-! ## who leaves -/
/-- better: a smaller ratio, or the same and a smaller column -/
def better (P : Prob) (b : Bs) (q i k : Nat) : Bool := decide (P.T b i P.W * P.T b k q < P.T b k P.W * P.T b i q ∨ (P.T b i P.W * P.T b k q = P.T b k P.W * P.T b i q ∧ b i < b k))
def lvStep (P : Prob) (b : Bs) (q : Nat) (best : Option Nat) (i : Nat) : Option Nat := if 0 < P.T b i q then match best with
  | none => some i
  | some k => if better P b q i k = true then some i else some k
  else best
def lvOf (P : Prob) (b : Bs) (q : Nat) : Nat → Option Nat
  | 0 => none
  | n + 1 => lvStep P b q (lvOf P b q n) n
def le2 (P : Prob) (b : Bs) (q r i : Nat) : Prop := P.T b r P.W * P.T b i q < P.T b i P.W * P.T b r q ∨ (P.T b r P.W * P.T b i q = P.T b i P.W * P.T b r q ∧ b r ≤ b i)
theorem cross_lt {a b c d e f : Int} (hd : 0 < d) (hb : 0 < b) (hf : 0 < f) (h1 : a * d < c * b) (h2 : c * f ≤ e * d) : a * f < e * b := by
  have e1 : a * d * f < c * b * f := Int.mul_lt_mul_of_pos_right h1 hf
  have e2 : c * f * b ≤ e * d * b := Int.mul_le_mul_of_nonneg_right h2 (by omega)
  have e3 : (a * f) * d < (e * b) * d := by
    have : a * f * d = a * d * f := by grind
    have : c * b * f = c * f * b := by grind
    have : e * b * d = e * d * b := by grind
    omega
  exact Int.lt_of_mul_lt_mul_right e3 (by omega)
theorem cross_lt2 {a b c d e f : Int} (hd : 0 < d) (hb : 0 < b) (hf : 0 < f) (h1 : a * d ≤ c * b) (h2 : c * f < e * d) : a * f < e * b := by
  have e1 : a * d * f ≤ c * b * f := Int.mul_le_mul_of_nonneg_right h1 (by omega)
  have e2 : c * f * b < e * d * b := Int.mul_lt_mul_of_pos_right h2 hb
  have e3 : (a * f) * d < (e * b) * d := by
    have : a * f * d = a * d * f := by grind
    have : c * b * f = c * f * b := by grind
    have : e * b * d = e * d * b := by grind
    omega
  exact Int.lt_of_mul_lt_mul_right e3 (by omega)
theorem cross_eq {a b c d e f : Int} (hd : 0 < d) (h1 : a * d = c * b) (h2 : c * f = e * d) : a * f = e * b := by
  have e3 : (a * f) * d = (e * b) * d := by
    have e1 : a * f * d = a * d * f := by grind
    have e2 : e * b * d = e * d * b := by grind
    rw [e1, e2, h1, ← h2]
    grind
  exact Int.eq_of_mul_eq_mul_right (by omega) e3
theorem le2_trans {b : Bs} {q r i j : Nat} (hr : 0 < P.T b r q) (hi : 0 < P.T b i q) (hj : 0 < P.T b j q) (h1 : le2 P b q r i) (h2 : le2 P b q i j) : le2 P b q r j := by
  rcases h1 with h1 | ⟨h1, l1⟩
  · rcases h2 with h2 | ⟨h2, l2⟩
    · exact .inl (cross_lt hi hr hj h1 (by omega))
    · exact .inl (cross_lt hi hr hj h1 (by omega))
  · rcases h2 with h2 | ⟨h2, l2⟩
    · exact .inl (cross_lt2 hi hr hj (by omega) h2)
    · exact .inr ⟨cross_eq hi h1 h2, by omega⟩
theorem le2_refl {b : Bs} {q r : Nat} : le2 P b q r r := .inr ⟨rfl, Nat.le_refl _⟩
theorem le2_total {b : Bs} {q i k : Nat} : better P b q i k = true → le2 P b q i k := fun h => by
  rcases of_decide_eq_true h with h | ⟨h, l⟩
  · exact .inl h
  · exact .inr ⟨h, by omega⟩
theorem le2_not {b : Bs} {q i k : Nat} (h : ¬ better P b q i k = true) : le2 P b q k i := by
  have h : ¬ _ := fun z => h (decide_eq_true z)
  rcases Int.lt_trichotomy (P.T b i P.W * P.T b k q) (P.T b k P.W * P.T b i q) with z | z | z
  · exact absurd (.inl z) h
  · refine .inr ⟨z.symm, ?_⟩
    rcases Nat.lt_or_ge (b i) (b k) with y | y
    · exact absurd (.inr ⟨z, y⟩) h
    · exact y
  · exact .inl z
theorem lvOf_ok {b : Bs} {q : Nat} : ∀ n, match lvOf P b q n with
    | none => ∀ i, i < n → ¬ 0 < P.T b i q
    | some r => r < n ∧ 0 < P.T b r q ∧ ∀ i, i < n → 0 < P.T b i q → le2 P b q r i
  | 0 => by
    show ∀ i, i < 0 → _
    intro i hi
    omega
  | n + 1 => by
    have ih := lvOf_ok (b := b) (q := q) n
    have e : lvOf P b q (n + 1) = lvStep P b q (lvOf P b q n) n := rfl
    rw [e]
    unfold lvStep
    by_cases hp : 0 < P.T b n q
    · rw [if_pos hp]
      cases h : lvOf P b q n with
      | none =>
        rw [h] at ih
        refine ⟨by omega, hp, fun i hi hT => ?_⟩
        by_cases z : i = n
        · rw [z]; exact le2_refl
        · exact absurd hT (ih i (by omega))
      | some k =>
        rw [h] at ih
        obtain ⟨h1, h2, h3⟩ := ih
        simp only
        by_cases hb : better P b q n k = true
        · rw [if_pos hb]
          refine ⟨by omega, hp, fun i hi hT => ?_⟩
          by_cases z : i = n
          · rw [z]; exact le2_refl
          · exact le2_trans hp h2 hT (le2_total hb) (h3 i (by omega) hT)
        · rw [if_neg hb]
          refine ⟨by omega, h2, fun i hi hT => ?_⟩
          by_cases z : i = n
          · rw [z]; exact le2_not hb
          · exact h3 i (by omega) hT
    · rw [if_neg hp]
      cases h : lvOf P b q n with
      | none =>
        rw [h] at ih
        intro i hi
        by_cases z : i = n
        · rw [z]; exact hp
        · exact ih i (by omega)
      | some k =>
        rw [h] at ih
        obtain ⟨h1, h2, h3⟩ := ih
        refine ⟨by omega, h2, fun i hi hT => ?_⟩
        by_cases z : i = n
        · rw [z] at hT; exact absurd hT hp
        · exact h3 i (by omega) hT
theorem lvOf_some {b : Bs} {q : Nat} (G : Good P b) (C : Costs P) (hq : P.g b q < 0) : ∃ r, lvOf P b q P.m = some r ∧ Lv P b q r := by
  have h := lvOf_ok (P := P) (b := b) (q := q) P.m
  cases e : lvOf P b q P.m with
  | none =>
    rw [e] at h
    obtain ⟨i, hi, hp⟩ := some_pos G C.nn hq
    exact absurd hp (h i hi)
  | some r =>
    rw [e] at h
    exact ⟨r, rfl, h.1, h.2.1, h.2.2⟩
/-! ## who enters -/
def enOf (P : Prob) (b : Bs) : Option Nat := (List.range P.wd).find? fun j => decide (P.g b j < 0)
theorem enOf_some {b : Bs} {q : Nat} (h : enOf P b = some q) : Ent P b q := by
  unfold enOf at h
  rw [List.find?_range_eq_some] at h
  obtain ⟨h1, h2, h3⟩ := h
  refine ⟨by simpa using h2, of_decide_eq_true h1, fun j hj => ?_⟩
  have := h3 j hj
  simp at this
  exact this
theorem enOf_none {b : Bs} (h : enOf P b = none) : ∀ j, j < P.wd → 0 ≤ P.g b j := by
  unfold enOf at h
  rw [List.find?_eq_none] at h
  intro j hj
  have := h j (List.mem_range.mpr hj)
  simpa using this
/-- the next step, if there is one -/
def nxt (P : Prob) (b : Bs) : Option (Nat × Nat) := match enOf P b with
  | none => none
  | some q => (lvOf P b q P.m).map fun r => (q, r)
theorem nxt_some {b : Bs} {q r : Nat} (G : Good P b) (C : Costs P) (h : nxt P b = some (q, r)) : Ent P b q ∧ Lv P b q r := by
  unfold nxt at h
  split at h
  · cases h
  · rename_i q' e
    have E := enOf_some e
    obtain ⟨r', e2, L⟩ := lvOf_some G C E.neg
    rw [e2] at h
    cases h
    exact ⟨E, L⟩
theorem nxt_none {b : Bs} (G : Good P b) (C : Costs P) (h : nxt P b = none) : enOf P b = none := by
  unfold nxt at h
  split at h
  · assumption
  · rename_i q' e
    obtain ⟨r', e2, L⟩ := lvOf_some G C (enOf_some e).neg
    rw [e2] at h
    cases h
def iter (P : Prob) (b : Bs) : Nat → Bs
  | 0 => b
  | n + 1 => match nxt P (iter P b n) with
    | some (q, r) => up (iter P b n) r q
    | none => iter P b n
theorem iter_good {b : Bs} (C : Costs P) (G : Good P b) : ∀ n, Good P (iter P b n)
  | 0 => G
  | n + 1 => by
    have ih := iter_good C G n
    show Good P (match nxt P (iter P b n) with
      | some (q, r) => up (iter P b n) r q
      | none => iter P b n)
    split
    · rename_i q r e
      obtain ⟨E, L⟩ := nxt_some ih C e
      exact ih.up L (Nat.lt_of_lt_of_le E.lt C.hw)
    · exact ih
/-- after so many steps none is left -/
theorem iter_ends {b : Bs} (C : Costs P) (G : Good P b) : ∃ n, nxt P (iter P b n) = none ∧ ∀ k, k < n → nxt P (iter P b k) ≠ none := by
  have h : ∃ n, nxt P (iter P b n) = none := by
    apply Classical.byContradiction
    intro z
    refine ends C.hw (nxt P) (fun b q r G e => nxt_some G C e) b G (iter P b) rfl fun t => ?_
    cases e : nxt P (iter P b t) with
    | none => exact absurd ⟨t, e⟩ z
    | some qr =>
      obtain ⟨q, r⟩ := qr
      refine ⟨q, r, rfl, ?_⟩
      show (match nxt P (iter P b t) with
        | some (q, r) => up (iter P b t) r q
        | none => iter P b t) = _
      rw [e]
  obtain ⟨n, hn⟩ := h
  have wf : ∀ n, nxt P (iter P b n) = none → ∃ m, nxt P (iter P b m) = none ∧ ∀ k, k < m → nxt P (iter P b k) ≠ none := by
    intro n
    induction n using Nat.strongRecOn with
    | _ n ih =>
      intro hn
      by_cases z : ∃ k, k < n ∧ nxt P (iter P b k) = none
      · obtain ⟨k, hk, e⟩ := z
        exact ih k hk e
      · exact ⟨n, hn, fun k hk e => z ⟨k, hk, e⟩⟩
  exact wf n hn
/-! ## the lists of the program -/
def rowL (P : Prob) (b : Bs) (i : Nat) : List Int := (List.range (P.W + 1)).map (P.T b i)
def goalL (P : Prob) (b : Bs) : List Int := (List.range (P.W + 1)).map (P.g b)
def led (div : Int) (line chosen : List Int) (pivot factor : Int) : List Int := List.zipWith (fun n o => (n * pivot - factor * o) / div) line chosen
theorem zip_range (n : Nat) (f g : Nat → Int) (k : Int → Int → Int) : List.zipWith k ((List.range n).map f) ((List.range n).map g) = (List.range n).map fun j => k (f j) (g j) := by
  apply List.ext_getElem
  · simp
  · intro i h1 h2
    simp
theorem led_row {b : Bs} {r q i : Nat} (G : Good P b) (hi : i < P.m) (hr : r < P.m) (ne : i ≠ r) : led (P.d b) (rowL P b i) (rowL P b r) (P.T b r q) (P.T b i q) = rowL P (up b r q) i := by
  unfold led rowL
  rw [zip_range]
  apply List.map_congr_left
  intro j _
  have h := T_up (b := b) (r := r) (q := q) (i := i) (j := j) hi hr ne
  have e : P.T b i j * P.T b r q - P.T b i q * P.T b r j = P.d b * P.T (up b r q) i j := by
    rw [h, Int.mul_comm (P.T b i q)]
  rw [e]
  exact Int.mul_ediv_cancel_left _ (by have := G.d; omega)
theorem led_goal {b : Bs} {r q : Nat} (G : Good P b) (hr : r < P.m) (hp : 0 < P.T b r q) : led (P.d b) (goalL P b) (rowL P b r) (P.T b r q) (P.g b q) = goalL P (up b r q) := by
  unfold led rowL goalL
  rw [zip_range]
  apply List.map_congr_left
  intro j _
  have h := g_up (b := b) (r := r) (q := q) (j := j) hr (by omega)
  have e : P.g b j * P.T b r q - P.g b q * P.T b r j = P.d b * P.g (up b r q) j := by
    rw [h, Int.mul_comm (P.T b r q)]
  rw [e]
  exact Int.mul_ediv_cancel_left _ (by have := G.d; omega)
theorem row_same (b : Bs) (r q : Nat) : rowL P (up b r q) r = rowL P b r := by
  unfold rowL
  apply List.map_congr_left
  intro j _
  exact T_up_r b r q j
end SM
set_option linter.all false
set_option maxRecDepth 10000
namespace SM
/-! ## rows: strict or weak, of n numbers -/
structure Rows where
  m : Nat
  n : Nat
  st : Nat → Bool
  a : Nat → Nat → Int
def Rows.hl (R : Rows) : List Nat := (List.range R.m).filter R.st
def Rows.sgn (R : Rows) (i : Nat) : Int := if R.st i = true then 1 else -1
def Rows.w (R : Rows) : Nat := R.n + R.m
def Rows.W (R : Rows) : Nat := R.w + R.hl.length
def b2i (c : Bool) : Int := if c = true then 1 else 0
def Rows.A (R : Rows) : Cols := fun j i => if j < R.n then R.sgn i * R.a i j else if j < R.w then - R.sgn i * b2i (decide (j - R.n = i)) else if j < R.W then b2i (decide (R.hl[j - R.w]? = some i)) else b2i (R.st i)
def Rows.P (R : Rows) : Prob := ⟨R.m, R.W, R.A, fun j => if R.w ≤ j ∧ j < R.W then 1 else 0, R.w⟩
def Rows.cnt (R : Rows) (k : Nat) : Nat := ((List.range k).filter R.st).length
def Rows.b0 (R : Rows) : Bs := fun k => if R.st k = true then R.w + R.cnt k else R.n + k
variable {R : Rows}
theorem hl_at {st : Nat → Bool} : ∀ {m k : Nat}, k < m → st k = true → ((List.range m).filter st)[((List.range k).filter st).length]? = some k
  | 0, k, h, _ => by omega
  | m + 1, k, h, hs => by
    rw [List.range_succ, List.filter_append]
    by_cases e : k = m
    · subst e
      rw [List.getElem?_append_right (Nat.le_refl _), Nat.sub_self, List.filter_cons, if_pos hs]
      rfl
    · have ih := hl_at (m := m) (k := k) (by omega) hs
      rw [List.getElem?_append_left (List.getElem?_eq_some_iff.mp ih).1]
      exact ih
theorem cnt_lt {k : Nat} (hk : k < R.m) (hs : R.st k = true) : R.cnt k < R.hl.length := (List.getElem?_eq_some_iff.mp (hl_at hk hs)).1
theorem b0_lt {k : Nat} (hk : k < R.m) : R.b0 k < R.W := by
  unfold Rows.b0
  split
  · rename_i hs
    have := cnt_lt hk hs
    unfold Rows.W
    omega
  · unfold Rows.W Rows.w
    omega
theorem A_b0 {k s : Nat} (hk : k < R.m) : R.A (R.b0 k) s = if k = s then 1 else 0 := by
  unfold Rows.A Rows.b0
  by_cases hs : R.st k = true
  · rw [if_pos hs]
    have h1 := cnt_lt hk hs
    have e : R.w + R.cnt k - R.w = R.cnt k := by omega
    have h3 : R.hl[R.cnt k]? = some k := hl_at hk hs
    rw [if_neg (show ¬ R.w + R.cnt k < R.n by unfold Rows.w; omega), if_neg (show ¬ R.w + R.cnt k < R.w by omega), if_pos (show R.w + R.cnt k < R.W by unfold Rows.W; omega), e, h3]
    unfold b2i
    by_cases z : k = s
    · subst z
      simp
    · rw [if_neg z, if_neg]
      simpa using z
  · rw [if_neg hs]
    rw [if_neg (show ¬ R.n + k < R.n by omega), if_pos (show R.n + k < R.w by unfold Rows.w; omega)]
    have e : R.n + k - R.n = k := by omega
    rw [e]
    unfold b2i
    by_cases z : k = s
    · subst z
      unfold Rows.sgn
      rw [if_neg hs]
      simp
    · rw [if_neg z]
      simp [z]
theorem det_id : ∀ (n : Nat) (v : Cols), (∀ k s, k < n → s < n → v k s = if k = s then 1 else 0) → det n v = 1
  | 0, _, _ => rfl
  | n + 1, v, h => by
    show sm (n + 1) _ = 1
    rw [sm_one (i := 0) (by omega)]
    · rw [h 0 0 (by omega) (by omega), if_pos rfl]
      have : det n (dns fun j => v (skip 0 j)) = 1 := det_id n _ fun k s hk hs => by
        show v (skip 0 k) (s + 1) = _
        have e : skip 0 k = k + 1 := rfl
        rw [e, h (k + 1) (s + 1) (by omega) (by omega)]
        by_cases z : k = s
        · rw [if_pos z, if_pos (by omega)]
        · rw [if_neg z, if_neg (by omega)]
      rw [this]
      rfl
    · intro k hk ne
      rw [h k 0 hk (by omega), if_neg ne]
      simp
theorem d_b0 : R.P.d R.b0 = 1 := det_id R.m _ fun k s hk hs => A_b0 hk
theorem T_b0 {i j : Nat} (hi : i < R.m) : R.P.T R.b0 i j = R.A j i := by
  have h : R.P.d R.b0 * R.P.A j i = sm R.P.m fun k => R.P.T R.b0 k j * R.P.A (R.b0 k) i := cram hi
  rw [d_b0, Int.one_mul] at h
  have h2 : R.A j i = sm R.m fun k => R.P.T R.b0 k j * R.A (R.b0 k) i := h
  rw [h2, sm_one (i := i) hi]
  · rw [A_b0 hi, if_pos rfl, Int.mul_one]
  · intro k hk ne
    rw [A_b0 hk, if_neg ne, Int.mul_zero]
theorem A_W {i : Nat} : R.A R.W i = b2i (R.st i) := by
  unfold Rows.A
  have h1 : R.n ≤ R.w := by unfold Rows.w; omega
  have h2 : R.w ≤ R.W := by unfold Rows.W; omega
  rw [if_neg (by omega), if_neg (by omega), if_neg (by omega)]
theorem costs : Costs R.P where
  nn := fun j => by
    show 0 ≤ if R.w ≤ j ∧ j < R.W then (1 : Int) else 0
    split <;> omega
  lo := fun j hj => if_neg fun h => by
    have hj : j < R.w := hj
    omega
  one := fun j h1 h2 => by
    show 0 < if R.w ≤ j ∧ j < R.W then (1 : Int) else 0
    rw [if_pos ⟨h1, h2⟩]
    omega
  W := if_neg fun h => Nat.lt_irrefl _ h.2
  hw := by
    show R.w ≤ R.W
    unfold Rows.W
    omega
theorem good0 : Good R.P R.b0 where
  d := by rw [d_b0]; omega
  W := fun i hi => by
    show 0 ≤ R.P.T R.b0 i R.W
    rw [T_b0 hi, A_W]
    unfold b2i
    split <;> omega
  lt := fun i hi => b0_lt hi
/-- the goal at the beginning -/
theorem g_b0 (j : Nat) : R.P.g R.b0 j = (if R.w ≤ j ∧ j < R.W then 1 else 0) - sm R.m fun k => if R.st k = true then R.A j k else 0 := by
  unfold Prob.g
  rw [d_b0, Int.one_mul]
  show _ - sm R.m _ = _
  congr 1
  refine sm_congr fun k hk => ?_
  rw [T_b0 hk]
  show (if R.w ≤ R.b0 k ∧ R.b0 k < R.W then (1 : Int) else 0) * R.A j k = _
  by_cases hs : R.st k = true
  · have h1 := cnt_lt hk hs
    rw [if_pos hs, if_pos, Int.one_mul]
    unfold Rows.b0 Rows.W
    rw [if_pos hs]
    omega
  · rw [if_neg hs, if_neg, Int.zero_mul]
    unfold Rows.b0 Rows.w
    rw [if_neg hs]
    omega
/-! ## solutions of rows -/
def Rows.dot (R : Rows) (i : Nat) (x : Nat → Int) : Int := sm R.n fun j => R.a i j * x j
structure Feas (R : Rows) (x : Nat → Int) : Prop where
  nn : ∀ j, j < R.n → 0 ≤ x j
  row : ∀ i, i < R.m → if R.st i = true then 0 < R.dot i x else 0 ≤ R.dot i x
theorem sm_split (f : Nat → Int) : ∀ (a b : Nat), sm (a + b) f = sm a f + sm b fun k => f (a + k)
  | a, 0 => by simp [sm]
  | a, b + 1 => by
    rw [← Nat.add_assoc]
    simp only [sm]
    rw [sm_split f a b]
    omega
/-- a row's sum over all columns -/
theorem row_sum (y : Nat → Int) {i : Nat} (hi : i < R.m) : sm R.W (fun j => y j * R.A j i) = R.sgn i * R.dot i y - R.sgn i * y (R.n + i) + sm R.hl.length fun t => y (R.w + t) * b2i (decide (R.hl[t]? = some i)) := by
  unfold Rows.W
  rw [sm_split]
  have h1 : sm R.w (fun j => y j * R.A j i) = R.sgn i * R.dot i y - R.sgn i * y (R.n + i) := by
    unfold Rows.w
    rw [sm_split]
    have e1 : sm R.n (fun j => y j * R.A j i) = R.sgn i * R.dot i y := by
      unfold Rows.dot
      rw [← sm_mul]
      refine sm_congr fun j hj => ?_
      unfold Rows.A
      rw [if_pos hj]
      grind
    have e2 : sm R.m (fun k => y (R.n + k) * R.A (R.n + k) i) = - (R.sgn i * y (R.n + i)) := by
      rw [sm_one (i := i) hi]
      · unfold Rows.A
        rw [if_neg (show ¬ R.n + i < R.n by omega), if_pos (show R.n + i < R.w by unfold Rows.w; omega)]
        have e : R.n + i - R.n = i := by omega
        rw [e]
        simp [b2i]
        grind
      · intro k hk ne
        unfold Rows.A
        rw [if_neg (show ¬ R.n + k < R.n by omega), if_pos (show R.n + k < R.w by unfold Rows.w; omega)]
        have e : R.n + k - R.n = k := by omega
        rw [e]
        simp [b2i, ne]
    rw [e1, e2]
    omega
  rw [h1]
  congr 1
  refine sm_congr fun t ht => ?_
  unfold Rows.A
  rw [if_neg (show ¬ R.w + t < R.n by unfold Rows.w; omega), if_neg (show ¬ R.w + t < R.w by omega), if_pos (show R.w + t < R.W by unfold Rows.W; omega)]
  have e : R.w + t - R.w = t := by omega
  rw [e]
/-- what is read off at the end, if the goal is nought -/
theorem out_ok {b : Bs} (G : Good R.P b) (h : R.P.g b R.W = 0) : Feas R (val R.P b) where
  nn := fun j _ => val_nn G j
  row := fun i hi => by
    have h1 : sm R.W (fun j => val R.P b j * R.A j i) = R.P.d b * R.A R.W i := val_rows G hi
    rw [row_sum _ hi] at h1
    have h2 : (sm R.hl.length fun t => val R.P b (R.w + t) * b2i (decide (R.hl[t]? = some i))) = 0 := sm_zero fun t ht => by
      have : val R.P b (R.w + t) = 0 := sound costs G h (show R.w ≤ R.w + t by omega) (show R.w + t < R.W by unfold Rows.W; omega)
      rw [this, Int.zero_mul]
    rw [h2, A_W] at h1
    have h3 := val_nn G (R.n + i)
    have h4 := G.d
    unfold Rows.sgn b2i at h1
    by_cases hs : R.st i = true
    · rw [if_pos hs] at h1 ⊢
      rw [if_pos hs] at h1
      omega
    · rw [if_neg hs] at h1 ⊢
      rw [if_neg hs] at h1
      omega
def yOf (R : Rows) (x : Nat → Int) (j : Nat) : Int := if j < R.n then x j else if j < R.w then (if R.st (j - R.n) = true then R.dot (j - R.n) x - 1 else R.dot (j - R.n) x) else 0
theorem in_ok {x : Nat → Int} (F : Feas R x) : ∃ y, Sol R.P y := by
  refine ⟨yOf R x, ?_, ?_, ?_⟩
  · intro j hj
    unfold yOf
    split
    · rename_i h; exact F.nn j h
    · split
      · rename_i h1 h2
        have h3 := F.row (j - R.n) (by unfold Rows.w at h2; omega)
        split
        · rename_i hs
          rw [if_pos hs] at h3
          omega
        · rename_i hs
          rw [if_neg hs] at h3
          exact h3
      · exact Int.le_refl 0
  · intro j h1 h2
    have h1 : R.w ≤ j := h1
    unfold yOf
    rw [if_neg (by unfold Rows.w at h1; omega), if_neg (by omega)]
  · intro i hi
    have hi : i < R.m := hi
    show sm R.W (fun j => yOf R x j * R.A j i) = R.A R.W i
    rw [row_sum _ hi, A_W]
    have e1 : R.dot i (yOf R x) = R.dot i x := sm_congr fun j hj => by
      unfold yOf
      rw [if_pos hj]
    have e2 : (sm R.hl.length fun t => yOf R x (R.w + t) * b2i (decide (R.hl[t]? = some i))) = 0 := sm_zero fun t ht => by
      have : yOf R x (R.w + t) = 0 := by
        unfold yOf
        rw [if_neg (by unfold Rows.w; omega), if_neg (by omega)]
      rw [this, Int.zero_mul]
    have e4 : yOf R x (R.n + i) = if R.st i = true then R.dot i x - 1 else R.dot i x := by
      have e3 : R.n + i - R.n = i := by omega
      unfold yOf
      rw [if_neg (show ¬ R.n + i < R.n by omega), if_pos (show R.n + i < R.w by unfold Rows.w; omega), e3]
    rw [e1, e2, e4]
    unfold Rows.sgn b2i
    by_cases hs : R.st i = true
    · rw [if_pos hs, if_pos hs, if_pos hs]; omega
    · rw [if_neg hs, if_neg hs, if_neg hs]; omega
/-- the solver's last basis -/
def Rows.fin (R : Rows) (b : Bs) : Prop := ∃ n, b = iter R.P R.b0 n ∧ nxt R.P b = none
theorem fin_done {b : Bs} (h : R.fin b) : Done R.P b := by
  obtain ⟨n, e, h⟩ := h
  have G : Good R.P b := by rw [e]; exact iter_good costs good0 n
  exact ⟨G, fun j hj => enOf_none (nxt_none G costs h) j hj⟩
theorem fin_feas {b : Bs} (h : R.fin b) : R.P.g b R.W = 0 ↔ ∃ x, Feas R x := by
  have D := fin_done h
  constructor
  · intro e
    exact ⟨_, out_ok D.good e⟩
  · rintro ⟨x, F⟩
    obtain ⟨y, Y⟩ := in_ok F
    exact complete costs D Y
end SM
set_option linter.all false
set_option maxRecDepth 10000
namespace SM
/-! ## least terms -/
def gcdF (g : Nat) (xs : List Int) : Nat := xs.foldl (fun g x => Nat.gcd g x.natAbs) g
def gcdL (xs : List Int) : Nat := gcdF 0 xs
theorem gcdF_dvd : ∀ (xs : List Int) (g : Nat), gcdF g xs ∣ g ∧ ∀ x ∈ xs, gcdF g xs ∣ x.natAbs
  | [], g => ⟨Nat.dvd_refl g, by simp⟩
  | x :: xs, g => by
    obtain ⟨h1, h2⟩ := gcdF_dvd xs (Nat.gcd g x.natAbs)
    refine ⟨Nat.dvd_trans h1 (Nat.gcd_dvd_left _ _), fun y hy => ?_⟩
    rcases List.mem_cons.mp hy with e | h
    · rw [e]; exact Nat.dvd_trans h1 (Nat.gcd_dvd_right _ _)
    · exact h2 y h
theorem gcdL_dvd {xs : List Int} {x : Int} (h : x ∈ xs) : gcdL xs ∣ x.natAbs := (gcdF_dvd xs 0).2 x h
def dv (xs : List Int) : Int := max (gcdL xs : Int) 1
theorem dv_pos (xs : List Int) : 0 < dv xs := by unfold dv; omega
def ltm (xs : List Int) : List Int := xs.map (· / dv xs)
theorem ltm_length (xs : List Int) : (ltm xs).length = xs.length := by simp [ltm]
theorem dv_le {xs : List Int} {x : Int} (h : x ∈ xs) (hp : 0 < x) : dv xs ≤ x := by
  have h1 := gcdL_dvd h
  have h2 := Nat.le_of_dvd (by omega) h1
  unfold dv
  omega
theorem div_sign {xs : List Int} {x : Int} (h : x ∈ xs) (h0 : 0 ≤ x) : 0 ≤ x / dv xs ∧ (0 < x / dv xs ↔ 0 < x) := by
  have hp := dv_pos xs
  refine ⟨Int.ediv_nonneg h0 (by omega), fun h1 => ?_, fun h1 => ?_⟩
  · rcases Int.lt_or_eq_of_le h0 with z | z
    · exact z
    · rw [← z] at h1; simp at h1
  · exact Int.ediv_pos_of_pos_of_dvd h1 (by omega) (by
      have h2 := gcdL_dvd h
      have h3 : (gcdL xs : Int) ∣ x := Int.ofNat_dvd_left.mpr h2
      have h4 := Nat.pos_of_dvd_of_pos h2 (by omega)
      have : dv xs = (gcdL xs : Int) := by unfold dv; omega
      rw [this]; exact h3)
theorem dv_abs {xs : List Int} {B : Nat} (hB : 1 ≤ B) (h : ∀ x ∈ xs, x.natAbs ≤ B) : (dv xs).natAbs ≤ B := by
  by_cases z : ∃ x ∈ xs, x ≠ 0
  · obtain ⟨x, hx, ne⟩ := z
    have h1 := Nat.le_of_dvd (by omega) (gcdL_dvd hx)
    have h2 := h x hx
    unfold dv
    omega
  · have : ∀ (ys : List Int) (g : Nat), (∀ y ∈ ys, y = 0) → gcdF g ys = g := by
      intro ys
      induction ys with
      | nil => intro g _; rfl
      | cons y ys ih =>
        intro g hy
        have := hy y (by simp)
        subst this
        show gcdF (Nat.gcd g 0) ys = g
        rw [Nat.gcd_zero_right]
        exact ih g fun y h => hy y (by simp [h])
    have e : gcdL xs = 0 := this xs 0 fun y hy => Classical.byContradiction fun ne => z ⟨y, hy, ne⟩
    unfold dv
    rw [e]
    have : (max ((0 : Nat) : Int) 1).natAbs = 1 := rfl
    rw [this]
    exact hB
theorem ltm_abs {xs : List Int} {B : Nat} (h : ∀ x ∈ xs, x.natAbs ≤ B) : ∀ y ∈ ltm xs, y.natAbs ≤ B := by
  intro y hy
  obtain ⟨x, hx, e⟩ := List.mem_map.mp hy
  have h1 := h x hx
  have h2 := dv_pos xs
  have h3 := Int.natAbs_ediv_le_natAbs x (dv xs)
  rw [e] at h3
  omega
theorem getD_map {α β : Type} (f : α → β) (xs : List α) (j : Nat) (d : β) (e : α) (h : j < xs.length) : (xs.map f).getD j d = f (xs.getD j e) := by
  simp [List.getD, h]
theorem ltm_getD {xs : List Int} {j : Nat} (h : j < xs.length) : (ltm xs).getD j 0 = xs.getD j 0 / dv xs := by
  unfold ltm
  rw [getD_map _ _ _ _ 0 h]
theorem getD_mem {xs : List Int} {j : Nat} (h : j < xs.length) : xs.getD j 0 ∈ xs := by
  simp [List.getD, h]
/-- support of a list of numbers -/
structure Nn (xs : List Int) (n : Nat) : Prop where
  len : xs.length = n
  nn : ∀ j, j < n → 0 ≤ xs.getD j 0
theorem ltm_nn {xs : List Int} {n : Nat} (h : Nn xs n) : Nn (ltm xs) n ∧ ∀ j, j < n → (0 < (ltm xs).getD j 0 ↔ 0 < xs.getD j 0) := by
  refine ⟨⟨by rw [ltm_length, h.len], fun j hj => ?_⟩, fun j hj => ?_⟩
  · rw [ltm_getD (by rw [h.len]; exact hj)]
    exact (div_sign (getD_mem (by rw [h.len]; exact hj)) (h.nn j hj)).1
  · rw [ltm_getD (by rw [h.len]; exact hj)]
    exact (div_sign (getD_mem (by rw [h.len]; exact hj)) (h.nn j hj)).2
/-! ## rows of three kinds -/
inductive Kd where
  | weak | strict | even
deriving DecidableEq
abbrev KRow := Kd × List Int
abbrev PRow := Bool × List Int
def plain1 (r : KRow) : List PRow := (decide (r.1 = .strict), r.2) :: if r.1 = .even then [(false, r.2.map (- ·))] else []
def plain (rows : List KRow) : List PRow := rows.flatMap plain1
def Rows.of (ps : List PRow) (n : Nat) : Rows := ⟨ps.length, n, fun i => (ps.getD i (false, [])).1, fun i j => (ps.getD i (false, [])).2.getD j 0⟩
def dotL (ns : List Int) (n : Nat) (x : Nat → Int) : Int := sm n fun j => ns.getD j 0 * x j
def okP (n : Nat) (x : Nat → Int) (p : PRow) : Prop := if p.1 = true then 0 < dotL p.2 n x else 0 ≤ dotL p.2 n x
def okK (n : Nat) (x : Nat → Int) (r : KRow) : Prop := match r.1 with
  | .weak => 0 ≤ dotL r.2 n x
  | .strict => 0 < dotL r.2 n x
  | .even => dotL r.2 n x = 0
structure FeasK (rows : List KRow) (n : Nat) (x : Nat → Int) : Prop where
  nn : ∀ j, j < n → 0 ≤ x j
  row : ∀ r ∈ rows, okK n x r
theorem feas_of {ps : List PRow} {n : Nat} {x : Nat → Int} : Feas (Rows.of ps n) x ↔ (∀ j, j < n → 0 ≤ x j) ∧ ∀ p ∈ ps, okP n x p := by
  constructor
  · intro h
    refine ⟨h.nn, fun p hp => ?_⟩
    obtain ⟨i, hi, e⟩ := List.mem_iff_getElem.mp hp
    have h1 := h.row i hi
    have e2 : ps.getD i (false, []) = p := by simp [List.getD, hi, e]
    unfold Rows.of Rows.dot at h1
    simp only [e2] at h1
    exact h1
  · rintro ⟨h1, h2⟩
    refine ⟨h1, fun i hi => ?_⟩
    have hi : i < ps.length := hi
    have h3 := h2 (ps.getD i (false, [])) (by simp [List.getD, hi])
    exact h3
theorem dotL_neg {ns : List Int} {n : Nat} {x : Nat → Int} : dotL (ns.map (- ·)) n x = - dotL ns n x := by
  unfold dotL
  rw [← sm_neg]
  refine sm_congr fun j _ => ?_
  by_cases h : j < ns.length
  · rw [getD_map _ _ _ _ 0 h, Int.neg_mul]
  · simp [List.getD, h]
theorem feas_plain {rows : List KRow} {n : Nat} {x : Nat → Int} : Feas (Rows.of (plain rows) n) x ↔ FeasK rows n x := by
  rw [feas_of]
  have key : ∀ r : KRow, (∀ p ∈ plain1 r, okP n x p) ↔ okK n x r := by
    rintro ⟨k, ns⟩
    cases k with
    | weak => simp [plain1, okP, okK]
    | strict => simp [plain1, okP, okK]
    | even =>
      simp [plain1, okP, okK]
      have e : (ns.map fun x => -x) = ns.map (- ·) := rfl
      rw [e, dotL_neg]
      omega
  constructor
  · rintro ⟨h1, h2⟩
    exact ⟨h1, fun r hr => (key r).mp fun p hp => h2 p (List.mem_flatMap.mpr ⟨r, hr, hp⟩)⟩
  · intro h
    refine ⟨h.nn, fun p hp => ?_⟩
    obtain ⟨r, hr, hp⟩ := List.mem_flatMap.mp hp
    exact (key r).mpr (h.row r hr) p hp
/-! ## the answer -/
theorem fin_ex (R : Rows) : ∃ b, R.fin b := by
  obtain ⟨n, h, _⟩ := iter_ends (P := R.P) costs good0
  exact ⟨_, n, rfl, h⟩
noncomputable def finB (R : Rows) : Bs := Classical.choose (fin_ex R)
theorem finB_fin (R : Rows) : R.fin (finB R) := Classical.choose_spec (fin_ex R)
theorem iter_stop {P : Prob} {b : Bs} {n : Nat} (h : nxt P (iter P b n) = none) : ∀ k, iter P b (n + k) = iter P b n
  | 0 => rfl
  | k + 1 => by
    have ih := iter_stop h k
    have e : iter P b (n + k + 1) = match nxt P (iter P b (n + k)) with
      | some (q, r) => up (iter P b (n + k)) r q
      | none => iter P b (n + k) := rfl
    rw [← Nat.add_assoc, e, ih, h]
theorem fin_one {R : Rows} {b c : Bs} (h : R.fin b) (h2 : R.fin c) : b = c := by
  obtain ⟨n, e, h⟩ := h
  obtain ⟨k, e2, h2⟩ := h2
  rw [e] at h ⊢
  rw [e2] at h2 ⊢
  rcases Nat.le_total n k with z | z
  · obtain ⟨t, rfl⟩ := Nat.exists_eq_add_of_le z
    exact (iter_stop h t).symm
  · obtain ⟨t, rfl⟩ := Nat.exists_eq_add_of_le z
    exact iter_stop h2 t
noncomputable def nums0 (R : Rows) : List Int := (List.range R.n).map (val R.P (finB R))
noncomputable def feasB (R : Rows) : Bool := decide (R.P.g (finB R) R.W = 0)
theorem feasB_iff {R : Rows} : feasB R = true ↔ ∃ x, Feas R x := by
  unfold feasB
  rw [decide_eq_true_iff]
  exact fin_feas (finB_fin R)
theorem nums0_getD {R : Rows} {j : Nat} (h : j < R.n) : (nums0 R).getD j 0 = val R.P (finB R) j := by
  unfold nums0
  simp [List.getD, h]
theorem nums0_nn {R : Rows} : Nn (nums0 R) R.n := ⟨by simp [nums0], fun j hj => by
  rw [nums0_getD hj]
  exact val_nn (fin_done (finB_fin R)).good j⟩
theorem nums0_feas {R : Rows} (h : feasB R = true) : Feas R (val R.P (finB R)) := out_ok (fin_done (finB_fin R)).good (of_decide_eq_true h)
noncomputable def nums (R : Rows) : List Int := ltm (nums0 R)
theorem nums_nn {R : Rows} : Nn (nums R) R.n := (ltm_nn nums0_nn).1
theorem nums_pos {R : Rows} {j : Nat} (hj : j < R.n) : 0 < (nums R).getD j 0 ↔ 0 < val R.P (finB R) j := by
  rw [← nums0_getD hj]
  exact (ltm_nn nums0_nn).2 j hj
abbrev RK (rows : List KRow) (n : Nat) : Rows := Rows.of (plain rows) n
theorem feasK_iff {rows : List KRow} {n : Nat} : feasB (RK rows n) = true ↔ ∃ x, FeasK rows n x := by
  rw [feasB_iff]
  exact exists_congr fun x => feas_plain
/-! ## the fullest -/
def unit (n at_ : Nat) : KRow := (.strict, (List.range n).map fun k => if k = at_ then 1 else 0)
theorem dot_unit {n a : Nat} (h : a < n) (x : Nat → Int) : dotL (unit n a).2 n x = x a := by
  unfold dotL unit
  rw [sm_one (i := a) h]
  · simp [List.getD, h]
  · intro k hk ne
    simp [List.getD, hk, ne]
noncomputable def full1 (rows : List KRow) (n : Nat) (found : List Int) (a : Nat) : List Int := if found.getD a 0 = 0 then (if feasB (RK (rows ++ [unit n a]) n) = true then List.zipWith (· + ·) found (nums (RK (rows ++ [unit n a]) n)) else found) else found
noncomputable def fullF (rows : List KRow) (n : Nat) : Nat → List Int
  | 0 => nums (RK rows n)
  | k + 1 => full1 rows n (fullF rows n k) k
noncomputable def full (rows : List KRow) (n : Nat) : Option (List Int) := if feasB (RK rows n) = true then some (ltm (fullF rows n n)) else none
def Can (rows : List KRow) (n j : Nat) : Prop := ∃ x, FeasK rows n x ∧ 0 < x j
structure FullInv (rows : List KRow) (n k : Nat) (found : List Int) : Prop where
  nn : Nn found n
  can : ∀ j, j < n → 0 < found.getD j 0 → Can rows n j
  did : ∀ j, j < n → j < k → Can rows n j → 0 < found.getD j 0
theorem zip_getD {xs ys : List Int} {n j : Nat} (hx : xs.length = n) (hy : ys.length = n) (hj : j < n) : (List.zipWith (· + ·) xs ys).getD j 0 = xs.getD j 0 + ys.getD j 0 := by
  have h1 : j < xs.length := by omega
  have h2 : j < ys.length := by omega
  simp [List.getD, List.getElem?_zipWith, h1, h2]
theorem full_inv {rows : List KRow} {n : Nat} (h0 : feasB (RK rows n) = true) : ∀ k, k ≤ n → FullInv rows n k (fullF rows n k)
  | 0, _ => by
    have F := nums0_feas h0
    exact ⟨nums_nn (R := RK rows n), fun j hj hp => ⟨_, feas_plain.mp F, (nums_pos (R := RK rows n) hj).mp hp⟩, fun j _ h => absurd h (Nat.not_lt_zero _)⟩
  | k + 1, hk => by
    have ih := full_inv h0 k (by omega)
    show FullInv rows n (k + 1) (full1 rows n (fullF rows n k) k)
    generalize fullF rows n k = found at ih
    unfold full1
    by_cases z : found.getD k 0 = 0
    · rw [if_pos z]
      by_cases f : feasB (RK (rows ++ [unit n k]) n) = true
      · rw [if_pos f]
        have F := feas_plain.mp (nums0_feas f)
        have N := nums_nn (R := RK (rows ++ [unit n k]) n)
        have F2 : FeasK rows n (val (RK (rows ++ [unit n k]) n).P (finB (RK (rows ++ [unit n k]) n))) := ⟨F.nn, fun r hr => F.row r (by simp [hr])⟩
        have F3 : 0 < val (RK (rows ++ [unit n k]) n).P (finB (RK (rows ++ [unit n k]) n)) k := by
          have := F.row (unit n k) (by simp)
          rw [← dot_unit (show k < n by omega) (val (RK (rows ++ [unit n k]) n).P (finB (RK (rows ++ [unit n k]) n)))]
          exact this
        refine ⟨⟨by rw [List.length_zipWith, ih.nn.len, N.len]; exact Nat.min_self _, fun j hj => ?_⟩, fun j hj hp => ?_, fun j hj hl hc => ?_⟩
        · rw [zip_getD ih.nn.len N.len hj]
          have h1 := ih.nn.nn j hj
          have h2 := N.nn j hj
          omega
        · rw [zip_getD ih.nn.len N.len hj] at hp
          by_cases q : 0 < found.getD j 0
          · exact ih.can j hj q
          · have h1 := ih.nn.nn j hj
            exact ⟨_, F2, (nums_pos (R := RK (rows ++ [unit n k]) n) hj).mp (by omega)⟩
        · rw [zip_getD ih.nn.len N.len hj]
          have h2 := N.nn j hj
          by_cases q : j = k
          · have h1 := ih.nn.nn j hj
            have h3 := (nums_pos (R := RK (rows ++ [unit n k]) n) (j := k) (by show k < n; omega)).mpr F3
            rw [q]
            rw [q] at h1
            omega
          · have := ih.did j hj (by omega) hc
            omega
      · rw [if_neg f]
        refine ⟨ih.nn, ih.can, fun j hj hl hc => ?_⟩
        by_cases q : j = k
        · exfalso
          obtain ⟨x, F, hp⟩ := hc
          refine f (feasK_iff.mpr ⟨x, F.nn, fun r hr => ?_⟩)
          rcases List.mem_append.mp hr with h | h
          · exact F.row r h
          · rw [List.mem_singleton.mp h]
            show 0 < dotL (unit n k).2 n x
            rw [dot_unit (by omega), ← q]
            exact hp
        · exact ih.did j hj (by omega) hc
    · rw [if_neg z]
      refine ⟨ih.nn, ih.can, fun j hj hl hc => ?_⟩
      by_cases q : j = k
      · have h1 := ih.nn.nn j hj
        rw [q] at h1 ⊢
        omega
      · exact ih.did j hj (by omega) hc
theorem full_ok {rows : List KRow} {n : Nat} {l : List Int} (h : full rows n = some l) : l.length = n ∧ ∀ j, j < n → (0 < l.getD j 0 ↔ Can rows n j) := by
  unfold full at h
  split at h
  · rename_i h0
    cases h
    have I := full_inv h0 n (Nat.le_refl n)
    obtain ⟨h1, h2⟩ := ltm_nn I.nn
    exact ⟨h1.len, fun j hj => by rw [h2 j hj]; exact ⟨I.can j hj, I.did j hj hj⟩⟩
  · cases h
theorem full_none {rows : List KRow} {n : Nat} : full rows n = none ↔ ¬ ∃ x, FeasK rows n x := by
  unfold full
  rw [← feasK_iff]
  split
  · rename_i h; simp [h]
  · rename_i h; simp [h]
/-- only which rows there are tells -/
theorem feasK_set {rows rows2 : List KRow} {n : Nat} {x : Nat → Int} (h : ∀ r, r ∈ rows ↔ r ∈ rows2) : FeasK rows n x ↔ FeasK rows2 n x :=
  ⟨fun F => ⟨F.nn, fun r hr => F.row r ((h r).mpr hr)⟩, fun F => ⟨F.nn, fun r hr => F.row r ((h r).mp hr)⟩⟩
/-- the marks of what can be there -/
noncomputable def marks (rows : List KRow) (n : Nat) : Option (List Bool) := (full rows n).map fun l => l.map fun i => decide (0 < i)
theorem marks_set {rows rows2 : List KRow} {n : Nat} (h : ∀ r, r ∈ rows ↔ r ∈ rows2) : marks rows n = marks rows2 n := by
  have hf : (∃ x, FeasK rows n x) ↔ ∃ x, FeasK rows2 n x := exists_congr fun x => feasK_set h
  unfold marks
  cases e : full rows n with
  | none =>
    have h1 := full_none.mp e
    rw [hf] at h1
    rw [full_none.mpr h1]
  | some l =>
    cases e2 : full rows2 n with
    | none =>
      have h1 := full_none.mp e2
      rw [← hf] at h1
      rw [full_none.mpr h1] at e
      cases e
    | some l2 =>
      obtain ⟨n1, h1⟩ := full_ok e
      obtain ⟨n2, h2⟩ := full_ok e2
      simp only [Option.map_some, Option.some.injEq]
      apply List.ext_getElem
      · simp [n1, n2]
      · intro j q1 q2
        have q1 : j < n := by simpa [n1] using q1
        have h3 := h1 j q1
        have h4 := h2 j q1
        have hc : Can rows n j ↔ Can rows2 n j := exists_congr fun x => and_congr_left fun _ => feasK_set h
        have e1 : l.getD j 0 = l[j]'(by omega) := by simp [List.getD, n1, q1]
        have e2 : l2.getD j 0 = l2[j]'(by omega) := by simp [List.getD, n2, q1]
        rw [e1] at h3
        rw [e2] at h4
        simp only [List.getElem_map]
        rw [decide_eq_decide, h3, h4, hc]
end SM
set_option linter.all false
set_option maxRecDepth 10000
namespace SM
/-! ## sizes of the solver's numbers -/
abbrev KK : Nat := 2 ^ 1900
structure Small (ps : List PRow) : Prop where
  len : ps.length ≤ 40
  abs : ∀ p ∈ ps, ∀ x ∈ p.2, x.natAbs ≤ 2 ^ 40
theorem A_abs {ps : List PRow} {n : Nat} (h : Small ps) (j s : Nat) : ((Rows.of ps n).A j s).natAbs ≤ 2 ^ 40 := by
  have hb : ∀ c : Bool, (b2i c).natAbs ≤ 1 := fun c => by cases c <;> decide
  have hs : ∀ i, ((Rows.of ps n).sgn i).natAbs = 1 := fun i => by
    unfold Rows.sgn
    split <;> rfl
  have ha : ((Rows.of ps n).a s j).natAbs ≤ 2 ^ 40 := by
    show ((ps.getD s (false, [])).2.getD j 0).natAbs ≤ 2 ^ 40
    by_cases h1 : s < ps.length
    · have hm : ps.getD s (false, []) ∈ ps := by simp [List.getD, h1]
      by_cases h2 : j < (ps.getD s (false, [])).2.length
      · exact h.abs _ hm _ (getD_mem h2)
      · have e : (ps.getD s (false, [])).2.getD j 0 = 0 := by
          rw [List.getD, List.getElem?_eq_none (by omega)]
          rfl
        rw [e]
        simp
    · simp [List.getD, h1]
  unfold Rows.A
  split
  · rw [Int.natAbs_mul, hs, Nat.one_mul]
    exact ha
  · split
    · rw [Int.natAbs_mul, Int.natAbs_neg, hs, Nat.one_mul]
      exact Nat.le_trans (hb _) (by decide)
    · split
      · exact Nat.le_trans (hb _) (by decide)
      · exact Nat.le_trans (hb _) (by decide)
theorem pow_small {m : Nat} (h : m ≤ 40) : (m + 1) * (m * 2 ^ 40) ^ m ≤ KK := by
  have h1 : (m * 2 ^ 40) ^ m ≤ (40 * 2 ^ 40) ^ 40 :=
    Nat.le_trans (Nat.pow_le_pow_left (Nat.mul_le_mul_right _ h) m) (Nat.pow_le_pow_right (by decide) h)
  have h2 : (m + 1) * (m * 2 ^ 40) ^ m ≤ 41 * (40 * 2 ^ 40) ^ 40 := Nat.mul_le_mul (by omega) h1
  exact Nat.le_trans h2 (by decide +kernel)
structure Bnd (P : Prob) (b : Bs) : Prop where
  T : ∀ i j, j ≤ P.W → (P.T b i j).natAbs ≤ KK
  d : (P.d b).natAbs ≤ KK
  g : ∀ j, j ≤ P.W → (P.g b j).natAbs ≤ KK
theorem bnd {ps : List PRow} {n : Nat} (h : Small ps) {b : Bs} (hb : ∀ i, i < ps.length → b i < (Rows.of ps n).W) : Bnd (Rows.of ps n).P b := by
  have hp := pow_small h.len
  have h1 : (ps.length * 2 ^ 40) ^ ps.length ≤ KK := Nat.le_trans (Nat.le_mul_of_pos_left _ (by omega)) hp
  refine ⟨fun i j hj => ?_, ?_, fun j hj => ?_⟩
  · exact Nat.le_trans (T_abs (P := (Rows.of ps n).P) (fun j s _ _ => A_abs h j s) hb hj) h1
  · exact Nat.le_trans (d_abs (P := (Rows.of ps n).P) (fun j s _ _ => A_abs h j s) hb) h1
  · refine Nat.le_trans (g_abs (P := (Rows.of ps n).P) (fun j s _ _ => A_abs h j s) hb (fun j => ?_) hj) hp
    show (if (Rows.of ps n).w ≤ j ∧ j < (Rows.of ps n).W then (1 : Int) else 0).natAbs ≤ 1
    split <;> decide
theorem log2_le {x : Nat} {k : Nat} (h : x ≤ 2 ^ k) : x.log2 ≤ k := by
  by_cases z : x = 0
  · rw [z]; simp [Nat.log2_zero]
  · have : x.log2 < k + 1 := (Nat.log2_lt z).mpr (Nat.lt_of_le_of_lt h (Nat.pow_lt_pow_right (by omega) (by omega)))
    omega
/-! ## what is read off the base -/
def putN (many : Nat) (b : Bs) (f : Nat → Int) (l : List Int) (k : Nat) : List Int := if b k < many then l.set (b k) (f k) else l
def numL (many : Nat) (b : Bs) (f : Nat → Int) : Nat → List Int
  | 0 => List.replicate many 0
  | m + 1 => putN many b f (numL many b f m) m
theorem numL_length {many : Nat} {b : Bs} {f : Nat → Int} : ∀ m, (numL many b f m).length = many
  | 0 => by simp [numL]
  | m + 1 => by
    unfold numL putN
    split
    · rw [List.length_set, numL_length m]
    · exact numL_length m
theorem numL_at {many : Nat} {b : Bs} {f : Nat → Int} {M : Nat} (inj : ∀ i k, i < M → k < M → b i = b k → i = k) : ∀ m, m ≤ M → ∀ j, j < many → (numL many b f m)[j]? = some (sm m fun k => if b k = j then f k else 0)
  | 0, _, j, hj => by simp [numL, sm, hj]
  | m + 1, hm, j, hj => by
    have ih := numL_at (f := f) inj m (by omega) j hj
    have hl := numL_length (many := many) (b := b) (f := f) m
    have e : sm (m + 1) (fun k => if b k = j then f k else 0) = sm m (fun k => if b k = j then f k else 0) + if b m = j then f m else 0 := rfl
    rw [e]
    unfold numL putN
    split
    · rename_i h
      by_cases z : b m = j
      · rw [if_pos z, z, List.getElem?_set_self (by omega)]
        rw [sm_zero (n := m) fun k hk => if_neg fun q => by
          have := inj k m (by omega) (by omega) (by rw [q, z])
          omega]
        simp
      · rw [if_neg z, List.getElem?_set_ne z, ih]
        simp
    · rename_i h
      rw [if_neg (fun z => h (by omega)), ih]
      simp
theorem numL_val {R : Rows} {b : Bs} (G : Good R.P b) : numL R.n b (fun k => R.P.T b k R.W) R.m = (List.range R.n).map (val R.P b) := by
  apply List.ext_getElem?
  intro j
  by_cases h : j < R.n
  · rw [numL_at (M := R.m) (fun i k hi hk e => inj G hi hk e) R.m (Nat.le_refl _) j h]
    simp [h]
    rfl
  · rw [List.getElem?_eq_none (by rw [numL_length]; omega), List.getElem?_eq_none (by simp; omega)]
theorem val_abs {R : Rows} {b : Bs} (G : Good R.P b) {K : Nat} (h : ∀ i, (R.P.T b i R.W).natAbs ≤ K) (j : Nat) : (val R.P b j).natAbs ≤ K := by
  by_cases z : ∃ i, i < R.m ∧ b i = j
  · obtain ⟨i, hi, rfl⟩ := z
    rw [val_base G hi]
    exact h i
  · rw [val_none fun i hi e => z ⟨i, hi, e⟩]
    simp
/-! ## the weights -/
def wts (g : Nat → Int) : List KRow → Nat → List Int
  | [], _ => []
  | r :: rs, k => if r.1 = .even then (g k - g (k + 1)) :: wts g rs (k + 2) else g k :: wts g rs (k + 1)
theorem nums_abs {ps : List PRow} {n : Nat} (h : Small ps) : ∀ x ∈ nums (Rows.of ps n), x.natAbs ≤ KK := by
  have G := (fin_done (finB_fin (Rows.of ps n))).good
  have B := bnd h (n := n) (b := finB (Rows.of ps n)) G.lt
  refine ltm_abs fun x hx => ?_
  unfold nums0 at hx
  obtain ⟨j, _, e⟩ := List.mem_map.mp hx
  rw [← e]
  exact val_abs G (fun i => B.T i _ (Nat.le_refl _)) j
theorem small_plain {rows : List KRow} (h1 : rows.length ≤ 20) (h2 : ∀ r ∈ rows, ∀ x ∈ r.2, x.natAbs ≤ 2 ^ 40) : Small (plain rows) := by
  constructor
  · have : ∀ rs : List KRow, (plain rs).length ≤ 2 * rs.length := by
      intro rs
      induction rs with
      | nil => simp [plain]
      | cons r rs ih =>
        have e : plain (r :: rs) = plain1 r ++ plain rs := by simp [plain]
        rw [e, List.length_append, List.length_cons]
        have : (plain1 r).length ≤ 2 := by
          unfold plain1
          split <;> simp
        omega
    have := this rows
    omega
  · intro p hp x hx
    obtain ⟨r, hr, hp⟩ := List.mem_flatMap.mp hp
    unfold plain1 at hp
    rcases List.mem_cons.mp hp with e | hp
    · rw [e] at hx
      exact h2 r hr x hx
    · split at hp
      · rw [List.mem_singleton.mp hp] at hx
        obtain ⟨y, hy, e⟩ := List.mem_map.mp hx
        rw [← e, Int.natAbs_neg]
        exact h2 r hr y hy
      · cases hp
theorem fullF_abs {rows : List KRow} {n : Nat} (h1 : rows.length ≤ 19) (h2 : ∀ r ∈ rows, ∀ x ∈ r.2, x.natAbs ≤ 2 ^ 40) : ∀ k, k ≤ n → ∀ x ∈ fullF rows n k, x.natAbs ≤ (k + 1) * KK
  | 0, _, x, hx => by
    have := nums_abs (n := n) (small_plain (by omega) h2) x hx
    omega
  | k + 1, hk, x, hx => by
    have ih := fullF_abs (n := n) h1 h2 k (by omega)
    have up : (k + 1) * KK ≤ (k + 1 + 1) * KK := Nat.mul_le_mul_right _ (by omega)
    unfold fullF full1 at hx
    split at hx
    · split at hx
      · obtain ⟨i, hi, e⟩ := List.mem_iff_getElem.mp hx
        rw [List.getElem_zipWith] at e
        have q1 := ih _ (List.getElem_mem (by rw [List.length_zipWith] at hi; omega : i < (fullF rows n k).length))
        have q2 := nums_abs (n := n) (small_plain (rows := rows ++ [unit n k]) (by simp; omega) (fun r hr y hy => by
          rcases List.mem_append.mp hr with h | h
          · exact h2 r h y hy
          · rw [List.mem_singleton.mp h] at hy
            obtain ⟨t, _, e⟩ := List.mem_map.mp hy
            rw [← e]
            split <;> decide)) _ (List.getElem_mem (by rw [List.length_zipWith] at hi; omega : i < (nums (RK (rows ++ [unit n k]) n)).length))
        rw [← e]
        have e3 : (k + 1 + 1) * KK = (k + 1) * KK + KK := by rw [Nat.add_mul (k + 1) 1, Nat.one_mul]
        have := Int.natAbs_add_le ((fullF rows n k)[i]'(by rw [List.length_zipWith] at hi; omega)) ((nums (RK (rows ++ [unit n k]) n))[i]'(by rw [List.length_zipWith] at hi; omega))
        omega
      · exact Nat.le_trans (ih x hx) up
    · exact Nat.le_trans (ih x hx) up
end SM
set_option linter.all false
set_option maxRecDepth 100000
set_option maxHeartbeats 2000000
namespace MM
open PySem PySem.Spec PyProof.Rows L2
/-! # what mirrors give, worked out -/
theorem Out.bind_congr {α β : Type} {r r' : Out α} {k : α → Sto → Out β} (h : r = r') : r.bind k = r'.bind k := by rw [h]
section
variable {a b c : ME} {ta tb tc : MT} {ma mr : MA} {ba bb : MB} {L : Loc} {S : Sto} {mi : MI} {g : MG} {d e : D} {xs ys : List D} {i j : Int} {x y : Str}
theorem x_var (i : Nat) : mVar i L S = match L[i]? with
  | some (some d) => .ok d S
  | _ => .stuck := rfl
theorem x_c : mC d L S = .ok d S := rfl
theorem x_bin (f : D → D → Sto → Out D) : mBin f a b L S = (a L S).bind fun x S1 => (b L S1).bind fun y S2 => dry (f x y S2) := rfl
theorem asB_bl (v : Bool) : asB (.bl v) S = .ok v S := rfl
theorem x_test : mTest a L S = (a L S).bind asB := rfl
theorem x_andT : mAndT ta tb L S = (ta L S).bind fun x S1 => if x = true then tb L S1 else .ok false S1 := rfl
theorem x_orT : mOrT ta tb L S = (ta L S).bind fun x S1 => if x = true then .ok true S1 else tb L S1 := rfl
theorem x_notT : mNotT ta L S = (ta L S).bind fun x S1 => .ok (!x) S1 := rfl
theorem x_if : mIf ta a b L S = (ta L S).bind fun x S1 => if x = true then a L S1 else b L S1 := rfl
theorem x_ofT : mOfT ta L S = (ta L S).bind fun x S1 => .ok (.bl x) S1 := rfl
def andK (b : ME) (L : Loc) (x : D) (S : Sto) : Out D := match x with
  | .bl true => b L S
  | .bl false => .ok (.bl false) S
  | _ => .stuck
theorem andK_bl (v : Bool) : andK b L (.bl v) S = if v = true then b L S else .ok (.bl false) S := by cases v <;> rfl
theorem x_andV : mAndV a b L S = (a L S).bind (andK b L) := rfl
def orK (b : ME) (L : Loc) (x : D) (S : Sto) : Out D := match x with
  | .bl false => b L S
  | .bl true => .ok (.bl true) S
  | _ => .stuck
theorem orK_bl (v : Bool) : orK b L (.bl v) S = if v = true then .ok (.bl true) S else b L S := by cases v <;> rfl
theorem x_orV : mOrV a b L S = (a L S).bind (orK b L) := rfl
theorem x_notV : mNotV a L S = (a L S).bind fun x S1 => match x with
  | .bl y => .ok (.bl (!y)) S1
  | _ => .stuck := rfl
def chK (g : D → D → Sto → Out D) (c : ME) (L : Loc) (y : D) (z : D) (S : Sto) : Out D := match z with
  | .bl true => (c L S).bind fun w S4 => dry (g y w S4)
  | .bl false => .ok (.bl false) S
  | _ => .stuck
theorem chK_bl (g : D → D → Sto → Out D) (v : Bool) : chK g c L d (.bl v) S = if v = true then (c L S).bind fun w S4 => dry (g d w S4) else .ok (.bl false) S := by cases v <;> rfl
theorem x_chain (f g : D → D → Sto → Out D) : mChain f g a b c L S = (a L S).bind fun x S1 => (b L S1).bind fun y S2 => (dry (f x y S2)).bind (chK g c L y) := rfl
theorem x_nil : mNil L S = .ok [] S := rfl
theorem x_cons : mCons a mr L S = (a L S).bind fun x S1 => (mr L S1).bind fun xs S2 => .ok (x :: xs) S2 := rfl
theorem x_star : mStar a mr L S = (a L S).bind fun x S1 => match seqD S1 x with
  | some xs => (mr L S1).bind fun ys S2 => .ok (xs ++ ys) S2
  | none => .stuck := rfl
theorem x_tup : mTup ma L S = (ma L S).bind fun xs S1 => if xs.length ≤ lim then .ok (.tup xs) S1 else .stuck := rfl
theorem x_lst : mLst ma L S = (ma L S).bind fun xs S1 => if xs.length ≤ lim then .ok (.lst xs) S1 else .stuck := rfl
theorem x_lstC : mLstC ma L S = (ma L S).bind fun xs S1 => if xs.length ≤ lim then .ok (.loc S1.length) (S1 ++ [.lst xs]) else .stuck := rfl
theorem x_skip : bSkip L S = .ok (.nx L) S := rfl
def seqK (b : MB) (f : Fl) (S : Sto) : Out Fl := match f with
  | .nx L1 => b L1 S
  | f => .ok f S
theorem seqK_nx : seqK bb (.nx L) S = bb L S := rfl
theorem seqK_rt : seqK bb (.rt d) S = .ok (.rt d) S := rfl
theorem seqK_bk : seqK bb (.bk L) S = .ok (.bk L) S := rfl
theorem seqK_ct : seqK bb (.ct L) S = .ok (.ct L) S := rfl
theorem x_seq : bSeq ba bb L S = (ba L S).bind (seqK bb) := by
  unfold bSeq
  congr 1
theorem x_ret : bRet a L S = (a L S).bind fun d S1 => .ok (.rt d) S1 := rfl
theorem x_drop : bDrop a L S = (a L S).bind fun _ S1 => .ok (.nx L) S1 := rfl
theorem x_bif : bIf ta ba bb L S = (ta L S).bind fun x S1 => if x = true then ba L S1 else bb L S1 := rfl
theorem x_brk : bBrk L S = .ok (.bk L) S := rfl
theorem x_cnt : bCnt L S = .ok (.ct L) S := rfl
theorem x_asg : bAsg a g L S = (a L S).bind fun d S1 => (g d L S1).bind fun L1 S2 => .ok (.nx L1) S2 := rfl
theorem x_gN (i : Nat) : gN i d L S = .ok (L.set i (some d)) S := rfl
theorem x_gNil : gNilM [] L S = .ok L S := rfl
theorem x_gCons (r : MGs) : gConsM g r (d :: xs) L S = (g d L S).bind fun L1 S1 => r xs L1 S1 := rfl
theorem x_gTup (n : Nat) (r : MGs) : gTupM n r (.tup xs) L S = if xs.length = n then r xs L S else .stuck := rfl
theorem x_call (n : Nat) (fn : FnM) : mCall n fn ma L S = (ma L S).bind fun ds S1 => if ds.length = n then fn ds S1 else .stuck := rfl
theorem x_callK (n : Nat) (pm : List Nat) (fn : FnM) : mCallK n pm fn ma L S = (ma L S).bind fun ds S1 => if ds.length = n then fn (permD pm ds) S1 else .stuck := rfl
theorem x_B (f : FB) : mB f ma L S = (ma L S).bind fun ds S1 => dry (f ds S1) := rfl
theorem x_BM (T : String) (f : FT) : mBM T f a ma L S = (a L S).bind fun d S1 => if tyB T S1 d = true then (ma L S1).bind fun ds S2 => dry (f d ds S2) else .stuck := rfl
theorem x_ix : mIx a b L S = (a L S).bind fun x S1 => (b L S1).bind fun y S2 => dry (oIx x y S2) := rfl
theorem x_dg : mDG a b L S = (a L S).bind fun x S1 => (b L S1).bind fun y S2 => dry (oDG x y S2) := rfl
theorem x_neg : mNeg a L S = (a L S).bind oNeg := rfl
theorem x_part : mSome a L S = (a L S).bind fun d S1 => match asInt d with
  | some i => .ok (some i) S1
  | none => .stuck := rfl
theorem x_no : mNo L S = .ok none S := rfl
theorem x_sl (f : D → Option Int → Option Int → Sto → Out D) (lo hi : MO) : mSl f a lo hi L S = (a L S).bind fun d S1 => (lo L S1).bind fun i S2 => (hi L S2).bind fun j S3 => dry (f d i j S3) := rfl
theorem x_iAny : iAny a L S = (a L S).bind fun d S1 => match items S1 d with
  | some x => .ok x S1
  | none => .stuck := rfl
noncomputable def rngK (ds : List D) (S : Sto) : Out Items := match ds with
  | [.int j] => open Classical in if rngOk j then .ok ⟨rngD 0 j.toNat, none⟩ S else .stuck
  | _ => .stuck
theorem x_rng : rng1 ma L S = (ma L S).bind rngK := rfl
theorem rngK_int (n : Nat) (h : n < 2 ^ 62) : rngK [.int (n : Int)] S = .ok ⟨(List.range n).map fun (k : Nat) => .int (k : Int), none⟩ S := by
  unfold rngK
  simp only
  rw [if_pos (by constructor <;> omega)]
  unfold rngD
  rw [Int.toNat_natCast]
  simp
theorem x_for : bFor mi g bb L S = (mi L S).bind fun x S1 => loopF g bb x.gd x.xs L S1 := rfl
theorem x_lc (vs : List Nat) : mLc mi vs g tc a L S = (mi L S).bind fun x S1 => (dry (lcF g tc a (wipeL L vs) x.gd x.xs [] S1)).bind fun xs S2 => .ok (.lst xs) S2 := by
  show ((mi L S).bind _).bind _ = _
  cases mi L S <;> rfl
theorem x_lc2 (vs : List Nat) (mi1 : MI) (vs1 : List Nat) (g1 : MG) (c1 : MT) : mLc2 mi vs g tc mi1 vs1 g1 c1 a L S = (mi L S).bind fun x S1 => (dry (lcF2 g tc mi1 vs1 g1 c1 a (wipeL L vs) x.gd x.xs [] S1)).bind fun xs S2 => .ok (.lst xs) S2 := by
  show ((mi L S).bind _).bind _ = _
  cases mi L S <;> rfl
end
end MM
set_option linter.all false
set_option maxRecDepth 100000
set_option maxHeartbeats 2000000
namespace MM
open PySem PySem.Spec PyProof.Rows L2
/-- ends so -/
def Tg1 {τ : Type} (_ : τ) : Type := Unit
def tg1 {τ : Type} {k : τ} : Tg1 k := ()
def Ev {α : Type} (r : Out α) (P : α → Sto → Prop) (_ : Tg1 P := tg1) : Prop := match r with
  | .ok a S => P a S
  | _ => False
theorem ev_congr {α : Type} {r r' : Out α} {P : α → Sto → Prop} (h : r = r') : Ev r P = Ev r' P := by rw [h]
theorem ev_ok {α : Type} (a : α) (S : Sto) (P : α → Sto → Prop) : Ev (.ok a S) P = P a S := rfl
theorem ev_bind {α β : Type} (r : Out α) (k : α → Sto → Out β) (P : β → Sto → Prop) : Ev (r.bind k) P = Ev r (fun a S => Ev (k a S) P) := by cases r <;> rfl
theorem ev_dry {α : Type} (r : Out α) (P : α → Sto → Prop) : Ev (dry r) P = Ev r P := by cases r <;> rfl
theorem ev_mono {α : Type} {r : Out α} {P Q : α → Sto → Prop} (h : Ev r P) (hq : ∀ a S, P a S → Q a S) : Ev r Q := by
  cases r with
  | ok a S => exact hq a S h
  | exc e S => exact h
  | stuck => exact h
theorem of_ev {α : Type} {r : Out α} {a : α} {S : Sto} (h : Ev r fun b S' => b = a ∧ S' = S) : r = .ok a S := by
  cases r with
  | ok b S' =>
    obtain ⟨h1, h2⟩ := h
    rw [h1, h2]
  | exc e S => exact h.elim
  | stuck => exact h.elim
theorem ev_get {α : Type} {r : Out α} {P : α → Sto → Prop} (h : Ev r P) : ∃ a S, r = .ok a S ∧ P a S := by
  cases r with
  | ok a S => exact ⟨a, S, rfl, h⟩
  | exc e S => exact h.elim
  | stuck => exact h.elim
theorem ev_of {α : Type} {r : Out α} {a : α} {S : Sto} {P : α → Sto → Prop} (e : r = .ok a S) (h : P a S) : Ev r P := by rw [e]; exact h
/-! ## loops -/
def nxt (P : Fl → Sto → Prop) (I : Loc → Sto → Prop) (f : Fl) (S : Sto) : Prop := match f with
  | .nx L => I L S
  | .ct L => I L S
  | .bk L => P (.nx L) S
  | .rt d => P (.rt d) S
theorem nxt_nx (P : Fl → Sto → Prop) (I : Loc → Sto → Prop) (L : Loc) (S : Sto) : nxt P I (.nx L) S = I L S := rfl
theorem nxt_ct (P : Fl → Sto → Prop) (I : Loc → Sto → Prop) (L : Loc) (S : Sto) : nxt P I (.ct L) S = I L S := rfl
theorem nxt_bk (P : Fl → Sto → Prop) (I : Loc → Sto → Prop) (L : Loc) (S : Sto) : nxt P I (.bk L) S = P (.nx L) S := rfl
theorem nxt_rt (P : Fl → Sto → Prop) (I : Loc → Sto → Prop) (d : D) (S : Sto) : nxt P I (.rt d) S = P (.rt d) S := rfl
theorem ev_for {g : MG} {b : MB} {gd : Grd} {xs : List D} {P : Fl → Sto → Prop} (I : Nat → Loc → Sto → Prop) (hg : ∀ k L S, I k L S → grdOk gd S)
    (hs : ∀ k d L S, xs[k]? = some d → I k L S → Ev (g d L S) fun L1 S1 => Ev (b L1 S1) (nxt P (I (k + 1)))) (he : ∀ L S, I xs.length L S → P (.nx L) S) :
    ∀ {L : Loc} {S : Sto}, I 0 L S → Ev (loopF g b gd xs L S) P := by
  induction xs generalizing I with
  | nil =>
    intro L S h
    have hh := hg 0 L S h
    unfold loopF
    rw [if_pos hh]
    exact he L S h
  | cons x xs ih =>
    intro L S h
    have hh := hg 0 L S h
    unfold loopF
    rw [if_pos hh, ev_bind]
    refine ev_mono (hs 0 x L S rfl h) fun L1 S1 h1 => ?_
    rw [ev_bind]
    refine ev_mono h1 fun f S2 h2 => ?_
    have next : ∀ L2, I 1 L2 S2 → Ev (loopF g b gd xs L2 S2) P := fun L2 h2 =>
      ih (fun k => I (k + 1)) (fun k L S h => hg (k + 1) L S h) (fun k d L S e h => hs (k + 1) d L S (by simpa using e) h) (fun L S h => he L S h) h2
    cases f with
    | nx L2 => exact next L2 h2
    | ct L2 => exact next L2 h2
    | bk L2 => exact h2
    | rt d => exact h2
theorem ev_while {c : MT} {b : MB} {P : Fl → Sto → Prop} (I : Nat → Loc → Sto → Prop)
    (hs : ∀ n L S, I n L S → Ev (c L S) fun x S1 => if x = true then Ev (b L S1) (nxt P fun L2 S2 => ∃ m, m < n ∧ I m L2 S2) else P (.nx L) S1) :
    ∀ {n : Nat} {L : Loc} {S : Sto}, I n L S → Ev (bWhile c b L S) P := by
  have key : ∀ n L S, I n L S → Ev (whileN c b (n + 1) L S) P := by
    intro n
    induction n using Nat.strongRecOn with
    | _ n ih =>
      intro L S h
      show Ev ((c L S).bind _) P
      rw [ev_bind]
      refine ev_mono (hs n L S h) fun x S1 h1 => ?_
      by_cases hx : x = true
      · rw [if_pos hx] at h1 ⊢
        rw [ev_bind]
        refine ev_mono h1 fun f S2 h2 => ?_
        have next : ∀ L2, (∃ m, m < n ∧ I m L2 S2) → Ev (whileN c b n L2 S2) P := by
          rintro L2 ⟨m, hm, h3⟩
          have h4 := ih m hm L2 S2 h3
          obtain ⟨a, S3, e, h5⟩ := ev_get h4
          rw [whileN_more e (by simp) (by omega)]
          exact h5
        cases f with
        | nx L2 => exact next L2 h2
        | ct L2 => exact next L2 h2
        | bk L2 => exact h2
        | rt d => exact h2
      · rw [if_neg hx] at h1 ⊢
        exact h1
  intro n L S h
  have h1 := key n L S h
  obtain ⟨a, S1, e, h2⟩ := ev_get h1
  have hh : ∃ n, whileN c b n L S ≠ .stuck := ⟨n + 1, by rw [e]; simp⟩
  unfold bWhile
  rw [dif_pos hh]
  have h3 := Classical.choose_spec hh
  have : whileN c b (Classical.choose hh) L S = .ok a S1 := by
    rcases Nat.le_total (n + 1) (Classical.choose hh) with q | q
    · exact whileN_more e (by simp) q
    · have h4 := whileN_more (r := whileN c b (Classical.choose hh) L S) rfl h3 q
      rw [← h4, e]
  rw [this]
  exact h2
/-! ## comprehensions -/
theorem ev_lc {g : MG} {c : MT} {e : ME} {L : Loc} {gd : Grd} {xs : List D} {P : List D → Sto → Prop} (I : Nat → List D → Sto → Prop) (hg : ∀ k acc S, I k acc S → grdOk gd S)
    (hs : ∀ k d acc S, xs[k]? = some d → I k acc S → Ev (g d L S) fun L1 S1 => Ev (c L1 S1) fun b S2 => if b = true then Ev (e L1 S2) fun y S3 => acc.length < lim ∧ I (k + 1) (acc ++ [y]) S3 else I (k + 1) acc S2)
    (he : ∀ acc S, I xs.length acc S → P acc S) : ∀ {acc : List D} {S : Sto}, I 0 acc S → Ev (lcF g c e L gd xs acc S) P := by
  induction xs generalizing I with
  | nil =>
    intro acc S h
    have hh := hg 0 acc S h
    unfold lcF
    rw [if_pos hh]
    exact he acc S h
  | cons x xs ih =>
    intro acc S h
    have hh := hg 0 acc S h
    unfold lcF
    rw [if_pos hh, ev_bind]
    refine ev_mono (hs 0 x acc S rfl h) fun L1 S1 h1 => ?_
    rw [ev_bind]
    refine ev_mono h1 fun b S2 h2 => ?_
    have next : ∀ acc2 S3, I 1 acc2 S3 → Ev (lcF g c e L gd xs acc2 S3) P := fun acc2 S3 h3 =>
      ih (fun k => I (k + 1)) (fun k a S h => hg (k + 1) a S h) (fun k d a S e h => hs (k + 1) d a S (by simpa using e) h) (fun a S h => he a S h) h3
    by_cases hb : b = true
    · rw [if_pos hb] at h2 ⊢
      rw [ev_bind]
      refine ev_mono h2 fun y S3 h3 => ?_
      rw [if_pos h3.1]
      exact next _ _ h3.2
    · rw [if_neg hb] at h2 ⊢
      exact next _ _ h2
/-- nothing changes: the items that pass, each by a function -/
theorem lc_flt {α : Type} {g : MG} {c : MT} {e : ME} {L : Loc} {gd : Grd} {S : Sto} (p : α → Bool) (f : α → D) (enc : α → D) (hg : grdOk gd S) :
    ∀ (zs : List α) (acc : List D), (∀ z ∈ zs, ∃ L1, g (enc z) L S = .ok L1 S ∧ c L1 S = .ok (p z) S ∧ (p z = true → e L1 S = .ok (f z) S)) → acc.length + zs.length ≤ lim →
    lcF g c e L gd (zs.map enc) acc S = .ok (acc ++ (zs.filter p).map f) S
  | [], acc, _, _ => by
    unfold lcF
    rw [List.map_nil]
    simp only
    rw [if_pos hg]
    simp
  | z :: zs, acc, h, hl => by
    obtain ⟨L1, h1, h2, h3⟩ := h z (by simp)
    rw [List.length_cons] at hl
    unfold lcF
    rw [List.map_cons]
    simp only
    rw [if_pos hg, h1, bind_ok, h2, bind_ok]
    by_cases hp : p z = true
    · rw [if_pos hp, h3 hp, bind_ok, if_pos (by omega), lc_flt p f enc hg zs (acc ++ [f z]) (fun y hy => h y (by simp [hy])) (by simp; omega), List.filter_cons_of_pos hp]
      simp
    · rw [if_neg hp, lc_flt p f enc hg zs acc (fun y hy => h y (by simp [hy])) (by omega), List.filter_cons_of_neg hp]
theorem lc_map {α : Type} {g : MG} {e : ME} {L : Loc} {gd : Grd} {S : Sto} (f : α → D) (enc : α → D) (hg : grdOk gd S) (zs : List α)
    (h : ∀ z ∈ zs, ∃ L1, g (enc z) L S = .ok L1 S ∧ e L1 S = .ok (f z) S) (hl : zs.length ≤ lim) : lcF g mYes e L gd (zs.map enc) [] S = .ok (zs.map f) S := by
  have := lc_flt (c := mYes) (gd := gd) (S := S) (fun _ => true) f enc hg zs [] (fun z hz => by
    obtain ⟨L1, h1, h2⟩ := h z hz
    exact ⟨L1, h1, rfl, fun _ => h2⟩) (by simpa using hl)
  rw [this, List.nil_append, List.filter_eq_self.mpr (fun _ _ => rfl)]
end MM
set_option linter.all false
set_option maxRecDepth 100000
set_option maxHeartbeats 2000000
namespace MM
open PySem PySem.Spec PyProof.Rows L2
/-! ## operators on known kinds -/
section
variable {S : Sto} {i j : Int} {x y : Str} {xs ys : List D} {d e : D}
theorem o_sub : oSub (.int i) (.int j) S = .ok (.int (i - j)) S := rfl
theorem o_add : oAdd (.int i) (.int j) S = .ok (.int (i + j)) S := rfl
theorem o_addL (h : xs.length + ys.length ≤ lim) : oAdd (.lst xs) (.lst ys) S = .ok (.lst (xs ++ ys)) S := by
  show oAddL (.lst xs) (.lst ys) S = _
  show (if _ then _ else _) = _
  rw [if_pos h]
theorem o_addT (h : xs.length + ys.length ≤ lim) : oAdd (.tup xs) (.tup ys) S = .ok (.tup (xs ++ ys)) S := by
  show orOp oAddT oAddL (.tup xs) (.tup ys) S = _
  unfold orOp
  have : oAddT (.tup xs) (.tup ys) S = .ok (.tup (xs ++ ys)) S := by
    show (if _ then _ else _) = _
    rw [if_pos h]
  rw [this]
theorem o_addS (h : x.length + y.length ≤ lim) : oAdd (.str x) (.str y) S = .ok (.str (x ++ y)) S := by
  show orOp oAddS (orOp oAddT oAddL) (.str x) (.str y) S = _
  unfold orOp
  have : oAddS (.str x) (.str y) S = .ok (.str (x ++ y)) S := by
    show (if _ then _ else _) = _
    rw [if_pos (decide_eq_true h)]
  rw [this]
theorem o_mul (h : wideB i j = true) : oMul (.int i) (.int j) S = .ok (.int (i * j)) S := by
  unfold oMul orOp
  have : oMulI (.int i) (.int j) S = .ok (.int (i * j)) S := by
    show (if _ then _ else _) = _
    rw [if_pos h]
  rw [this]
theorem reps_one {α : Type} (n : Nat) (a : α) : reps n [a] = List.replicate n a := by
  unfold reps
  induction n with
  | zero => rfl
  | succ n ih => rw [List.replicate_succ, List.flatten_cons, ih]; rfl
theorem rep_c {α : Type} {xs : List α} {n : Nat} (h : xs.length * n ≤ lim) (hn : n < 2 ^ 63) : -(2 ^ 63) ≤ (n : Int) ∧ (n : Int) < 2 ^ 63 ∧ xs.length * (n : Int).toNat ≤ lim := by
  rw [Int.toNat_natCast]
  exact ⟨by omega, by omega, h⟩
theorem o_rep0 (n : Nat) (h : xs.length * n ≤ lim) (hn : n < 2 ^ 63) : oRep (.lst xs) (.int (n : Int)) S = .ok (.lst (reps n xs)) S := by
  have c := rep_c h hn
  unfold oRep
  simp only [asLst, asInt]
  rw [if_pos c, Int.toNat_natCast]
theorem o_repC0 (n : Nat) (h : xs.length * n ≤ lim) (hn : n < 2 ^ 63) : oRepC (.lst xs) (.int (n : Int)) S = .ok (.loc S.length) (S ++ [.lst (reps n xs)]) := by
  have c := rep_c h hn
  unfold oRepC
  simp only [asLst, asInt]
  rw [if_pos c, Int.toNat_natCast]
theorem o_mulI0 (d : D) : oMulI (.lst xs) d S = .stuck := rfl
theorem o_mulL (d : D) : oMul (.lst xs) d S = oRep (.lst xs) d S := by
  unfold oMul orOp
  rw [o_mulI0]
theorem o_mulLC (d : D) : oMulC (.lst xs) d S = oRepC (.lst xs) d S := by
  unfold oMulC orOp
  rw [o_mulI0]
theorem o_rep (n : Nat) (h : xs.length * n ≤ lim) (hn : n < 2 ^ 63) : oMul (.lst xs) (.int (n : Int)) S = .ok (.lst (reps n xs)) S := by
  rw [o_mulL, o_rep0 n h hn]
theorem o_repC (n : Nat) (h : xs.length * n ≤ lim) (hn : n < 2 ^ 63) : oMulC (.lst xs) (.int (n : Int)) S = .ok (.loc S.length) (S ++ [.lst (reps n xs)]) := by
  rw [o_mulLC, o_repC0 n h hn]
theorem o_div (h : fdivB i j = true) : oDiv (.int i) (.int j) S = .ok (.int (i / j)) S := by
  show (if _ then _ else _) = _
  rw [if_pos h]
theorem o_mod (h : 0 < j) : oMod (.int i) (.int j) S = .ok (.int (i % j)) S := by
  show (if _ then _ else _) = _
  rw [if_pos (decide_eq_true h)]
theorem o_pow (h : powB i j = true) : oPow (.int i) (.int j) S = .ok (.int (i ^ j.toNat)) S := by
  show (if _ then _ else _) = _
  rw [if_pos h]
theorem o_lt : oLt (.int i) (.int j) S = .ok (.bl (decide (i < j))) S := rfl
theorem o_le : oLe (.int i) (.int j) S = .ok (.bl (decide (i ≤ j))) S := rfl
theorem o_gt : oGt (.int i) (.int j) S = .ok (.bl (decide (j < i))) S := rfl
theorem o_ge : oGe (.int i) (.int j) S = .ok (.bl (decide (j ≤ i))) S := rfl
theorem o_ltS : oLt (.str x) (.str y) S = .ok (.bl (sLt x y)) S := rfl
theorem o_leS : oLe (.str x) (.str y) S = .ok (.bl (!sLt y x)) S := rfl
theorem o_neg : oNeg (.int i) S = .ok (.int (-i)) S := rfl
theorem o_isN : oIs d .non S = .ok (.bl (isNon d)) S := rfl
theorem o_isntN : oIsnt d .non S = .ok (.bl (!isNon d)) S := rfl
theorem isNon_int : isNon (.int i) = false := rfl
theorem isNon_non : isNon .non = true := rfl
theorem isNon_tup : isNon (.tup xs) = false := rfl
theorem beq_dec {α : Type} [BEq α] [LawfulBEq α] [DecidableEq α] (a b : α) : (a == b) = decide (a = b) := by
  by_cases h : a = b <;> simp [h]
theorem o_eqI : oEq (.int i) (.int j) S = .ok (.bl (decide (i = j))) S := by
  have : oEq (.int i) (.int j) S = .ok (.bl (false ^^ (i == j))) S := rfl
  rw [this, beq_dec, Bool.false_xor]
theorem o_neI : oNe (.int i) (.int j) S = .ok (.bl (!decide (i = j))) S := by
  have : oNe (.int i) (.int j) S = .ok (.bl (true ^^ (i == j))) S := rfl
  rw [this, beq_dec, Bool.true_xor]
theorem shaped_str (h : PyData.strOk x = true) : SeqAt.shaped (.str x) = true := by
  unfold SeqAt.shaped PyData.canLay0
  rw [h]
  rfl
theorem o_eqS (hx : PyData.strOk x = true) (hy : PyData.strOk y = true) : oEq (.str x) (.str y) S = .ok (.bl (decide (x = y))) S := by
  have : oEq (.str x) (.str y) S = if (SeqAt.shaped (.str x) && SeqAt.shaped (.str y)) = true then .ok (.bl (false ^^ (x == y))) S else .stuck := rfl
  rw [this, shaped_str hx, shaped_str hy, beq_dec, Bool.false_xor]
  rfl
theorem o_neS (hx : PyData.strOk x = true) (hy : PyData.strOk y = true) : oNe (.str x) (.str y) S = .ok (.bl (!decide (x = y))) S := by
  have : oNe (.str x) (.str y) S = if (SeqAt.shaped (.str x) && SeqAt.shaped (.str y)) = true then .ok (.bl (true ^^ (x == y))) S else .stuck := rfl
  rw [this, shaped_str hx, shaped_str hy, beq_dec, Bool.true_xor]
  rfl
theorem o_eqB {a b : Bool} : oEq (.bl a) (.bl b) S = .ok (.bl (decide (a = b))) S := by
  have : oEq (.bl a) (.bl b) S = .ok (.bl (false ^^ (a == b))) S := rfl
  rw [this, beq_dec, Bool.false_xor]
theorem o_neB {a b : Bool} : oNe (.bl a) (.bl b) S = .ok (.bl (!decide (a = b))) S := by
  have : oNe (.bl a) (.bl b) S = .ok (.bl (true ^^ (a == b))) S := rfl
  rw [this, beq_dec, Bool.true_xor]
/-! ## subscripts -/
theorem atI_natM {α : Type} (l : List α) (k : Nat) : atI l (k : Int) = l[k]? := by
  unfold atI ixN
  rw [if_pos (by omega)]
  by_cases h : k < l.length
  · rw [if_pos (by omega)]
    simp
  · rw [if_neg (by omega), List.getElem?_eq_none (by omega)]
    rfl
theorem atI_lastM {α : Type} (l : List α) : atI l (-1) = l.getLast? := by
  unfold atI ixN
  rw [if_neg (by omega)]
  by_cases h : l = []
  · subst h
    rfl
  · have : 0 < l.length := List.length_pos_iff.mpr h
    rw [if_pos (by omega), List.getLast?_eq_getElem?]
    show l[((-1 : Int) + l.length).toNat]? = _
    congr 1
    omega
theorem o_ixT (k : Nat) (h : xs[k]? = some d) : oIx (.tup xs) (.int (k : Int)) S = .ok d S := by
  show (match atI xs k with
    | some d => Out.ok d S
    | none => .stuck) = _
  rw [atI_natM, h]
theorem o_ixL (k : Nat) (h : xs[k]? = some d) : oIx (.lst xs) (.int (k : Int)) S = .ok d S := o_ixT k h
theorem o_ixSeq {q : D} (hq : seqD S q = some xs) {i : Int} (h : atI xs i = some d) : oIx q (.int i) S = .ok d S := by
  unfold oIx
  rw [hq]
  show (match atI xs i with
    | some d => Out.ok d S
    | none => .stuck) = _
  rw [h]
theorem seqD_loc {n : Nat} (h : S[n]? = some (.lst xs)) : seqD S (.loc n) = some xs := by
  show (match S[n]? with
    | some (.lst xs) => some xs
    | _ => none) = _
  rw [h]
theorem asLst_loc {n : Nat} (h : S[n]? = some (.lst xs)) : asLst S (.loc n) = some xs := by
  show (match S[n]? with
    | some (.lst xs) => some xs
    | _ => none) = _
  rw [h]
theorem cellL_loc {n : Nat} (h : S[n]? = some (.lst xs)) : cellL S (.loc n) = some (n, xs) := by
  show (match S[n]? with
    | some (.lst xs) => some (n, xs)
    | _ => none) = _
  rw [h]
theorem items_loc {n : Nat} (h : S[n]? = some (.lst xs)) : items S (.loc n) = some ⟨xs, some (n, xs)⟩ := by
  show (match S[n]? with
    | some (.lst xs) => some (⟨xs, some (n, xs)⟩ : Items)
    | _ => none) = _
  rw [h]
theorem items_lst : items S (.lst xs) = some ⟨xs, none⟩ := rfl
theorem items_tup : items S (.tup xs) = some ⟨xs, none⟩ := rfl
theorem items_str : items S (.str x) = some ⟨x.cps.toList.map signD, none⟩ := rfl
theorem t_append {n : Nat} (h : S[n]? = some (.lst xs)) (hl : xs.length < lim) : tAppend (.loc n) [d] S = .ok .non (S.set n (.lst (xs ++ [d]))) := by
  unfold tAppend
  rw [cellL_loc h]
  simp only
  rw [if_pos hl]
theorem tyB_loc {n : Nat} (h : S[n]? = some (.lst xs)) : tyB "list" S (.loc n) = true := by
  show (asLst S (.loc n)).isSome = true
  rw [asLst_loc h]
  rfl
theorem tyB_lst : tyB "list" S (.lst xs) = true := rfl
theorem tyB_str : tyB "str" S (.str x) = true := rfl
/-! ## built-in functions -/
theorem f_lenS (h : seqD S d = some xs) : bLen [d] S = .ok (.int xs.length) S := by
  unfold bLen orB
  have : fn1 lenS [d] S = .ok (.int xs.length) S := by
    show lenS d S = _
    unfold lenS
    rw [h]
  rw [this]
theorem f_lenT : bLen [.tup xs] S = .ok (.int xs.length) S := rfl
theorem f_lenL : bLen [.lst xs] S = .ok (.int xs.length) S := rfl
theorem f_lenX (h : x.length ≤ lim) : bLen [.str x] S = .ok (.int x.length) S := by
  show (if _ then _ else _) = _
  rw [if_pos h]
theorem f_abs : bAbs [.int i] S = .ok (.int (if i < 0 then -i else i)) S := rfl
theorem f_max2 : bMax [.int i, .int j] S = .ok (.int (if j > i then j else i)) S := rfl
theorem f_min2 : bMin [.int i, .int j] S = .ok (.int (if j < i then j else i)) S := rfl
theorem f_intI : bInt [.int i] S = .ok (.int i) S := rfl
theorem f_intB {b : Bool} : bInt [.bl b] S = .ok (.int (if b then 1 else 0)) S := rfl
theorem f_tupL (h : asLst S d = some xs) : bTuple [d] S = .ok (.tup xs) S := by
  unfold bTuple fn1
  simp only [h]
theorem f_tup0 : bTuple [.lst xs] S = .ok (.tup xs) S := rfl
theorem f_tupT : bTuple [.tup xs] S = .ok (.tup xs) S := rfl
theorem asInts_map : ∀ ns : List Int, asInts (ns.map .int) = some ns
  | [] => rfl
  | n :: ns => by
    show (match asInt (.int n), asInts (ns.map .int) with
      | some i, some is => some (i :: is)
      | _, _ => none) = _
    rw [asInts_map ns]
    rfl
theorem asBls_map : ∀ ns : List Bool, asBls (ns.map .bl) = some ns
  | [] => rfl
  | n :: ns => by
    show (match asBl (.bl n), asBls (ns.map .bl) with
      | some i, some is => some (i :: is)
      | _, _ => none) = _
    rw [asBls_map ns]
    rfl
theorem asStrs_map : ∀ ns : List Str, asStrs (ns.map .str) = some ns
  | [] => rfl
  | n :: ns => by
    show (match asStr (.str n), asStrs (ns.map .str) with
      | some i, some is => some (i :: is)
      | _, _ => none) = _
    rw [asStrs_map ns]
    rfl
theorem f_sum (ns : List Int) (h : asLst S d = some (ns.map .int)) : bSum [d] S = .ok (.int ns.sum) S := by
  show (match (asLst S d).bind asInts with
    | some ns => match (some (D.int ns.sum)) with
      | some r => Out.ok r S
      | none => .stuck
    | none => .stuck) = _
  rw [h]
  simp only [Option.bind_some, asInts_map]
theorem f_all (bs : List Bool) (h : asLst S d = some (bs.map .bl)) : bAll [d] S = .ok (.bl (bs.all id)) S := by
  show (match (asLst S d).bind asBls with
    | some ns => Out.ok (D.bl (ns.all id)) S
    | none => .stuck) = _
  rw [h]
  simp only [Option.bind_some, asBls_map]
theorem f_any (bs : List Bool) (h : asLst S d = some (bs.map .bl)) : bAny [d] S = .ok (.bl (bs.any id)) S := by
  show (match (asLst S d).bind asBls with
    | some ns => Out.ok (D.bl (ns.any id)) S
    | none => .stuck) = _
  rw [h]
  simp only [Option.bind_some, asBls_map]
theorem locs_eq (N : Nat) (ds : List D) : locs N ds = ds.map some ++ List.replicate (N - ds.length) none := rfl
end
theorem fn_eq (N : Nat) (b : MB) (ds : List D) (S : Sto) : mkFn N b ds S = (b (locs N ds) S).bind endF := rfl
theorem fnG_eq (N : Nat) (b : MB) (ds : List D) (S : Sto) : mkFnG N b ds S = ((b (locs N ds) S).bind endF).bind (gc S.length) := rfl
theorem endF_rt (d : D) (S : Sto) : endF (.rt d) S = .ok d S := rfl
theorem endF_nx (L : Loc) (S : Sto) : endF (.nx L) S = .ok .non S := rfl
theorem iteB {α : Type} (b : Bool) (x y : α) : (if b = true then x else y) = bif b then x else y := by cases b <;> rfl
theorem le_lim0 : (0 ≤ lim) = True := eq_true (by decide +kernel)
theorem le_lim1 : (1 ≤ lim) = True := eq_true (by decide +kernel)
theorem le_lim2 : (2 ≤ lim) = True := eq_true (by decide +kernel)
theorem le_lim3 : (3 ≤ lim) = True := eq_true (by decide +kernel)
theorem le_lim4 : (4 ≤ lim) = True := eq_true (by decide +kernel)
theorem le_lim5 : (5 ≤ lim) = True := eq_true (by decide +kernel)
theorem le_lim6 : (6 ≤ lim) = True := eq_true (by decide +kernel)
theorem le_lim7 : (7 ≤ lim) = True := eq_true (by decide +kernel)
theorem le_lim8 : (8 ≤ lim) = True := eq_true (by decide +kernel)
theorem le_lim9 : (9 ≤ lim) = True := eq_true (by decide +kernel)
theorem le_lim10 : (10 ≤ lim) = True := eq_true (by decide +kernel)
theorem le_lim11 : (11 ≤ lim) = True := eq_true (by decide +kernel)
theorem le_lim12 : (12 ≤ lim) = True := eq_true (by decide +kernel)
end MM
section
open MM
local macro_rules
  | `(tactic| simp! [$ls,*]) => `(tactic| simp (config := { maxSteps := 2000000, implicitDefEqProofs := false, dsimp := false }) only [↓reduceIte, bind_ok, bind_stuck, dry_ok, ev_ok, ev_bind, ev_dry, x_var, x_c, x_bin, asB_bl, x_test, x_andT, x_orT, x_notT, x_if, x_ofT, andK_bl, x_andV, orK_bl, x_orV, x_notV, chK_bl, x_chain, x_nil, x_cons, x_star, x_tup, x_lst, x_lstC, x_skip, seqK_nx, seqK_rt, seqK_bk, seqK_ct, x_seq, x_ret, x_drop, x_bif, x_brk, x_cnt, x_asg, x_gN, x_gNil, x_gCons, x_gTup, x_call, x_callK, x_B, x_BM, x_ix, x_dg, x_neg, x_part, x_no, x_sl, x_iAny, x_rng, rngK_int, x_for, x_lc, x_lc2, o_sub, o_add, o_lt, o_le, o_gt, o_ge, o_ltS, o_leS, o_neg, o_isN, o_isntN, isNon_int, isNon_non, isNon_tup, o_eqI, o_neI, o_eqS, o_neS, o_eqB, o_neB, items_lst, items_tup, items_str, f_lenT, f_lenL, f_abs, f_max2, f_min2, f_intI, f_intB, f_tup0, f_tupT, tyB_lst, tyB_str, endF_rt, endF_nx, List.getElem?_cons_zero, List.getElem?_cons_succ, List.set_cons_zero, List.set_cons_succ, List.length_cons, List.length_nil, wipeL, Nat.reduceAdd, Nat.reduceLeDiff, Nat.reduceEqDiff, Bool.false_eq_true, Bool.not_true, Bool.not_false, and_self, if_true, if_false, reduceCtorEq, decide_eq_true_eq, Bool.not_eq_true', decide_eq_false_iff_not, not_true_eq_false, not_false_eq_true, le_lim0, le_lim1, le_lim2, le_lim3, le_lim4, le_lim5, le_lim6, le_lim7, le_lim8, le_lim9, le_lim10, le_lim11, le_lim12, nxt_nx, nxt_ct, nxt_bk, nxt_rt, decide_true, decide_false, $ls,*])
set_option linter.all false
set_option maxRecDepth 100000
set_option maxHeartbeats 2000000
namespace MM
open PySem PySem.Spec PyProof.Rows L2
/-! ## stores without strays -/
mutual
theorem clean_mono {j k : Nat} (h : j ≤ k) : ∀ d : D, clean j d = true → clean k d = true
  | .loc n, e => by
    have e : decide (n < j) = true := e
    exact decide_eq_true (Nat.lt_of_lt_of_le (of_decide_eq_true e) h)
  | .tup xs, e => cleans_mono h xs e
  | .lst xs, e => cleans_mono h xs e
  | .dct _ vs, e => cleans_mono h vs e
  | .dcT _ vs, e => cleans_mono h vs e
  | .obj _ _ vs, e => cleans_mono h vs e
  | .clo _, e => e
  | .exc _ _, e => e
  | .non, _ => rfl
  | .bl _, _ => rfl
  | .int _, _ => rfl
  | .str _, _ => rfl
  | .ty _, _ => rfl
  | .cls _, _ => rfl
  | .scr _, _ => rfl
theorem cleans_mono {j k : Nat} (h : j ≤ k) : ∀ ds : List D, cleans j ds = true → cleans k ds = true
  | [], _ => rfl
  | d :: ds, e => by
    have e : (clean j d && cleans j ds) = true := e
    rw [Bool.and_eq_true] at e
    show (clean k d && cleans k ds) = true
    rw [Bool.and_eq_true]
    exact ⟨clean_mono h d e.1, cleans_mono h ds e.2⟩
end
theorem cleanC_mono {j k : Nat} (h : j ≤ k) (c : Cell) (e : cleanC j c = true) : cleanC k c = true := by
  cases c <;> exact cleans_mono h _ e
theorem cleans_all {k : Nat} : ∀ ds : List D, cleans k ds = true ↔ ∀ d ∈ ds, clean k d = true
  | [] => by simp [cleans]
  | d :: ds => by
    show (clean k d && cleans k ds) = true ↔ _
    rw [Bool.and_eq_true, cleans_all ds]
    simp
theorem cleans_map {α : Type} {k : Nat} (f : α → D) (xs : List α) (h : ∀ x ∈ xs, clean k (f x) = true) : cleans k (xs.map f) = true := by
  rw [cleans_all]
  intro d hd
  obtain ⟨x, hx, e⟩ := List.mem_map.mp hd
  rw [← e]
  exact h x hx
theorem cleans_app {k : Nat} {xs ys : List D} : cleans k (xs ++ ys) = true ↔ cleans k xs = true ∧ cleans k ys = true := by
  rw [cleans_all, cleans_all, cleans_all]
  constructor
  · exact fun h => ⟨fun d hd => h d (List.mem_append.mpr (.inl hd)), fun d hd => h d (List.mem_append.mpr (.inr hd))⟩
  · rintro ⟨h1, h2⟩ d hd
    rcases List.mem_append.mp hd with h | h
    · exact h1 d h
    · exact h2 d h
def Cl (S : Sto) : Prop := ∀ c ∈ S, cleanC S.length c = true
theorem Cl.all {S : Sto} (h : Cl S) {k : Nat} (hk : S.length ≤ k) : S.all (cleanC k) = true := by
  rw [List.all_eq_true]
  exact fun c hc => cleanC_mono hk c (h c hc)
theorem Cl.app {S T : Sto} (h : Cl S) (ht : ∀ c ∈ T, cleanC (S.length + T.length) c = true) : Cl (S ++ T) := by
  intro c hc
  rw [List.length_append]
  rcases List.mem_append.mp hc with q | q
  · exact cleanC_mono (by omega) c (h c q)
  · exact ht c q
theorem Cl.set {S : Sto} (h : Cl S) (n : Nat) {c : Cell} (hc : cleanC S.length c = true) : Cl (S.set n c) := by
  intro x hx
  rw [List.length_set]
  rcases List.mem_or_eq_of_mem_set hx with q | q
  · exact h x q
  · rw [q]; exact hc
theorem Cl.at_ {S : Sto} (h : Cl S) {n : Nat} {c : Cell} (e : S[n]? = some c) : cleanC S.length c = true := h c (List.mem_of_getElem? e)
/-! the end of a def that makes cells -/
theorem gc_ok {S T : Sto} {d d' : D} (h : Cl S) (hf : frz S.length (S ++ T) d = some d') : gc S.length d (S ++ T) = .ok d' S := by
  unfold gc
  rw [hf]
  simp only
  rw [List.take_left, if_pos (h.all (Nat.le_refl _))]
theorem frz_lst {S T : Sto} {xs : List D} {n : Nat} (hn : S.length ≤ n) (e : (S ++ T)[n]? = some (.lst xs)) (hc : cleans S.length xs = true) : frz S.length (S ++ T) (.loc n) = some (.lst xs) := by
  unfold frz
  simp only
  rw [if_neg (by omega), e]
  simp only
  rw [if_pos hc]
theorem frz_ins {S T : Sto} {C : Str} {ns : List Str} {xs : List D} {n : Nat} (hn : S.length ≤ n) (e : (S ++ T)[n]? = some (.ins C ns xs)) (hc : cleans S.length xs = true) : frz S.length (S ++ T) (.loc n) = some (.obj C ns xs) := by
  unfold frz
  simp only
  rw [if_neg (by omega), e]
  simp only
  rw [if_pos hc]
theorem frz_val {k : Nat} {S : Sto} {d : D} (hc : clean k d = true) : frz k S d = some d := by
  cases d <;> first | (exact if_pos hc) | (unfold frz; simp only; first | rfl | (rw [if_pos (of_decide_eq_true hc)]) | (rw [if_pos hc]))
theorem gc_lst {S T : Sto} {xs : List D} (h : Cl S) (hc : cleans S.length xs = true) : gc S.length (.loc S.length) (S ++ .lst xs :: T) = .ok (.lst xs) S :=
  gc_ok h (frz_lst (Nat.le_refl _) (by rw [List.getElem?_append_right (Nat.le_refl _), Nat.sub_self]; rfl) hc)
theorem gc_val {S T : Sto} {d : D} (h : Cl S) (hc : clean S.length d = true) : gc S.length d (S ++ T) = .ok d S := gc_ok h (frz_val hc)
theorem gc_same {S : Sto} {d : D} (h : Cl S) (hc : clean S.length d = true) : gc S.length d S = .ok d S := by
  have := gc_val (T := []) h hc
  rw [List.append_nil] at this
  exact this
/-! a cell behind the others -/
theorem top_at {S : Sto} {c : Cell} {T : Sto} : (S ++ c :: T)[S.length]? = some c := by
  rw [List.getElem?_append_right (Nat.le_refl _), Nat.sub_self]
  rfl
theorem top_set {S : Sto} {c e : Cell} {T : Sto} : (S ++ c :: T).set S.length e = S ++ e :: T := by
  rw [List.set_append_right _ _ (Nat.le_refl _), Nat.sub_self]
  rfl
theorem low_at {S T : Sto} {n : Nat} {c : Cell} (h : S[n]? = some c) : (S ++ T)[n]? = some c := by
  rw [List.getElem?_append_left (List.getElem?_eq_some_iff.mp h).1]
  exact h
section
variable {S T : Sto} {xs ys : List D} {d : D}
theorem top_append : tAppend (.loc S.length) [d] (S ++ .lst xs :: T) = if xs.length < lim then .ok .non (S ++ .lst (xs ++ [d]) :: T) else .stuck := by
  by_cases h : xs.length < lim
  · rw [t_append top_at h, top_set, if_pos h]
  · rw [if_neg h]
    unfold tAppend
    rw [cellL_loc top_at]
    simp only
    rw [if_neg h]
theorem snd_at {a c : Cell} : (S ++ a :: c :: T)[S.length + 1]? = some c := by
  rw [List.getElem?_append_right (by omega), Nat.add_sub_cancel_left]
  rfl
theorem trd_at {a b c : Cell} : (S ++ a :: b :: c :: T)[S.length + 2]? = some c := by
  rw [List.getElem?_append_right (by omega), Nat.add_sub_cancel_left]
  rfl
theorem snd_set {a c e : Cell} : (S ++ a :: c :: T).set (S.length + 1) e = S ++ a :: e :: T := by
  rw [List.set_append_right _ _ (by omega), Nat.add_sub_cancel_left]
  rfl
theorem trd_set {a b c e : Cell} : (S ++ a :: b :: c :: T).set (S.length + 2) e = S ++ a :: b :: e :: T := by
  rw [List.set_append_right _ _ (by omega), Nat.add_sub_cancel_left]
  rfl
theorem tAppend_if {S : Sto} {n : Nat} (h : S[n]? = some (.lst xs)) : tAppend (.loc n) [d] S = if xs.length < lim then .ok .non (S.set n (.lst (xs ++ [d]))) else .stuck := by
  unfold tAppend
  rw [cellL_loc h]
theorem snd_append {a : Cell} : tAppend (.loc (S.length + 1)) [d] (S ++ a :: .lst xs :: T) = if xs.length < lim then .ok .non (S ++ a :: .lst (xs ++ [d]) :: T) else .stuck := by
  rw [tAppend_if snd_at, snd_set]
theorem trd_append {a b : Cell} : tAppend (.loc (S.length + 2)) [d] (S ++ a :: b :: .lst xs :: T) = if xs.length < lim then .ok .non (S ++ a :: b :: .lst (xs ++ [d]) :: T) else .stuck := by
  rw [tAppend_if trd_at, trd_set]
theorem snd_tyB {a : Cell} : tyB "list" (S ++ a :: .lst xs :: T) (.loc (S.length + 1)) = true := tyB_loc snd_at
theorem trd_tyB {a b : Cell} : tyB "list" (S ++ a :: b :: .lst xs :: T) (.loc (S.length + 2)) = true := tyB_loc trd_at
theorem ite_ok {α : Type} {p : Prop} [Decidable p] {a b : α} {S : Sto} : (if p then Out.ok a S else Out.ok b S) = Out.ok (if p then a else b) S := by split <;> rfl
theorem iteD_int {p : Prop} [Decidable p] {i j : Int} : (if p then D.int i else D.int j) = D.int (if p then i else j) := by split <;> rfl
theorem top_tyB : tyB "list" (S ++ .lst xs :: T) (.loc S.length) = true := tyB_loc top_at
theorem top_items : items (S ++ .lst xs :: T) (.loc S.length) = some ⟨xs, some (S.length, xs)⟩ := items_loc top_at
theorem top_seqD : seqD (S ++ .lst xs :: T) (.loc S.length) = some xs := seqD_loc top_at
theorem top_asLst : asLst (S ++ .lst xs :: T) (.loc S.length) = some xs := asLst_loc top_at
theorem top_len : bLen [.loc S.length] (S ++ .lst xs :: T) = .ok (.int xs.length) (S ++ .lst xs :: T) := f_lenS (seqD_loc top_at)
theorem top_tuple : bTuple [.loc S.length] (S ++ .lst xs :: T) = .ok (.tup xs) (S ++ .lst xs :: T) := f_tupL (asLst_loc top_at)
theorem top_grd : grdOk (some (S.length, xs)) (S ++ .lst xs :: T) := top_at
end
end MM
set_option linter.all false
set_option maxRecDepth 100000
set_option maxHeartbeats 2000000
namespace MM
open PySem PySem.Spec PyProof.Rows L2
section
variable {a b o : ME} {L : Loc} {S T : Sto} {C f m : Str} {ns : List Str} {vs : List D} {d v : D} {n : Nat} {ma : MA} {fn : FnM}
/-! ## objects -/
def fldK (C f : Str) (d : D) (S : Sto) : Out D := match clsD S d, fldsD S d with
  | some C', some (ns, vs) => if C' = C then match lookD f ns vs with
    | some v => .ok v S
    | none => .stuck else .stuck
  | _, _ => .stuck
theorem x_fld : mFld C f o L S = (o L S).bind (fldK C f) := rfl
theorem fldK_loc (h : S[n]? = some (.ins C ns vs)) (hl : lookD f ns vs = some v) : fldK C f (.loc n) S = .ok v S := by
  unfold fldK clsD fldsD
  simp only [h, if_true, hl]
theorem fldK_obj (hl : lookD f ns vs = some v) : fldK C f (.obj C ns vs) S = .ok v S := by
  unfold fldK clsD fldsD
  simp only [if_true, hl]
def fldP (C f : Str) (d : D) (L : Loc) (x : D) (S : Sto) : Out Fl := match x with
  | .loc n => match S[n]? with
    | some (.ins C' ns vs) => if C' = C ∧ ns.length < 1000 then .ok (.nx L) (S.set n (.ins C (putD f d ns vs).1 (putD f d ns vs).2)) else .stuck
    | _ => .stuck
  | _ => .stuck
theorem x_bFld : bFld C f o a L S = (a L S).bind fun d S1 => (o L S1).bind (fldP C f d L) := rfl
theorem fldP_loc (h : S[n]? = some (.ins C ns vs)) (hn : ns.length < 1000) : fldP C f d L (.loc n) S = .ok (.nx L) (S.set n (.ins C (putD f d ns vs).1 (putD f d ns vs).2)) := by
  unfold fldP
  simp only [h, hn, and_self, if_true]
theorem top_fldP (hn : ns.length < 1000) : fldP C f d L (.loc S.length) (S ++ .ins C ns vs :: T) = .ok (.nx L) (S ++ .ins C (putD f d ns vs).1 (putD f d ns vs).2 :: T) := by
  rw [fldP_loc top_at hn, top_set]
theorem top_fldK (hl : lookD f ns vs = some v) : fldK C f (.loc S.length) (S ++ .ins C ns vs :: T) = .ok v (S ++ .ins C ns vs :: T) := fldK_loc top_at hl
def methK (C m : Str) (n : Nat) (fn : FnM) (a : MA) (L : Loc) (d : D) (S : Sto) : Out D := match clsD S d, fldsD S d with
  | some C', some (ns, _) => if C' = C ∧ ¬ m ∈ ns then (a L S).bind fun ds S2 => if ds.length = n then fn (d :: ds) S2 else .stuck else .stuck
  | _, _ => .stuck
theorem x_meth (k : Nat) : mMeth C m k fn o ma L S = (o L S).bind (methK C m k fn ma L) := rfl
theorem methK_loc {k : Nat} (h : S[n]? = some (.ins C ns vs)) (hm : ¬ m ∈ ns) : methK C m k fn ma L (.loc n) S = (ma L S).bind fun ds S2 => if ds.length = k then fn (.loc n :: ds) S2 else .stuck := by
  unfold methK clsD fldsD
  simp only [h, hm, not_false_eq_true, and_self, if_true]
theorem x_make (k : Nat) : mMake C k fn ma L S = (ma L S).bind fun ds S1 => if ds.length = k then (fn (.loc S1.length :: ds) (S1 ++ [.ins C [] []])).bind fun v S2 => match v with
  | .non => .ok (.loc S1.length) S2
  | _ => .stuck
  else .stuck := rfl
theorem x_prop : mProp C fn o L S = (o L S).bind fun d S1 => if clsD S1 d = some C then dry (fn [d] S1) else .stuck := rfl
/-! ## walks with their places, of two at once -/
theorem x_enm : iEnmA ma L S = orI (iEnm ma) (iEnmT ma) L S := rfl
theorem enm_lst {xs : List D} (h : ma L S = .ok [.lst xs] S) : iEnmA ma L S = .ok ⟨enumD xs, none⟩ S := by
  unfold iEnmA orI iEnm
  rw [h]
  rfl
theorem enm_loc {xs : List D} (h : ma L S = .ok [.loc n] S) (hn : S[n]? = some (.lst xs)) : iEnmA ma L S = .ok ⟨enumD xs, some (n, xs)⟩ S := by
  unfold iEnmA orI iEnm
  rw [h]
  simp only [bind_ok]
  have : lstI S (.loc n) = some ⟨xs, some (n, xs)⟩ := by
    unfold lstI
    simp only [hn]
  rw [this]
theorem enm_tup {xs : List D} (h : ma L S = .ok [.tup xs] S) : iEnmA ma L S = .ok ⟨enumD xs, none⟩ S := by
  unfold iEnmA orI iEnm iEnmT
  rw [h]
  rfl
theorem enumD_get {xs : List D} {k : Nat} {d : D} (h : (enumD xs)[k]? = some d) : ∃ x, xs[k]? = some x ∧ d = .tup [.int (k : Int), x] := enumD_at h
theorem enumD_length (xs : List D) : (enumD xs).length = xs.length := by simp [enumD]
theorem enumD_map {α : Type} (f : α → D) (xs : List α) : enumD (xs.map f) = (xs.zipIdx).map fun p => D.tup [.int (p.2 : Int), f p.1] := by
  apply List.ext_getElem?
  intro k
  unfold enumD
  by_cases h : k < xs.length
  · simp [List.getElem?_map, List.getElem?_range, h]
  · rw [List.getElem?_eq_none (by simp; omega), List.getElem?_eq_none (by simp; omega)]
theorem zp_lst {xs ys : List D} (h : ma L S = .ok [.lst xs, .lst ys] S) : iZp ma L S = .ok ⟨zipD xs ys, none⟩ S := by
  unfold iZp
  rw [h]
  rfl
theorem zp_tup {xs ys : List D} (h : ma L S = .ok [.tup xs, .tup ys] S) : iZp ma L S = .ok ⟨zipD xs ys, none⟩ S := by
  unfold iZp
  rw [h]
  rfl
theorem zipD_map {α β : Type} (f : α → D) (g : β → D) (xs : List α) (ys : List β) : zipD (xs.map f) (ys.map g) = (xs.zip ys).map fun p => D.tup [f p.1, g p.2] := by
  unfold zipD
  rw [List.zipWith_map, List.zip, List.map_zipWith]
def enmK (ds : List D) (L : Loc) (S : Sto) : Out Items := iEnmA (fun _ S => .ok ds S) L S
def zpK (ds : List D) (L : Loc) (S : Sto) : Out Items := iZp (fun _ S => .ok ds S) L S
theorem x_zp : iZp ma L S = (ma L S).bind fun ds S1 => zpK ds L S1 := by
  unfold zpK iZp
  cases ma L S <;> rfl
theorem x_enmA : iEnmA ma L S = iEnmA (fun _ _ => ma L S) L S := rfl
theorem enm_ok {ds : List D} {S1 : Sto} (h : ma L S = .ok ds S1) : iEnmA ma L S = iEnmA (fun _ S => .ok ds S) L S1 := by
  unfold iEnmA orI iEnm iEnmT
  rw [h]
theorem x_enm1 : iEnmA ma L S = (ma L S).bind fun ds S1 => enmK ds L S1 := by
  cases h : ma L S with
  | ok ds S1 => rw [bind_ok]; exact enm_ok h
  | exc e S1 =>
    unfold iEnmA orI iEnm
    rw [h]
    rfl
  | stuck =>
    unfold iEnmA orI iEnm iEnmT
    rw [h]
    rfl
theorem enmLoc {xs : List D} (hn : S[n]? = some (.lst xs)) : enmK [.loc n] L S = .ok ⟨enumD xs, some (n, xs)⟩ S := enm_loc rfl hn
theorem enmT {xs : List D} : enmK [.tup xs] L S = .ok ⟨enumD xs, none⟩ S := enm_tup rfl
theorem enmL {xs : List D} : enmK [.lst xs] L S = .ok ⟨enumD xs, none⟩ S := enm_lst rfl
theorem zpL {xs ys : List D} : zpK [.lst xs, .lst ys] L S = .ok ⟨zipD xs ys, none⟩ S := zp_lst rfl
theorem zpT {xs ys : List D} : zpK [.tup xs, .tup ys] L S = .ok ⟨zipD xs ys, none⟩ S := zp_tup rfl
/-! ## a list's item is put -/
def lputK (d k v : D) (L : Loc) (S : Sto) : Out Fl := (lput d k v S).bind fun _ S4 => .ok (.nx L) S4
theorem x_lput {i w : ME} : bLPut o i w L S = (w L S).bind fun x S1 => (o L S1).bind fun d S2 => (i L S2).bind fun k S3 => lputK d k x L S3 := rfl
theorem lputK_loc {xs : List D} {i : Int} {j : Nat} (h : S[n]? = some (.lst xs)) (hj : ixN xs.length i = some j) : lputK (.loc n) (.int i) v L S = .ok (.nx L) (S.set n (.lst (xs.set j v))) := by
  unfold lputK lput
  rw [cellL_loc h]
  show ((match some (n, xs), asInt (.int i) with
    | some (n, xs), some i => match ixN xs.length i with
      | some j => Out.ok () (S.set n (.lst (xs.set j v)))
      | none => .stuck
    | _, _ => .stuck).bind _) = _
  simp only [asInt, hj, bind_ok]
theorem ixN_nat {m k : Nat} (h : k < m) : ixN m (k : Int) = some k := by
  unfold ixN
  rw [if_pos (by omega), if_pos (by omega)]
  simp
end
end MM
set_option linter.all false
set_option maxRecDepth 100000
set_option maxHeartbeats 2000000
namespace Wk
open PySem PySem.Spec PyProof.Rows L2 MM
/-! # the solver's defs -/
theorem d_common (a b : Nat) (S : Sto) : f_common_part [.int (a : Int), .int (b : Int)] S = .ok (.int (Nat.gcd a b : Nat)) S := by
  apply of_ev
  show Ev ((b_common_part [some (.int (a : Int)), some (.int (b : Int))] S).bind endF) _
  unfold b_common_part
  simp! []
  refine ev_while (I := fun n L S' => S' = S ∧ ∃ x y : Nat, n = y ∧ L = [some (.int (x : Int)), some (.int (y : Int))] ∧ Nat.gcd x y = Nat.gcd a b) ?_ (n := b) ⟨rfl, a, b, rfl, rfl, rfl⟩
  rintro n L S' ⟨rfl, x, y, e, rfl, hg⟩
  subst e
  simp! []
  by_cases hy : (n : Int) = 0
  · have : n = 0 := by omega
    subst this
    simp! [hy]
    rw [Nat.gcd_zero_right] at hg
    simp [hg]
  · have h0 : (0 : Int) < n := by omega
    simp! [hy, bPar2, o_mod h0]
    refine ⟨x % n, Nat.mod_lt _ (by omega), trivial, n, x % n, rfl, ?_, ?_⟩
    · simp
    · rw [← hg, Nat.gcd_comm x n, Nat.gcd_rec n x, Nat.gcd_comm]
theorem abs_nat (i : Int) : (if i < 0 then -i else i) = (i.natAbs : Int) := by split <;> omega
theorem take_succ {α : Type} {xs : List α} {k : Nat} {x : α} (h : xs[k]? = some x) : xs.take (k + 1) = xs.take k ++ [x] := by
  rw [List.take_succ, h]
  rfl
theorem gcdF_app (g : Nat) (xs : List Int) (x : Int) : SM.gcdF g (xs ++ [x]) = Nat.gcd (SM.gcdF g xs) x.natAbs := by
  unfold SM.gcdF
  rw [List.foldl_append]
  rfl
theorem map_at {α : Type} {f : α → D} {xs : List α} {k : Nat} {d : D} (h : (xs.map f)[k]? = some d) : ∃ x, xs[k]? = some x ∧ d = f x := by
  rw [List.getElem?_map, Option.map_eq_some_iff] at h
  obtain ⟨x, h1, h2⟩ := h
  exact ⟨x, h1, h2.symm⟩
theorem fdiv_ok {i j : Int} (h0 : 0 < j) (h : j.natAbs ≤ 2 ^ 5000) : fdivB i j = true := by
  refine decide_eq_true ⟨h0, ?_⟩
  have := SM.log2_le h
  omega
theorem d_least {S : Sto} (ns : List Int) (d : D) (gd : Grd) (hi : items S d = some ⟨ns.map .int, gd⟩) (hg : grdOk gd S) (hb : ∀ x ∈ ns, x.natAbs ≤ 2 ^ 5000) (hl : ns.length ≤ lim) : f_least_terms [d] S = .ok (.tup ((SM.ltm ns).map .int)) S := by
  apply of_ev
  show Ev ((b_least_terms [some d, none, none] S).bind endF) _
  unfold b_least_terms
  simp! [hi]
  refine ev_for (fun k L S' => S' = S ∧ ∃ o, L = [some d, some (.int (SM.gcdF 0 (ns.take k) : Nat)), o]) ?_ ?_ ?_ ⟨rfl, none, rfl⟩
  · rintro k L S' ⟨rfl, _⟩
    exact hg
  · rintro k e L S' hk ⟨rfl, o, rfl⟩
    obtain ⟨x, hx, rfl⟩ := map_at hk
    simp! [abs_nat, d_common]
    rw [take_succ hx, gcdF_app]
    exact ⟨trivial, _, rfl⟩
  · rintro L S' ⟨rfl, o, rfl⟩
    rw [List.length_map, List.take_length]
    have e : (SM.gcdF 0 ns : Int) = SM.gcdL ns := rfl
    simp! [hi]
    rw [lc_map (f := fun n => D.int (n / SM.dv ns)) D.int hg ns _ hl]
    · simp! []
      rw [SM.ltm, List.map_map]
      exact ⟨rfl, trivial⟩
    · intro z hz
      have e2 : (if (1 : Int) > (SM.gcdF 0 ns : Nat) then 1 else ((SM.gcdF 0 ns : Nat) : Int)) = SM.dv ns := by
        unfold SM.dv
        show _ = max (SM.gcdF 0 ns : Int) 1
        split <;> omega
      refine ⟨_, rfl, ?_⟩
      have h1 : fdivB z (SM.dv ns) = true := fdiv_ok (SM.dv_pos ns) (SM.dv_abs (by decide +kernel) hb)
      simp! [e2, o_div h1]
/-! ## rows -/
def kW : SM.Kd → Str
  | .weak => "weak"
  | .strict => "strict"
  | .even => "even"
abbrev rowD (r : SM.KRow) : D := .tup [.str (kW r.1), .tup (r.2.map .int)]
abbrev prowD (p : SM.PRow) : D := .tup [.bl p.1, .tup (p.2.map .int)]
theorem kW_ok (k : SM.Kd) : PyData.strOk (kW k) = true := by cases k <;> decide +kernel
theorem kW_strict (k : SM.Kd) : decide (kW k = ("strict" : Str)) = decide (k = .strict) := by cases k <;> decide +kernel
theorem kW_even (k : SM.Kd) : decide (kW k = ("even" : Str)) = decide (k = .even) := by cases k <;> decide +kernel
theorem ok_strict : PyData.strOk "strict" = true := by decide +kernel
theorem ok_even : PyData.strOk "even" = true := by decide +kernel
theorem eqS_strict {S : Sto} (k : SM.Kd) : oEq (.str (kW k)) (.str "strict") S = .ok (.bl (decide (k = .strict))) S := by rw [o_eqS (kW_ok k) ok_strict, kW_strict]
theorem eqS_even {S : Sto} (k : SM.Kd) : oEq (.str (kW k)) (.str "even") S = .ok (.bl (decide (k = .even))) S := by rw [o_eqS (kW_ok k) ok_even, kW_even]
theorem plain_length (rows : List SM.KRow) : (SM.plain rows).length ≤ 2 * rows.length := by
  induction rows with
  | nil => simp [SM.plain]
  | cons r rs ih =>
    have e : SM.plain (r :: rs) = SM.plain1 r ++ SM.plain rs := by simp [SM.plain]
    rw [e, List.length_append, List.length_cons]
    have : (SM.plain1 r).length ≤ 2 := by
      unfold SM.plain1
      split <;> simp
    omega
theorem plain_app (rows : List SM.KRow) (r : SM.KRow) : SM.plain (rows ++ [r]) = SM.plain rows ++ SM.plain1 r := by simp [SM.plain]
theorem cleans_ints {k : Nat} (ns : List Int) : cleans k (ns.map .int) = true := cleans_map _ _ fun _ _ => rfl
theorem clean_prow {k : Nat} (p : SM.PRow) : clean k (prowD p) = true := by
  show (clean k (.bl p.1) && (clean k (.tup (p.2.map .int)) && true)) = true
  rw [show clean k (.tup (p.2.map .int)) = cleans k (p.2.map .int) from rfl, cleans_ints]
  rfl
theorem d_plain {S : Sto} (hS : Cl S) (rows : List SM.KRow) (hl : rows.length ≤ 1000) (hn : ∀ r ∈ rows, r.2.length ≤ 1000) : f_plain_rows [.lst (rows.map rowD)] S = .ok (.lst ((SM.plain rows).map prowD)) S := by
  apply of_ev
  show Ev (((b_plain_rows [some (.lst (rows.map rowD)), none, none, none, none] S).bind endF).bind (gc S.length)) _
  unfold b_plain_rows
  simp! [Nat.zero_le]
  refine ev_for (gd := none) (fun k L S' => S' = S ++ [.lst ((SM.plain (rows.take k)).map prowD)] ∧ ∃ o1 o2 o3, L = [some (.lst (rows.map rowD)), some (.loc S.length), o1, o2, o3]) (fun _ _ _ _ => trivial) ?_ ?_ ⟨rfl, _, _, _, rfl⟩
  · rintro k e L S' hk ⟨rfl, o1, o2, o3, rfl⟩
    obtain ⟨⟨kd, ns⟩, hx, rfl⟩ := map_at hk
    have h1 : ns.length ≤ 1000 := hn _ (List.mem_of_getElem? hx)
    have h2 := plain_length (rows.take k)
    rw [List.length_take] at h2
    have q1 : (SM.plain (rows.take k)).length < lim := by unfold lim; omega
    have q2 : (SM.plain (rows.take k)).length + 1 < lim := by unfold lim; omega
    simp! [eqS_strict, eqS_even, top_append, top_tyB, List.length_map, q1]
    rw [take_succ hx, plain_app]
    by_cases he : kd = .even
    · subst he
      simp! []
      rw [lc_map (gd := none) (f := fun n => D.int (-n)) D.int trivial ns (fun z _ => ⟨_, rfl, rfl⟩) (by unfold lim; omega)]
      simp! [top_append, List.length_append, List.length_map, q2]
      refine ⟨?_, _, _, _, rfl⟩
      simp [SM.plain1, List.map_append, prowD]
    · simp! [he]
      refine ⟨?_, _, _, _, rfl⟩
      simp [SM.plain1, he, List.map_append, prowD]
  · rintro L S' ⟨rfl, o1, o2, o3, rfl⟩
    rw [List.length_map, List.take_length]
    simp! []
    rw [gc_lst hS (cleans_map _ _ fun p _ => clean_prow p)]
    exact ⟨rfl, rfl⟩
end Wk
set_option linter.all false
set_option maxRecDepth 100000
set_option maxHeartbeats 2000000
namespace Wk
open PySem PySem.Spec PyProof.Rows L2 MM
open SM (Rows Bs sm)
/-! # the tableau -/
abbrev tNames : List Str := ["many", "width", "divisor", "lines", "base", "goal"]
abbrev tVals (R : Rows) (b : Bs) (ln bs : Nat) : List D := [.int (R.n : Int), .int (R.w : Int), .int (R.P.d b), .loc ln, .loc bs, .lst ((SM.goalL R.P b).map .int)]
abbrev tLines (R : Rows) (b : Bs) : List D := (List.range R.m).map fun i => .lst ((SM.rowL R.P b i).map .int)
abbrev tBase (R : Rows) (b : Bs) : List D := (List.range R.m).map fun i => .int (b i : Int)
structure Tab (R : Rows) (S : Sto) (b : Bs) (ln bs : Nat) (S' : Sto) : Prop where
  pre : ∃ T, S' = S ++ .ins "Tableau" tNames (tVals R b ln bs) :: T
  hl : S.length < ln
  hb : S.length < bs
  ne : ln ≠ bs
  al : S'[ln]? = some (.lst (tLines R b))
  ab : S'[bs]? = some (.lst (tBase R b))
  cl : Cl S'
theorem enumD_rng {α : Type} (f : α → D) (xs : List α) (dflt : α) : enumD (xs.map f) = (List.range xs.length).map fun (i : Nat) => D.tup [.int (i : Int), f (xs.getD i dflt)] := by
  unfold enumD
  rw [List.length_map]
  apply List.map_congr_left
  intro i hi
  have hi : i < xs.length := List.mem_range.mp hi
  simp [List.getD, hi]
theorem getD_some {α : Type} {xs : List α} {i : Nat} (h : i < xs.length) (d : α) : xs[i]? = some (xs.getD i d) := by
  simp [List.getD, h]
theorem wide_ok {i j : Int} (h1 : i.natAbs ≤ 2 ^ 5000) (h2 : j.natAbs ≤ 2 ^ 5000) : wideB i j = true := by
  have := SM.log2_le h1
  have := SM.log2_le h2
  exact decide_eq_true (by omega)
theorem idxI_of {n : Int} : ∀ {l : List Int} {j : Nat}, l[j]? = some n → l.Nodup → idxI n l = some j
  | [], j, h, _ => by simp at h
  | k :: ks, 0, h, _ => by
    have h : k = n := by simpa using h
    unfold idxI
    rw [if_pos h]
  | k :: ks, j + 1, h, hn => by
    have h : ks[j]? = some n := by simpa using h
    obtain ⟨h1, h2⟩ := List.nodup_cons.mp hn
    unfold idxI
    rw [if_neg fun e => h1 (by rw [e]; exact List.mem_of_getElem? h), idxI_of h h2]
    rfl
theorem range_split (a b : Nat) : List.range (a + b) = List.range a ++ (List.range b).map (a + ·) := List.range_add
section
variable {ps : List SM.PRow} {n : Nat}
theorem hl_lt {R : Rows} {i : Nat} (h : i ∈ R.hl) : i < R.m ∧ R.st i = true := by
  unfold Rows.hl at h
  rw [List.mem_filter, List.mem_range] at h
  exact h
theorem map_hl {R : Rows} (f : Nat → Int) : R.hl.map f = (List.range R.hl.length).map fun t => f (R.hl.getD t 0) := by
  apply List.ext_getElem
  · simp
  · intro i h1 h2
    have h1 : i < R.hl.length := by simpa using h1
    simp [List.getD, h1]
theorem row0 {R : Rows} {k : Nat} (hk : k < R.m) : SM.rowL R.P R.b0 k = ((List.range R.n).map fun j => R.sgn k * R.a k j) ++ ((List.range R.m).map fun (j : Nat) => - R.sgn k * SM.b2i (decide ((j : Int) = (k : Int)))) ++ (R.hl.map fun (i : Nat) => SM.b2i (decide ((i : Int) = (k : Int)))) ++ [SM.b2i (R.st k)] := by
  have e : SM.rowL R.P R.b0 k = (List.range (R.n + R.m + R.hl.length + 1)).map fun j => R.A j k := by
    unfold SM.rowL
    apply List.map_congr_left
    intro j _
    exact SM.T_b0 hk
  rw [e, List.range_succ, range_split (R.n + R.m), range_split R.n R.m, map_hl (R := R)]
  simp only [List.map_append, List.map_map, List.map_cons, List.map_nil]
  congr 1
  · congr 1
    · congr 1
      · apply List.map_congr_left
        intro j hj
        have hj : j < R.n := List.mem_range.mp hj
        unfold Rows.A
        rw [if_pos hj]
      · apply List.map_congr_left
        intro j hj
        have hj : j < R.m := List.mem_range.mp hj
        show R.A (R.n + j) k = _
        unfold Rows.A
        rw [if_neg (by omega), if_pos (by unfold Rows.w; omega)]
        have e1 : R.n + j - R.n = j := by omega
        have e2 : decide ((j : Int) = (k : Int)) = decide (j = k) := decide_eq_decide.mpr (by omega)
        rw [e1, e2]
    · apply List.map_congr_left
      intro t ht
      have ht : t < R.hl.length := List.mem_range.mp ht
      show R.A (R.n + R.m + t) k = _
      unfold Rows.A
      rw [if_neg (by omega), if_neg (by unfold Rows.w; omega), if_pos (by unfold Rows.W Rows.w; omega)]
      have e1 : R.n + R.m + t - R.w = t := by unfold Rows.w; omega
      have e2 : decide (((R.hl.getD t 0 : Nat) : Int) = (k : Int)) = decide (some (R.hl.getD t 0) = some k) := decide_eq_decide.mpr (by rw [Option.some.injEq]; omega)
      rw [e1, getD_some ht 0, e2]
  · have e1 : R.n + R.m + R.hl.length = R.W := rfl
    rw [e1, SM.A_W]
theorem range_getD {xs : List Int} {n : Nat} (h : xs.length = n) : xs = (List.range n).map fun j => xs.getD j 0 := by
  apply List.ext_getElem
  · simp [h]
  · intro j h1 h2
    simp [List.getD, h1]
theorem t_index {S : Sto} {l : List Int} {k : Int} {j : Nat} (h : idxI k l = some j) : tIndex (.lst (l.map .int)) [.int k] S = .ok (.int (j : Int)) S := by
  unfold tIndex
  simp only [asLst, Option.bind_some, asInts_map, h]
theorem index_hl {R : Rows} {k : Nat} (hk : k < R.m) (hs : R.st k = true) : idxI (k : Int) (R.hl.map fun (i : Nat) => (i : Int)) = some (R.cnt k) := by
  apply idxI_of
  · rw [List.getElem?_map]
    have := SM.hl_at (m := R.m) hk hs
    rw [show R.hl[R.cnt k]? = some k from this]
    rfl
  · rw [List.nodup_iff_pairwise_ne, List.pairwise_map]
    have h : R.hl.Nodup := List.Pairwise.filter _ List.nodup_range
    exact List.Pairwise.imp (fun ne e => ne (Int.ofNat.inj e)) h
theorem hl_map (st : Nat → Bool) (m : Nat) : ((List.range m).filter st).map (fun (i : Nat) => D.int (i : Int)) = (((List.range m).filter st).map (fun (i : Nat) => (i : Int))).map .int := by
  rw [List.map_map]
  rfl
theorem putD_new (f : Str) (d : D) : ∀ (ns : List Str) (vs : List D), ns.length = vs.length → ¬ f ∈ ns → putD f d ns vs = (ns ++ [f], vs ++ [d])
  | [], [], _, _ => rfl
  | n :: ns, v :: vs, h, hn => by
    have ih := putD_new f d ns vs (by simpa using h) (fun z => hn (List.mem_cons_of_mem _ z))
    unfold putD
    rw [if_neg (fun z => hn (by rw [z]; exact List.mem_cons_self)), ih]
    rfl
theorem sum_hl {R : Rows} (f : Nat → Int) : ∀ m, (((List.range m).filter R.st).map f).sum = sm m fun k => if R.st k = true then f k else 0
  | 0 => rfl
  | m + 1 => by
    rw [List.range_succ, List.filter_append, List.map_append, List.sum_append, sum_hl f m]
    show _ = sm m _ + _
    congr 1
    by_cases h : R.st m = true
    · simp [h]
    · simp [h]
theorem putD_last (f : Str) (d x : D) : ∀ (ns : List Str) (vs : List D), ns.length = vs.length → ¬ f ∈ ns → putD f d (ns ++ [f]) (vs ++ [x]) = (ns ++ [f], vs ++ [d])
  | [], [], _, _ => by
    show (if f = f then _ else _) = _
    rw [if_pos rfl]
    rfl
  | n :: ns, v :: vs, h, hn => by
    have ih := putD_last f d x ns vs (by simpa using h) (fun z => hn (List.mem_cons_of_mem _ z))
    show putD f d (n :: (ns ++ [f])) (v :: (vs ++ [x])) = _
    unfold putD
    rw [if_neg (fun z => hn (by rw [z]; exact List.mem_cons_self)), ih]
    rfl
def goalK (R : Rows) (k j : Nat) : Int := (if R.w ≤ j ∧ j < R.W then 1 else 0) - ((R.hl.take k).map (R.A j)).sum
theorem goal_end (R : Rows) : (List.range (R.W + 1)).map (goalK R R.hl.length) = SM.goalL R.P R.b0 := by
  unfold SM.goalL
  apply List.map_congr_left
  intro j _
  rw [SM.g_b0]
  unfold goalK
  rw [List.take_length]
  unfold Rows.hl
  rw [sum_hl]
theorem goal_0 (R : Rows) : List.replicate R.w (0 : Int) ++ List.replicate R.hl.length 1 ++ [0] = (List.range (R.W + 1)).map (goalK R 0) := by
  have e : R.W + 1 = R.w + R.hl.length + 1 := rfl
  rw [e, List.range_succ, range_split]
  simp only [List.map_append, List.map_map, List.map_cons, List.map_nil]
  congr 1
  · congr 1
    · symm
      rw [List.eq_replicate_iff]
      refine ⟨by simp, fun b hb => ?_⟩
      obtain ⟨j, hj, rfl⟩ := List.mem_map.mp hb
      have hj : j < R.w := List.mem_range.mp hj
      unfold goalK
      rw [if_neg (by omega)]
      simp
    · symm
      rw [List.eq_replicate_iff]
      refine ⟨by simp, fun b hb => ?_⟩
      obtain ⟨j, hj, rfl⟩ := List.mem_map.mp hb
      have hj : j < R.hl.length := List.mem_range.mp hj
      show goalK R 0 (R.w + j) = 1
      unfold goalK
      rw [if_pos (by unfold Rows.W; omega)]
      simp
  · unfold goalK
    rw [if_neg (by unfold Rows.W; omega)]
    simp
theorem goal_step (R : Rows) {k i : Nat} (h : R.hl[k]? = some i) (hi : i < R.m) : List.zipWith (fun x y => x - y) ((List.range (R.W + 1)).map (goalK R k)) (SM.rowL R.P R.b0 i) = (List.range (R.W + 1)).map (goalK R (k + 1)) := by
  unfold SM.rowL
  show List.zipWith (fun x y => x - y) ((List.range (R.W + 1)).map (goalK R k)) ((List.range (R.W + 1)).map (R.P.T R.b0 i)) = _
  rw [SM.zip_range]
  apply List.map_congr_left
  intro j _
  unfold goalK
  have e : R.P.T R.b0 i j = R.A j i := SM.T_b0 hi
  rw [take_succ h, List.map_append, List.sum_append, e]
  simp
  omega
theorem ne_f {f g : Str} (h : decide (f = g) = false) : ¬ f = g := of_decide_eq_false h
theorem Rows_of_m : (Rows.of ps n).m = ps.length := rfl
theorem st_of (i : Nat) : (Rows.of ps n).st i = (ps.getD i (false, [])).1 := rfl
/-- the cells when the object is made: so far -/
abbrev iNames : List Str := ["many", "width", "divisor", "lines", "base"]
abbrev iVals (R : Rows) (N : Nat) : List D := [.int (R.n : Int), .int (R.w : Int), .int 1, .loc (N + 1), .loc (N + 2)]
theorem d_init {S : Sto} (hl : ps.length ≤ 1000) (hn : n ≤ 1000) (hr : ∀ p ∈ ps, p.2.length = n) (hs : SM.Small ps) :
    Ev (f_Tableau_init [.loc S.length, .lst (ps.map prowD), .int (n : Int)] (S ++ [.ins "Tableau" [] []])) fun v S' => v = .non ∧ S' = S ++ [.ins "Tableau" tNames (tVals (Rows.of ps n) (Rows.of ps n).b0 (S.length + 1) (S.length + 2)), .lst (tLines (Rows.of ps n) (Rows.of ps n).b0), .lst (tBase (Rows.of ps n) (Rows.of ps n).b0)] := by
  show Ev ((b_Tableau_init [some (.loc S.length), some (.lst (ps.map prowD)), some (.int (n : Int)), none, none, none, none, none, none, none, none, none, none, none, none] (S ++ [.ins "Tableau" [] []])).bind endF) _
  unfold b_Tableau_init
  have p1 : ∀ d : D, putD "many" d ([] : List Str) [] = ((["many"] : List Str), [d]) := fun d => rfl
  have p2 : ∀ d a : D, putD "width" d (["many"] : List Str) [a] = ((["many", "width"] : List Str), [a, d]) := fun d a => putD_new _ _ _ _ rfl (by decide +kernel)
  have p3 : ∀ d a b : D, putD "divisor" d (["many", "width"] : List Str) [a, b] = ((["many", "width", "divisor"] : List Str), [a, b, d]) := fun d a b => putD_new _ _ _ _ rfl (by decide +kernel)
  have p4 : ∀ d a b c : D, putD "lines" d (["many", "width", "divisor"] : List Str) [a, b, c] = ((["many", "width", "divisor", "lines"] : List Str), [a, b, c, d]) := fun d a b c => putD_new _ _ _ _ rfl (by decide +kernel)
  have p5 : ∀ d a b c e : D, putD "base" d (["many", "width", "divisor", "lines"] : List Str) [a, b, c, e] = ((["many", "width", "divisor", "lines", "base"] : List Str), [a, b, c, e, d]) := fun d a b c e => putD_new _ _ _ _ rfl (by decide +kernel)
  have l1 : ∀ i : Nat, (i < 1000) = (i < 1000) := fun _ => rfl
  have k0 : (0 : Nat) < 1000 := by omega
  have k1 : (1 : Nat) < 1000 := by omega
  have k2 : (2 : Nat) < 1000 := by omega
  have k3 : (3 : Nat) < 1000 := by omega
  have k4 : (4 : Nat) < 1000 := by omega
  simp! [x_bFld, top_fldP, p1, p2, List.length_map, x_enm1, enmL, k0, k1]
  have e1 : enumD (ps.map prowD) = (List.range ps.length).map fun (i : Nat) => D.tup [.int (i : Int), prowD (ps.getD i (false, []))] := enumD_rng prowD ps (false, [])
  rw [e1, lc_flt (gd := none) (Rows.of ps n).st (fun (i : Nat) => D.int (i : Int)) _ trivial (List.range ps.length) [] (fun z hz => by
    refine ⟨_, rfl, ?_, fun _ => rfl⟩
    simp! [show oIx (prowD (ps.getD z (false, []))) (.int 0) (S ++ [.ins "Tableau" ["many", "width"] [.int (n : Int), .int ((n : Int) + (ps.length : Int))]]) = .ok (.bl (ps.getD z (false, [])).1) _ from o_ixT 0 rfl]
    rfl) (by rw [List.length_range]; unfold lim; simp; omega)]
  have hh : ((List.range ps.length).filter (Rows.of ps n).st).map (fun (i : Nat) => D.int (i : Int)) = (Rows.of ps n).hl.map fun (i : Nat) => D.int (i : Int) := rfl
  rw [List.nil_append, hh]
  simp! [x_bFld, top_fldP, p1, p2, p3, p4, p5, List.length_map, x_enm1, enmL, k0, k1, k2, k3, k4, Nat.zero_le, List.length_append, List.append_assoc, List.cons_append, List.nil_append, Nat.zero_add, e1]
  have ew : (n : Int) + (ps.length : Int) = ((Rows.of ps n).w : Nat) := by
    show _ = ((n + ps.length : Nat) : Int)
    omega
  rw [ew]
  have hlen : ps.length = (Rows.of ps n).m := rfl
  refine ev_for (gd := none) (fun k L S' => S' = S ++ [.ins "Tableau" iNames (iVals (Rows.of ps n) S.length), .lst ((List.range k).map fun i => .lst ((SM.rowL (Rows.of ps n).P (Rows.of ps n).b0 i).map .int)), .lst ((List.range k).map fun i => .int ((Rows.of ps n).b0 i : Int))] ∧
    ∃ o4 o5 o6 o7 o8 o9 o10 o11 o12 o13 o14, L = [some (.loc S.length), some (.lst (ps.map prowD)), some (.int (n : Int)), some (.lst ((Rows.of ps n).hl.map fun (i : Nat) => D.int (i : Int))), o4, o5, o6, o7, o8, o9, o10, o11, o12, o13, o14]) (fun _ _ _ _ => trivial) ?_ ?_ ⟨rfl, _, _, _, _, _, _, _, _, _, _, _, rfl⟩
  · rintro k e L S' hk ⟨rfl, o4, o5, o6, o7, o8, o9, o10, o11, o12, o13, o14, rfl⟩
    obtain ⟨k', hk', rfl⟩ := map_at hk
    obtain ⟨hkl, ekk⟩ := List.getElem?_eq_some_iff.mp hk'
    rw [List.getElem_range] at ekk
    subst ekk
    rw [List.length_range] at hkl
    have hpm : ps.getD k (false, []) ∈ ps := by simp [List.getD, hkl]
    have hpl := hr _ hpm
    have hpa := hs.abs _ hpm
    have hst : (ps.getD k (false, [])).1 = (Rows.of ps n).st k := rfl
    have h62 : ps.length < 2 ^ 62 := by omega
    have hhl : (Rows.of ps n).hl.length ≤ 1000 := by
      unfold Rows.hl
      exact Nat.le_trans (List.length_filter_le _ _) (by rw [List.length_range]; exact hl)
    have hsa : ((Rows.of ps n).sgn k).natAbs = 1 := by
      unfold Rows.sgn
      split <;> rfl
    have esg : (if (Rows.of ps n).st k = true then (1 : Int) else -1) = (Rows.of ps n).sgn k := rfl
    simp! [prowD, hst, ite_ok, iteD_int, esg, List.length_map, h62]
    have eb : ∀ z : Nat, (if (z : Int) = (k : Int) then (1 : Int) else 0) = SM.b2i (decide ((z : Int) = (k : Int))) := fun z => by unfold SM.b2i; simp
    have eb2 : ∀ c : Bool, (if c = true then (1 : Int) else 0) = SM.b2i c := fun c => rfl
    have hw : ∀ c : Bool, wideB (- (Rows.of ps n).sgn k) (SM.b2i c) = true := fun c => wide_ok (by rw [Int.natAbs_neg, hsa]; decide +kernel) (Nat.le_trans (show _ ≤ 1 by unfold SM.b2i; split <;> decide) (by decide +kernel))
    rw [lc_map (gd := none) (f := fun (j : Nat) => D.int (- (Rows.of ps n).sgn k * SM.b2i (decide ((j : Int) = (k : Int))))) (fun (j : Nat) => D.int (j : Int)) trivial (List.range ps.length) (fun z _ => ⟨_, rfl, by
      simp! [eb, o_mul (hw _)]⟩) (by rw [List.length_range]; unfold lim; omega)]
    simp! []
    rw [lc_map (gd := none) (f := fun (j : Nat) => D.int (SM.b2i (decide ((j : Int) = (k : Int))))) (fun (j : Nat) => D.int (j : Int)) trivial (Rows.of ps n).hl (fun z _ => ⟨_, rfl, by
      simp! [eb]⟩) (by unfold lim; omega)]
    have qn : (ps.getD k (false, [])).2.length + ps.length ≤ lim := by unfold lim; omega
    have qh : (ps.getD k (false, [])).2.length + ps.length + (Rows.of ps n).hl.length ≤ lim := by unfold lim; omega
    have qz : (ps.getD k (false, [])).2.length + ps.length + (Rows.of ps n).hl.length + 1 ≤ lim := by unfold lim; omega
    have qk : k < lim := by unfold lim; omega
    have f4 : ∀ T, fldK "Tableau" "lines" (.loc S.length) (S ++ .ins "Tableau" iNames (iVals (Rows.of ps n) S.length) :: T) = .ok (.loc (S.length + 1)) (S ++ .ins "Tableau" iNames (iVals (Rows.of ps n) S.length) :: T) := fun T => top_fldK rfl
    have f5 : ∀ T, fldK "Tableau" "base" (.loc S.length) (S ++ .ins "Tableau" iNames (iVals (Rows.of ps n) S.length) :: T) = .ok (.loc (S.length + 2)) (S ++ .ins "Tableau" iNames (iVals (Rows.of ps n) S.length) :: T) := fun T => top_fldK rfl
    have f2 : ∀ T, fldK "Tableau" "width" (.loc S.length) (S ++ .ins "Tableau" iNames (iVals (Rows.of ps n) S.length) :: T) = .ok (.int ((Rows.of ps n).w : Int)) (S ++ .ins "Tableau" iNames (iVals (Rows.of ps n) S.length) :: T) := fun T => top_fldK rfl
    simp! [x_fld, f4, snd_tyB]
    rw [lc_map (gd := none) (f := fun (x : Int) => D.int ((Rows.of ps n).sgn k * x)) D.int trivial _ (fun z hz => ⟨_, rfl, by
      have hw2 : wideB ((Rows.of ps n).sgn k) z = true := wide_ok (by rw [hsa]; decide +kernel) (Nat.le_trans (hpa z hz) (by decide +kernel))
      simp! [o_mul hw2]⟩) (by unfold lim; omega)]
    have el : (((ps.getD k (false, [])).2.map fun (x : Int) => D.int ((Rows.of ps n).sgn k * x)) ++ ((List.range ps.length).map fun (j : Nat) => D.int (- (Rows.of ps n).sgn k * SM.b2i (decide ((j : Int) = (k : Int)))))) ++ ((Rows.of ps n).hl.map fun (j : Nat) => D.int (SM.b2i (decide ((j : Int) = (k : Int))))) ++ [D.int (SM.b2i ((Rows.of ps n).st k))] = (SM.rowL (Rows.of ps n).P (Rows.of ps n).b0 k).map .int := by
      rw [row0 (R := Rows.of ps n) (k := k) hkl]
      have e5 : (ps.getD k (false, [])).2 = (List.range n).map fun j => (ps.getD k (false, [])).2.getD j 0 := range_getD hpl
      rw [e5]
      simp only [List.map_append, List.map_map, List.map_cons, List.map_nil]
      rfl
    have el2 : ((List.range k).map fun i => D.lst ((SM.rowL (Rows.of ps n).P (Rows.of ps n).b0 i).map .int)) ++ [.lst ((SM.rowL (Rows.of ps n).P (Rows.of ps n).b0 k).map .int)] = (List.range (k + 1)).map fun i => D.lst ((SM.rowL (Rows.of ps n).P (Rows.of ps n).b0 i).map .int) := by
      rw [List.range_succ, List.map_append]
      rfl
    simp! [o_addL, List.length_map, List.length_range, List.length_append, qn, qh, qz, qk, snd_append, eb2, el, el2, x_fld, f5, f2, trd_tyB]
    have eb3 : ((List.range k).map fun i => D.int ((Rows.of ps n).b0 i : Int)) ++ [.int ((Rows.of ps n).b0 k : Int)] = (List.range (k + 1)).map fun i => D.int ((Rows.of ps n).b0 i : Int) := by
      rw [List.range_succ, List.map_append]
      rfl
    have ehl : ((Rows.of ps n).hl.map fun (i : Nat) => D.int (i : Int)) = ((Rows.of ps n).hl.map fun (i : Nat) => (i : Int)).map .int := by
      rw [List.map_map]
      rfl
    by_cases hc : (Rows.of ps n).st k = true
    · have e6 : ((Rows.of ps n).b0 k : Int) = ((Rows.of ps n).w : Int) + ((Rows.of ps n).cnt k : Int) := by
        unfold Rows.b0
        rw [if_pos hc]
        omega
      rw [e6] at eb3
      have e7 := fun T => t_index (S := T) (index_hl (R := Rows.of ps n) hkl hc)
      rw [← ehl] at e7
      simp! [hc, e7, trd_append, List.length_map, List.length_range, qk, eb3]
      exact ⟨trivial, _, _, _, _, _, _, _, _, _, _, _, rfl⟩
    · have e6 : ((Rows.of ps n).b0 k : Int) = (n : Int) + (k : Int) := by
        unfold Rows.b0
        rw [if_neg hc]
        show ((n + k : Nat) : Int) = _
        omega
      rw [e6] at eb3
      simp! [hc, trd_append, List.length_map, List.length_range, qk, eb3]
      exact ⟨trivial, _, _, _, _, _, _, _, _, _, _, _, rfl⟩
  · rintro L S' ⟨rfl, o4, o5, o6, o7, o8, o9, o10, o11, o12, o13, o14, rfl⟩
    rw [List.length_map, List.length_range]
    have f2 : ∀ T, fldK "Tableau" "width" (.loc S.length) (S ++ .ins "Tableau" iNames (iVals (Rows.of ps n) S.length) :: T) = .ok (.int ((Rows.of ps n).w : Int)) (S ++ .ins "Tableau" iNames (iVals (Rows.of ps n) S.length) :: T) := fun T => top_fldK rfl
    have hhl : (Rows.of ps n).hl.length ≤ 1000 := by
      unfold Rows.hl
      exact Nat.le_trans (List.length_filter_le _ _) (by rw [List.length_range]; exact hl)
    have hw : (Rows.of ps n).w ≤ 2000 := by
      show n + ps.length ≤ 2000
      omega
    have r1 : ∀ T, oMul (.lst [.int 0]) (.int ((Rows.of ps n).w : Int)) T = .ok (.lst (reps (Rows.of ps n).w [.int 0])) T := fun T => o_rep _ (by simp only [List.length_cons, List.length_nil]; unfold lim; omega) (by omega)
    have r2 : ∀ T, oMul (.lst [.int 1]) (.int ((Rows.of ps n).hl.length : Int)) T = .ok (.lst (reps (Rows.of ps n).hl.length [.int 1])) T := fun T => o_rep _ (by simp only [List.length_cons, List.length_nil]; unfold lim; omega) (by omega)
    have q1 : (Rows.of ps n).w + (Rows.of ps n).hl.length ≤ lim := by unfold lim; omega
    have q2 : (Rows.of ps n).w + (Rows.of ps n).hl.length + 1 ≤ lim := by unfold lim; omega
    have eg : List.replicate (Rows.of ps n).w (D.int 0) ++ List.replicate (Rows.of ps n).hl.length (D.int 1) ++ [D.int 0] = ((List.range ((Rows.of ps n).W + 1)).map (goalK (Rows.of ps n) 0)).map .int := by
      rw [← goal_0]
      simp [List.map_append]
    have p6 : ∀ d : D, putD "goal" d iNames (iVals (Rows.of ps n) S.length) = (tNames, iVals (Rows.of ps n) S.length ++ [d]) := fun d => putD_new _ _ _ _ rfl (by decide +kernel)
    have k5 : iNames.length < 1000 := by decide +kernel
    simp! [x_bFld, x_fld, f2, r1, r2, reps_one, o_addL, List.length_replicate, List.length_append, List.length_map, q1, q2, eg, top_fldP, k5, p6]
    rw [top_fldP k5, p6]
    simp! []
    have k6 : tNames.length < 1000 := by decide +kernel
    refine ev_for (gd := none) (fun k L S' => S' = S ++ [.ins "Tableau" tNames (iVals (Rows.of ps n) S.length ++ [.lst (((List.range ((Rows.of ps n).W + 1)).map (goalK (Rows.of ps n) k)).map .int)]), .lst (tLines (Rows.of ps n) (Rows.of ps n).b0), .lst (tBase (Rows.of ps n) (Rows.of ps n).b0)] ∧
    ∃ o4 o5 o6 o7 o8 o9 o10 o11 o12 o13 o14, L = [some (.loc S.length), some (.lst (ps.map prowD)), some (.int (n : Int)), some (.lst ((Rows.of ps n).hl.map fun (i : Nat) => D.int (i : Int))), o4, o5, o6, o7, o8, o9, o10, o11, o12, o13, o14]) (fun _ _ _ _ => trivial) ?_ ?_ ⟨rfl, _, _, _, _, _, _, _, _, _, _, _, rfl⟩
    · rintro k e L S' hk ⟨rfl, o4, o5, o6, o7, o8, o9, o10, o11, o12, o13, o14, rfl⟩
      obtain ⟨i, hi, rfl⟩ := map_at hk
      obtain ⟨him, hist⟩ := hl_lt (List.mem_of_getElem? hi)
      have g1 : ∀ T, fldK "Tableau" "goal" (.loc S.length) (S ++ .ins "Tableau" tNames (iVals (Rows.of ps n) S.length ++ [.lst (((List.range ((Rows.of ps n).W + 1)).map (goalK (Rows.of ps n) k)).map .int)]) :: T) = .ok (.lst (((List.range ((Rows.of ps n).W + 1)).map (goalK (Rows.of ps n) k)).map .int)) _ := fun T => top_fldK rfl
      have g2 : ∀ T, fldK "Tableau" "lines" (.loc S.length) (S ++ .ins "Tableau" tNames (iVals (Rows.of ps n) S.length ++ [.lst (((List.range ((Rows.of ps n).W + 1)).map (goalK (Rows.of ps n) k)).map .int)]) :: T) = .ok (.loc (S.length + 1)) _ := fun T => top_fldK rfl
      have g3 : ∀ (c : Cell) T, oIx (.loc (S.length + 1)) (.int (i : Int)) (S ++ c :: .lst (tLines (Rows.of ps n) (Rows.of ps n).b0) :: T) = .ok (.lst ((SM.rowL (Rows.of ps n).P (Rows.of ps n).b0 i).map .int)) _ := fun c T => o_ixSeq (seqD_loc snd_at) (by
        rw [atI_natM, List.getElem?_map, List.getElem?_range him]
        rfl)
      simp! [x_bFld, x_fld, x_zp, g1, g2, x_ix, g3, zpL, zipD_map]
      have hlen2 : (((List.range ((Rows.of ps n).W + 1)).map (goalK (Rows.of ps n) k)).zip (SM.rowL (Rows.of ps n).P (Rows.of ps n).b0 i)).length ≤ lim := by
        rw [List.length_zip, List.length_map, List.length_range]
        have : (Rows.of ps n).W + 1 ≤ lim := q2
        omega
      rw [lc_map (gd := none) (f := fun (p : Int × Int) => D.int (p.1 - p.2)) (fun (p : Int × Int) => D.tup [.int p.1, .int p.2]) trivial _ (fun z hz => ⟨_, rfl, by simp! []⟩) hlen2]
      have e8 : ((((List.range ((Rows.of ps n).W + 1)).map (goalK (Rows.of ps n) k)).zip (SM.rowL (Rows.of ps n).P (Rows.of ps n).b0 i)).map fun (p : Int × Int) => D.int (p.1 - p.2)) = ((List.range ((Rows.of ps n).W + 1)).map (goalK (Rows.of ps n) (k + 1))).map .int := by
        rw [← goal_step _ hi him, List.zip, List.map_zipWith, List.map_zipWith]
      simp! []
      rw [e8, top_fldP k6, show tNames = iNames ++ [("goal" : Str)] from rfl, putD_last "goal" _ _ iNames (iVals (Rows.of ps n) S.length) rfl (by decide +kernel)]
      simp! []
      exact ⟨trivial, _, _, _, _, _, _, _, _, _, _, _, rfl⟩
    · rintro L S' ⟨rfl, o4, o5, o6, o7, o8, o9, o10, o11, o12, o13, o14, rfl⟩
      rw [List.length_map, goal_end]
      simp! []
      have ed : (Rows.of ps n).P.d (Rows.of ps n).b0 = 1 := SM.d_b0
      unfold tVals
      rw [ed]
      exact ⟨trivial, rfl⟩
end
end Wk
set_option linter.all false
set_option maxRecDepth 100000
set_option maxHeartbeats 2000000
namespace Wk
open PySem PySem.Spec PyProof.Rows L2 MM
open SM (Rows Bs sm)
section
variable {R : Rows} {S S' : Sto} {b : Bs} {ln bs : Nat}
theorem Tab.obj (t : Tab R S b ln bs S') : S'[S.length]? = some (.ins "Tableau" tNames (tVals R b ln bs)) := by
  obtain ⟨T, e⟩ := t.pre
  rw [e]
  exact top_at
def enD (R : Rows) (b : Bs) : D := match SM.enOf R.P b with
  | none => .non
  | some q => .int (q : Int)
theorem goal_at {j : Nat} (h : j ≤ R.W) : ((SM.goalL R.P b).map D.int)[j]? = some (.int (R.P.g b j)) := by
  unfold SM.goalL
  rw [List.getElem?_map, List.getElem?_map, List.getElem?_range (show j < R.P.W + 1 from Nat.lt_succ_of_le h)]
  rfl
theorem row_at {i j : Nat} (h : j ≤ R.W) : ((SM.rowL R.P b i).map D.int)[j]? = some (.int (R.P.T b i j)) := by
  unfold SM.rowL
  rw [List.getElem?_map, List.getElem?_map, List.getElem?_range (show j < R.P.W + 1 from Nat.lt_succ_of_le h)]
  rfl
theorem row_last {i : Nat} : atI ((SM.rowL R.P b i).map D.int) (-1) = some (.int (R.P.T b i R.W)) := by
  rw [atI_lastM, List.getLast?_eq_getElem?]
  unfold SM.rowL
  simp only [List.length_map, List.length_range]
  exact row_at (Nat.le_refl _)
theorem goal_last : atI ((SM.goalL R.P b).map D.int) (-1) = some (.int (R.P.g b R.W)) := by
  rw [atI_lastM, List.getLast?_eq_getElem?]
  unfold SM.goalL
  simp only [List.length_map, List.length_range]
  exact goal_at (Nat.le_refl _)
theorem w_le (R : Rows) : R.w ≤ R.W := by unfold Rows.W; omega
theorem d_entering (t : Tab R S b ln bs S') (hw : R.w < 2 ^ 62) : f_Tableau_entering [.loc S.length] S' = .ok (enD R b) S' := by
  apply of_ev
  show Ev ((b_Tableau_entering [some (.loc S.length), none] S').bind endF) _
  unfold b_Tableau_entering
  have f1 : fldK "Tableau" "width" (.loc S.length) S' = .ok (.int (R.w : Int)) S' := fldK_loc t.obj rfl
  have f2 : fldK "Tableau" "goal" (.loc S.length) S' = .ok (.lst ((SM.goalL R.P b).map .int)) S' := fldK_loc t.obj rfl
  simp! [x_fld, f1, hw]
  refine ev_for (gd := none) (fun k L S1 => S1 = S' ∧ (∃ o, L = [some (.loc S.length), o]) ∧ ∀ j, j < k → ¬ R.P.g b j < 0) (fun _ _ _ _ => trivial) ?_ ?_ ⟨rfl, ⟨_, rfl⟩, fun j h => absurd h (Nat.not_lt_zero j)⟩
  · rintro k e L S1 hk ⟨rfl, ⟨o, rfl⟩, hj⟩
    obtain ⟨k', hk', rfl⟩ := map_at hk
    obtain ⟨hkl, ekk⟩ := List.getElem?_eq_some_iff.mp hk'
    rw [List.getElem_range] at ekk
    subst ekk
    rw [List.length_range] at hkl
    have f3 : oIx (.lst ((SM.goalL R.P b).map .int)) (.int (k : Int)) S1 = .ok (.int (R.P.g b k)) S1 := o_ixL k (goal_at (Nat.le_trans (Nat.le_of_lt hkl) (w_le R)))
    simp! [x_fld, f2, x_ix, f3]
    by_cases hc : R.P.g b k < 0
    · simp! [hc]
      refine ⟨?_, trivial⟩
      have : SM.enOf R.P b = some k := by
        unfold SM.enOf
        rw [List.find?_range_eq_some]
        exact ⟨decide_eq_true hc, List.mem_range.mpr hkl, fun j h => by simpa using hj j h⟩
      unfold enD
      rw [this]
    · simp! [hc]
      refine ⟨trivial, ⟨_, rfl⟩, fun j h => ?_⟩
      by_cases z : j = k
      · rw [z]; exact hc
      · exact hj j (by omega)
  · rintro L S1 ⟨rfl, ⟨o, rfl⟩, hj⟩
    rw [List.length_map, List.length_range] at hj
    simp! []
    refine ⟨?_, trivial⟩
    have : SM.enOf R.P b = none := by
      unfold SM.enOf
      rw [List.find?_eq_none]
      intro j h
      have := hj j (List.mem_range.mp h)
      simpa using this
    unfold enD
    rw [this]
theorem d_led {n : Nat} {d pv fc : Int} {line chosen : List Int} (hd : fldK "Tableau" "divisor" (.loc n) S' = .ok (.int d) S') (h0 : 0 < d) (h1 : d.natAbs ≤ 2 ^ 5000) (h2 : pv.natAbs ≤ 2 ^ 5000) (h3 : fc.natAbs ≤ 2 ^ 5000)
    (h4 : ∀ x ∈ line, x.natAbs ≤ 2 ^ 5000) (h5 : ∀ x ∈ chosen, x.natAbs ≤ 2 ^ 5000) (hl : line.length ≤ lim) : f_Tableau_led [.loc n, .lst (line.map .int), .lst (chosen.map .int), .int pv, .int fc] S' = .ok (.lst ((SM.led d line chosen pv fc).map .int)) S' := by
  apply of_ev
  show Ev ((b_Tableau_led [some (.loc n), some (.lst (line.map .int)), some (.lst (chosen.map .int)), some (.int pv), some (.int fc), none, none] S').bind endF) _
  unfold b_Tableau_led
  simp! [x_zp, zpL, zipD_map]
  rw [lc_map (gd := none) (f := fun (p : Int × Int) => D.int ((p.1 * pv - fc * p.2) / d)) (fun (p : Int × Int) => D.tup [.int p.1, .int p.2]) trivial _ (fun z hz => ⟨_, rfl, by
    have m := List.of_mem_zip hz
    have w1 : wideB z.1 pv = true := wide_ok (h4 _ m.1) h2
    have w2 : wideB fc z.2 = true := wide_ok h3 (h5 _ m.2)
    simp! [x_fld, hd, o_mul w1, o_mul w2, o_div (fdiv_ok h0 h1)]⟩) (by rw [List.length_zip]; omega)]
  simp! []
  refine ⟨?_, trivial⟩
  unfold SM.led
  rw [List.zip, List.map_zipWith, List.map_zipWith]
def optN : Option Nat → D
  | none => .non
  | some q => .int (q : Int)
theorem isNon_opt (o : Option Nat) : isNon (optN o) = o.isNone := by cases o <;> rfl
theorem lines_at {i : Nat} (h : i < R.m) : (tLines R b)[i]? = some (.lst ((SM.rowL R.P b i).map .int)) := by
  unfold tLines
  rw [List.getElem?_map, List.getElem?_range h]
  rfl
theorem base_at {i : Nat} (h : i < R.m) : (tBase R b)[i]? = some (.int (b i : Int)) := by
  unfold tBase
  rw [List.getElem?_map, List.getElem?_range h]
  rfl
structure Sz (R : Rows) (b : Bs) : Prop where
  T : ∀ i j, j ≤ R.W → (R.P.T b i j).natAbs ≤ 2 ^ 5000
  g : ∀ j, j ≤ R.W → (R.P.g b j).natAbs ≤ 2 ^ 5000
  d : (R.P.d b).natAbs ≤ 2 ^ 5000
  W : R.W + 1 ≤ 100000
  m : R.m ≤ 100000
theorem Sz.row (z : Sz R b) (i : Nat) : ∀ x ∈ SM.rowL R.P b i, x.natAbs ≤ 2 ^ 5000 := by
  intro x hx
  unfold SM.rowL at hx
  obtain ⟨j, hj, e⟩ := List.mem_map.mp hx
  rw [← e]
  exact z.T i j (by have : j < R.P.W + 1 := List.mem_range.mp hj; exact Nat.le_of_lt_succ this)
theorem Sz.goal (z : Sz R b) : ∀ x ∈ SM.goalL R.P b, x.natAbs ≤ 2 ^ 5000 := by
  intro x hx
  unfold SM.goalL at hx
  obtain ⟨j, hj, e⟩ := List.mem_map.mp hx
  rw [← e]
  exact z.g j (by have : j < R.P.W + 1 := List.mem_range.mp hj; exact Nat.le_of_lt_succ this)
theorem rowL_len (i : Nat) : (SM.rowL R.P b i).length = R.W + 1 := by simp [SM.rowL]; rfl
theorem goalL_len : (SM.goalL R.P b).length = R.W + 1 := by simp [SM.goalL]; rfl
theorem lvOf_lt {q k : Nat} : ∀ {n : Nat}, SM.lvOf R.P b q n = some k → k < n := by
  intro n h
  have := SM.lvOf_ok (P := R.P) (b := b) (q := q) n
  rw [h] at this
  exact this.1
theorem d_leaving (t : Tab R S b ln bs S') (z : Sz R b) {q : Nat} (hq : q ≤ R.W) : f_Tableau_leaving [.loc S.length, .int (q : Int)] S' = .ok (optN (SM.lvOf R.P b q R.m)) S' := by
  apply of_ev
  show Ev ((b_Tableau_leaving [some (.loc S.length), some (.int (q : Int)), none, none, none, none, none] S').bind endF) _
  unfold b_Tableau_leaving
  have f1 : fldK "Tableau" "lines" (.loc S.length) S' = .ok (.loc ln) S' := fldK_loc t.obj rfl
  have f2 : fldK "Tableau" "base" (.loc S.length) S' = .ok (.loc bs) S' := fldK_loc t.obj rfl
  have e1 : enumD (tLines R b) = (List.range R.m).map fun (i : Nat) => D.tup [.int (i : Int), .lst ((SM.rowL R.P b i).map .int)] := by
    unfold tLines
    rw [enumD_rng _ (List.range R.m) 0, List.length_range]
    apply List.map_congr_left
    intro i hi
    have hi : i < R.m := List.mem_range.mp hi
    simp [List.getD, hi]
  simp! [x_enm1, x_fld, f1, enmLoc t.al, e1]
  refine ev_for (fun k L S1 => S1 = S' ∧ ∃ o3 o4 o5 o6, L = [some (.loc S.length), some (.int (q : Int)), some (optN (SM.lvOf R.P b q k)), o3, o4, o5, o6]) (fun k L S1 h => by rw [h.1]; exact t.al) ?_ ?_ ⟨rfl, _, _, _, _, rfl⟩
  · rintro k e L S1 hk ⟨rfl, o3, o4, o5, o6, rfl⟩
    obtain ⟨k', hk', rfl⟩ := map_at hk
    obtain ⟨hkl, ekk⟩ := List.getElem?_eq_some_iff.mp hk'
    rw [List.getElem_range] at ekk
    subst ekk
    rw [List.length_range] at hkl
    have g1 : oIx (.lst ((SM.rowL R.P b k).map .int)) (.int (q : Int)) S1 = .ok (.int (R.P.T b k q)) S1 := o_ixL q (row_at hq)
    have g2 : oIx (.lst ((SM.rowL R.P b k).map .int)) (.int (-1)) S1 = .ok (.int (R.P.T b k R.W)) S1 := o_ixSeq rfl row_last
    have el : SM.lvOf R.P b q (k + 1) = SM.lvStep R.P b q (SM.lvOf R.P b q k) k := rfl
    simp! [x_ix, g1]
    by_cases hp : 0 < R.P.T b k q
    · simp! [hp, isNon_opt]
      cases hb : SM.lvOf R.P b q k with
      | none =>
        have e2 : SM.lvOf R.P b q (k + 1) = some k := by
          rw [el]
          unfold SM.lvStep
          rw [if_pos hp, hb]
        rw [e2]
        simp! [Option.isNone_none]
        exact ⟨trivial, _, _, _, _, rfl⟩
      | some i =>
        have e2 : SM.lvOf R.P b q (k + 1) = if SM.better R.P b q k i then some k else some i := by
          rw [el]
          unfold SM.lvStep
          rw [if_pos hp, hb]
        rw [e2]
        have hi : i < R.m := Nat.lt_trans (lvOf_lt hb) hkl
        have g3 : oIx (.loc ln) (.int (i : Int)) S1 = .ok (.lst ((SM.rowL R.P b i).map .int)) S1 := o_ixSeq (seqD_loc t.al) (by rw [atI_natM]; exact lines_at hi)
        have g4 : oIx (.lst ((SM.rowL R.P b i).map .int)) (.int (q : Int)) S1 = .ok (.int (R.P.T b i q)) S1 := o_ixL q (row_at hq)
        have g5 : oIx (.lst ((SM.rowL R.P b i).map .int)) (.int (-1)) S1 = .ok (.int (R.P.T b i R.W)) S1 := o_ixSeq rfl row_last
        have g6 : oIx (.loc bs) (.int (i : Int)) S1 = .ok (.int (b i : Int)) S1 := o_ixSeq (seqD_loc t.ab) (by rw [atI_natM]; exact base_at hi)
        have g7 : oIx (.loc bs) (.int (k : Int)) S1 = .ok (.int (b k : Int)) S1 := o_ixSeq (seqD_loc t.ab) (by rw [atI_natM]; exact base_at hkl)
        have w1 : wideB (R.P.T b k R.W) (R.P.T b i q) = true := wide_ok (z.T _ _ (Nat.le_refl _)) (z.T _ _ hq)
        have w2 : wideB (R.P.T b i R.W) (R.P.T b k q) = true := wide_ok (z.T _ _ (Nat.le_refl _)) (z.T _ _ hq)
        have eo : optN (some i) = .int (i : Int) := rfl
        simp! [Option.isNone_some, bPar2, g1, g2, g3, g4, g5, eo, x_fld, f1, f2, o_mul w1, o_mul w2, x_ix, g6, g7]
        have eb : SM.better R.P b q k i = decide (R.P.T b k R.W * R.P.T b i q < R.P.T b i R.W * R.P.T b k q ∨ (R.P.T b k R.W * R.P.T b i q = R.P.T b i R.W * R.P.T b k q ∧ b k < b i)) := rfl
        rw [eb]
        have ebk : ((b k : Int) < (b i : Int)) = (b k < b i) := by simp
        by_cases c1 : R.P.T b k R.W * R.P.T b i q < R.P.T b i R.W * R.P.T b k q
        · simp! [c1, true_or]
          exact ⟨trivial, _, _, _, _, rfl⟩
        · by_cases c2 : R.P.T b k R.W * R.P.T b i q = R.P.T b i R.W * R.P.T b k q
          · by_cases c3 : b k < b i
            · rw [decide_eq_true (Or.inr ⟨c2, c3⟩)]
              simp! [c2, Int.lt_irrefl, ebk, c3]
              exact ⟨trivial, _, _, _, _, rfl⟩
            · rw [decide_eq_false (not_or.mpr ⟨c1, fun h => c3 h.2⟩)]
              simp! [c2, Int.lt_irrefl, ebk, c3]
              exact ⟨trivial, _, _, _, _, rfl⟩
          · rw [decide_eq_false (not_or.mpr ⟨c1, fun h => c2 h.1⟩)]
            simp! [c1, c2]
            exact ⟨trivial, _, _, _, _, rfl⟩
    · have e2 : SM.lvOf R.P b q (k + 1) = SM.lvOf R.P b q k := by
        rw [el]
        unfold SM.lvStep
        rw [if_neg hp]
      rw [e2]
      simp! [hp]
      exact ⟨trivial, _, _, _, _, rfl⟩
  · rintro L S1 ⟨rfl, o3, o4, o5, o6, rfl⟩
    rw [List.length_map, List.length_range]
    simp! []
end
end Wk
set_option linter.all false
set_option maxRecDepth 100000
set_option maxHeartbeats 2000000
namespace Wk
open PySem PySem.Spec PyProof.Rows L2 MM
open SM (Rows Bs sm)
theorem putD_mid (f : Str) (d x : D) (post : List Str) (ws : List D) : ∀ (pre : List Str) (vs : List D), pre.length = vs.length → ¬ f ∈ pre → putD f d (pre ++ f :: post) (vs ++ x :: ws) = (pre ++ f :: post, vs ++ d :: ws)
  | [], [], _, _ => by
    show (if f = f then _ else _) = _
    rw [if_pos rfl]
    rfl
  | n :: ns, v :: vs, h, hn => by
    have ih := putD_mid f d x post ws ns vs (by simpa using h) (fun z => hn (List.mem_cons_of_mem _ z))
    show putD f d (n :: (ns ++ f :: post)) (v :: (vs ++ x :: ws)) = _
    unfold putD
    rw [if_neg (fun z => hn (by rw [z]; exact List.mem_cons_self)), ih]
    rfl
theorem mid_at {S T U : Sto} {a b c : Cell} {i : Nat} (hi : i ≠ S.length) (h : (S ++ a :: T)[i]? = some c) : (S ++ b :: (T ++ U))[i]? = some c := by
  by_cases q : i < S.length
  · rw [List.getElem?_append_left q] at h ⊢
    exact h
  · rw [List.getElem?_append_right (by omega)] at h ⊢
    have e : i - S.length = (i - S.length - 1) + 1 := by omega
    rw [e, List.getElem?_cons_succ] at h ⊢
    rw [List.getElem?_append_left (List.getElem?_eq_some_iff.mp h).1]
    exact h
theorem mid_set {S T : Sto} {a c : Cell} {i : Nat} (hi : S.length < i) : (S ++ a :: T).set i c = S ++ a :: T.set (i - S.length - 1) c := by
  rw [List.set_append_right _ _ (by omega)]
  have e : i - S.length = (i - S.length - 1) + 1 := by omega
  rw [e, List.set_cons_succ]
  simp
section
variable {R : Rows} {S S' : Sto} {b : Bs} {ln bs : Nat}
theorem base_up {r q : Nat} (hr : r < R.m) : (tBase R b).set r (.int (q : Int)) = tBase R (SM.up b r q) := by
  unfold tBase
  apply List.ext_getElem?
  intro i
  by_cases e : i = r
  · subst e
    rw [List.getElem?_set_self (by simpa using hr), List.getElem?_map, List.getElem?_range hr]
    simp [SM.up]
  · rw [List.getElem?_set_ne (Ne.symm e), List.getElem?_map, List.getElem?_map]
    by_cases hi : i < R.m
    · rw [List.getElem?_range hi]
      simp [SM.up, e]
    · rw [List.getElem?_eq_none (by simpa using hi)]
      rfl
theorem clean_lines (k N : Nat) (b : Bs) : cleans N ((List.range k).map fun i => D.lst ((SM.rowL R.P b i).map .int)) = true := cleans_map _ _ fun i _ => cleans_ints _
theorem clean_base (N : Nat) (b : Bs) : cleans N (tBase R b) = true := cleans_map _ _ fun i _ => rfl
theorem clean_vals {N : Nat} (b : Bs) (h1 : ln < N) (h2 : bs < N) : cleans N (tVals R b ln bs) = true := by
  rw [cleans_all]
  intro d hd
  simp only [tVals, List.mem_cons, List.not_mem_nil, or_false] at hd
  rcases hd with h | h | h | h | h | h <;> rw [h]
  · rfl
  · rfl
  · rfl
  · exact decide_eq_true h1
  · exact decide_eq_true h2
  · exact cleans_ints _
theorem d_exchange (t : Tab R S b ln bs S') (z : Sz R b) (G : SM.Good R.P b) {r q : Nat} (hr : r < R.m) (hq : q ≤ R.W) (hp : 0 < R.P.T b r q) :
    Ev (f_Tableau_exchange [.loc S.length, .int (r : Int), .int (q : Int)] S') fun v S2 => v = .non ∧ Tab R S (SM.up b r q) S'.length bs S2 := by
  show Ev ((b_Tableau_exchange [some (.loc S.length), some (.int (r : Int)), some (.int (q : Int)), none, none, none, none, none] S').bind endF) _
  unfold b_Tableau_exchange
  have f1 : ∀ X, fldK "Tableau" "lines" (.loc S.length) (S' ++ X) = .ok (.loc ln) (S' ++ X) := fun X => fldK_loc (low_at t.obj) rfl
  have f1' : fldK "Tableau" "lines" (.loc S.length) S' = .ok (.loc ln) S' := fldK_loc t.obj rfl
  have f3 : ∀ X, fldK "Tableau" "divisor" (.loc S.length) (S' ++ X) = .ok (.int (R.P.d b)) (S' ++ X) := fun X => fldK_loc (low_at t.obj) rfl
  have g3 : oIx (.loc ln) (.int (r : Int)) S' = .ok (.lst ((SM.rowL R.P b r).map .int)) S' := o_ixSeq (seqD_loc t.al) (by rw [atI_natM]; exact lines_at hr)
  have g4 : oIx (.lst ((SM.rowL R.P b r).map .int)) (.int (q : Int)) S' = .ok (.int (R.P.T b r q)) S' := o_ixL q (row_at hq)
  have e1 : enumD (tLines R b) = (List.range R.m).map fun (i : Nat) => D.tup [.int (i : Int), .lst ((SM.rowL R.P b i).map .int)] := by
    unfold tLines
    rw [enumD_rng _ (List.range R.m) 0, List.length_range]
    apply List.map_congr_left
    intro i hi
    have hi : i < R.m := List.mem_range.mp hi
    simp [List.getD, hi]
  have hsl : S.length < S'.length := (List.getElem?_eq_some_iff.mp t.obj).1
  simp! [bPar2, x_fld, f1', x_ix, g3, g4, x_enm1, f1, enmLoc (low_at t.al), e1]
  refine ev_for (fun k L S1 => S1 = S' ++ [.lst ((List.range k).map fun i => .lst ((SM.rowL R.P (SM.up b r q) i).map .int))] ∧ ∃ o6 o7, L = [some (.loc S.length), some (.int (r : Int)), some (.int (q : Int)), some (.int (R.P.T b r q)), some (.lst ((SM.rowL R.P b r).map .int)), some (.loc S'.length), o6, o7]) (fun k L S1 h => by rw [h.1]; exact low_at t.al) ?_ ?_ ⟨rfl, _, _, rfl⟩
  · rintro k e L S1 hk ⟨rfl, o6, o7, rfl⟩
    obtain ⟨k', hk', rfl⟩ := map_at hk
    obtain ⟨hkl, ekk⟩ := List.getElem?_eq_some_iff.mp hk'
    rw [List.getElem_range] at ekk
    subst ekk
    rw [List.length_range] at hkl
    have ek : ((k : Int) = (r : Int)) = (k = r) := propext ⟨fun h => by omega, fun h => by rw [h]⟩
    have ql : k < lim := by have := z.m; unfold lim; omega
    have es : ∀ X, ((List.range k).map fun i => D.lst ((SM.rowL R.P (SM.up b r q) i).map .int)) ++ [X] = ((List.range k).map fun i => D.lst ((SM.rowL R.P (SM.up b r q) i).map .int)) ++ [X] := fun _ => rfl
    have er : ((List.range k).map fun i => D.lst ((SM.rowL R.P (SM.up b r q) i).map .int)) ++ [D.lst ((SM.rowL R.P (SM.up b r q) k).map .int)] = (List.range (k + 1)).map fun i => D.lst ((SM.rowL R.P (SM.up b r q) i).map .int) := by
      rw [List.range_succ, List.map_append]
      rfl
    by_cases hkr : k = r
    · have e3 : SM.rowL R.P b r = SM.rowL R.P (SM.up b r q) k := by rw [hkr]; exact (SM.row_same b r q).symm
      simp! [top_tyB, ek, hkr, top_append, List.length_map, List.length_range]
      rw [if_pos (by rw [← hkr]; exact ql)]
      rw [hkr] at er
      rw [hkr] at e3
      rw [e3] at *
      simp! [er, hkr]
      exact ⟨trivial, _, _, rfl⟩
    · have g5 : ∀ X, oIx (.lst ((SM.rowL R.P b k).map .int)) (.int (q : Int)) X = .ok (.int (R.P.T b k q)) X := fun X => o_ixL q (row_at hq)
      have hm : ∀ (ma : MA) (L : MM.Loc) (X : Sto), methK "Tableau" "led" 4 f_Tableau_led ma L (.loc S.length) (S' ++ X) = (ma L (S' ++ X)).bind fun ds S2 => if ds.length = 4 then f_Tableau_led (.loc S.length :: ds) S2 else .stuck := fun ma L X => methK_loc (low_at t.obj) (by decide +kernel)
      have hled : ∀ X, f_Tableau_led [.loc S.length, .lst ((SM.rowL R.P b k).map .int), .lst ((SM.rowL R.P b r).map .int), .int (R.P.T b r q), .int (R.P.T b k q)] (S' ++ X) = .ok (.lst ((SM.rowL R.P (SM.up b r q) k).map .int)) (S' ++ X) := fun X => by
        rw [d_led (f3 X) G.d z.d (z.T _ _ hq) (z.T _ _ hq) (z.row k) (z.row r) (by rw [rowL_len]; have := z.W; unfold lim; omega), SM.led_row G hkl hr hkr]
      simp! [top_tyB, ek, hkr, top_append, List.length_map, List.length_range, x_meth, hm, x_ix, g5, hled, ql, er]
      exact ⟨trivial, _, _, rfl⟩
  · rintro L S1 ⟨rfl, o6, o7, rfl⟩
    rw [List.length_map, List.length_range]
    obtain ⟨T, hT⟩ := t.pre
    have eS : S' ++ [Cell.lst ((List.range R.m).map fun i => D.lst ((SM.rowL R.P (SM.up b r q) i).map .int))] = S ++ .ins "Tableau" tNames (tVals R b ln bs) :: (T ++ [Cell.lst ((List.range R.m).map fun i => D.lst ((SM.rowL R.P (SM.up b r q) i).map .int))]) := by
      rw [hT, List.append_assoc]
      rfl
    generalize hU : T ++ [Cell.lst ((List.range R.m).map fun i => D.lst ((SM.rowL R.P (SM.up b r q) i).map .int))] = U at eS
    have hU' := hU.symm
    have pl : ∀ d, putD "lines" d tNames (tVals R b ln bs) = (tNames, [.int (R.n : Int), .int (R.w : Int), .int (R.P.d b), d, .loc bs, .lst ((SM.goalL R.P b).map .int)]) := fun d => putD_mid "lines" d (.loc ln) ["base", "goal"] [.loc bs, .lst ((SM.goalL R.P b).map .int)] ["many", "width", "divisor"] [.int (R.n : Int), .int (R.w : Int), .int (R.P.d b)] rfl (by decide +kernel)
    have pg : ∀ d, putD "goal" d tNames [.int (R.n : Int), .int (R.w : Int), .int (R.P.d b), .loc S'.length, .loc bs, .lst ((SM.goalL R.P b).map .int)] = (tNames, [.int (R.n : Int), .int (R.w : Int), .int (R.P.d b), .loc S'.length, .loc bs, d]) := fun d => putD_mid "goal" d (.lst ((SM.goalL R.P b).map .int)) [] [] ["many", "width", "divisor", "lines", "base"] [.int (R.n : Int), .int (R.w : Int), .int (R.P.d b), .loc S'.length, .loc bs] rfl (by decide +kernel)
    have pd : ∀ d g, putD "divisor" d tNames [.int (R.n : Int), .int (R.w : Int), .int (R.P.d b), .loc S'.length, .loc bs, g] = (tNames, [.int (R.n : Int), .int (R.w : Int), d, .loc S'.length, .loc bs, g]) := fun d g => putD_mid "divisor" d (.int (R.P.d b)) ["lines", "base", "goal"] [.loc S'.length, .loc bs, g] ["many", "width"] [.int (R.n : Int), .int (R.w : Int)] rfl (by decide +kernel)
    have k6 : tNames.length < 1000 := by decide +kernel
    simp! [x_bFld]
    rw [eS, top_fldP k6, pl]
    have h1 : ∀ g X, fldK "Tableau" "goal" (.loc S.length) (S ++ .ins "Tableau" tNames [.int (R.n : Int), .int (R.w : Int), .int (R.P.d b), .loc S'.length, .loc bs, g] :: X) = .ok g _ := fun g X => top_fldK rfl
    have h2 : ∀ g X, fldK "Tableau" "divisor" (.loc S.length) (S ++ .ins "Tableau" tNames [.int (R.n : Int), .int (R.w : Int), .int (R.P.d b), .loc S'.length, .loc bs, g] :: X) = .ok (.int (R.P.d b)) _ := fun g X => top_fldK rfl
    have h3 : ∀ dv g X, fldK "Tableau" "base" (.loc S.length) (S ++ .ins "Tableau" tNames [.int (R.n : Int), .int (R.w : Int), dv, .loc S'.length, .loc bs, g] :: X) = .ok (.loc bs) _ := fun dv g X => top_fldK rfl
    have hm : ∀ (ma : MA) (L : MM.Loc) (vs : List D) (X : Sto), methK "Tableau" "led" 4 f_Tableau_led ma L (.loc S.length) (S ++ .ins "Tableau" tNames vs :: X) = (ma L (S ++ .ins "Tableau" tNames vs :: X)).bind fun ds S2 => if ds.length = 4 then f_Tableau_led (.loc S.length :: ds) S2 else .stuck := fun ma L vs X => methK_loc top_at (by decide +kernel)
    have g5 : ∀ X, oIx (.lst ((SM.goalL R.P b).map .int)) (.int (q : Int)) X = .ok (.int (R.P.g b q)) X := fun X => o_ixL q (goal_at hq)
    have hled : ∀ X, f_Tableau_led [.loc S.length, .lst ((SM.goalL R.P b).map .int), .lst ((SM.rowL R.P b r).map .int), .int (R.P.T b r q), .int (R.P.g b q)] (S ++ .ins "Tableau" tNames [.int (R.n : Int), .int (R.w : Int), .int (R.P.d b), .loc S'.length, .loc bs, .lst ((SM.goalL R.P b).map .int)] :: X) = .ok (.lst ((SM.goalL R.P (SM.up b r q)).map .int)) _ := fun X => by
      rw [d_led (h2 _ X) G.d z.d (z.T _ _ hq) (z.g _ hq) z.goal (z.row r) (by rw [goalL_len]; have := z.W; unfold lim; omega), SM.led_goal G hr hp]
    simp! [x_bFld, x_meth, hm, x_fld, h1, x_ix, g5, hled]
    rw [top_fldP k6, pg]
    simp! [x_bFld]
    rw [top_fldP k6, pd]
    simp! [x_lput, x_fld, h3]
    have hbS : bs < S'.length := (List.getElem?_eq_some_iff.mp t.ab).1
    have hb1 : (S ++ .ins "Tableau" tNames [.int (R.n : Int), .int (R.w : Int), .int (R.P.T b r q), .loc S'.length, .loc bs, .lst ((SM.goalL R.P (SM.up b r q)).map .int)] :: U)[bs]? = some (.lst (tBase R b)) := by
      rw [hU']
      exact mid_at (Nat.ne_of_gt t.hb) (by rw [← hT]; exact t.ab)
    rw [lputK_loc hb1 (ixN_nat (by unfold tBase; rw [List.length_map, List.length_range]; exact hr)), base_up hr]
    simp! []
    refine ⟨trivial, ?_⟩
    have ed : R.P.T b r q = R.P.d (SM.up b r q) := (SM.d_up b r q).symm
    rw [ed]
    have hlen : (S ++ .ins "Tableau" tNames (tVals R (SM.up b r q) S'.length bs) :: U).length = S'.length + 1 := by
      rw [hU', hT]
      simp
      omega
    have al : (S ++ .ins "Tableau" tNames (tVals R (SM.up b r q) S'.length bs) :: U)[S'.length]? = some (.lst (tLines R (SM.up b r q))) := by
      have e4 : S'.length = (S ++ .ins "Tableau" tNames (tVals R (SM.up b r q) S'.length bs) :: T).length := by
        rw [hT]
        simp
      have e5 : S ++ .ins "Tableau" tNames (tVals R (SM.up b r q) S'.length bs) :: U = (S ++ .ins "Tableau" tNames (tVals R (SM.up b r q) S'.length bs) :: T) ++ [.lst (tLines R (SM.up b r q))] := by
        rw [hU', List.append_assoc]
        rfl
      rw [e5, List.getElem?_append_right (by rw [← e4]; exact Nat.le_refl _), ← e4, Nat.sub_self]
      rfl
    refine ⟨⟨U.set (bs - S.length - 1) (.lst (tBase R (SM.up b r q))), mid_set t.hb⟩, hsl, t.hb, Nat.ne_of_gt hbS, ?_, ?_, ?_⟩
    · rw [List.getElem?_set_ne (Nat.ne_of_lt hbS)]
      exact al
    · rw [List.getElem?_set_self (by rw [hlen]; omega)]
    · refine Cl.set ?_ _ (clean_base _ _)
      intro c hc
      rw [hlen]
      have hcl := t.cl
      rw [hT] at hcl
      rcases List.mem_append.mp hc with h | h
      · exact cleanC_mono (by rw [hT]; omega) c (hcl c (List.mem_append.mpr (.inl h)))
      · rcases List.mem_cons.mp h with h | h
        · rw [h]
          exact clean_vals _ (by omega) (by omega)
        · rw [hU'] at h
          rcases List.mem_append.mp h with h | h
          · exact cleanC_mono (by rw [hT]; omega) c (hcl c (List.mem_append.mpr (.inr (List.mem_cons_of_mem _ h))))
          · rw [List.mem_singleton.mp h]
            exact clean_lines _ _ _
end
end Wk
set_option linter.all false
set_option maxRecDepth 100000
set_option maxHeartbeats 2000000
namespace Wk
open PySem PySem.Spec PyProof.Rows L2 MM
open SM (Rows Bs sm)
section
variable {R : Rows} {S S' : Sto} {b : Bs} {ln bs : Nat} {ps : List SM.PRow} {n : Nat}
theorem sz_of (hs : SM.Small ps) (hn : n ≤ 1000) {b : Bs} (G : SM.Good (Rows.of ps n).P b) : Sz (Rows.of ps n) b := by
  have B := SM.bnd hs (n := n) G.lt
  have k : SM.KK ≤ 2 ^ 5000 := Nat.pow_le_pow_right (by decide) (by decide)
  have hm : (Rows.of ps n).m ≤ 40 := hs.len
  refine ⟨fun i j hj => Nat.le_trans (B.T i j hj) k, fun j hj => Nat.le_trans (B.g j hj) k, Nat.le_trans B.d k, ?_, by omega⟩
  have h1 : (Rows.of ps n).hl.length ≤ (Rows.of ps n).m := by
    unfold Rows.hl
    exact Nat.le_trans (List.length_filter_le _ _) (by rw [List.length_range]; exact Nat.le_refl _)
  have h2 : (Rows.of ps n).W = n + (Rows.of ps n).m + (Rows.of ps n).hl.length := rfl
  omega
theorem d_solve (hs : SM.Small ps) (hn : n ≤ 1000) (t : Tab (Rows.of ps n) S (Rows.of ps n).b0 ln bs S') :
    Ev (f_Tableau_solve [.loc S.length] S') fun v S2 => v = .non ∧ ∃ ln bs, Tab (Rows.of ps n) S (SM.finB (Rows.of ps n)) ln bs S2 := by
  show Ev ((b_Tableau_solve [some (.loc S.length), none] S').bind endF) _
  unfold b_Tableau_solve
  have C := SM.costs (R := Rows.of ps n)
  obtain ⟨N, hN, hlt⟩ := SM.iter_ends (P := (Rows.of ps n).P) C SM.good0
  have hw : (Rows.of ps n).w < 2 ^ 62 := by
    have : (Rows.of ps n).w = n + ps.length := rfl
    have := hs.len
    omega
  have hm : ∀ {b : Bs} {ln bs : Nat} {X : Sto} (t : Tab (Rows.of ps n) S b ln bs X) (ma : MA) (L : MM.Loc) (k : Nat) (fn : FnM) (m : Str), ¬ m ∈ tNames → methK "Tableau" m k fn ma L (.loc S.length) X = (ma L X).bind fun ds S2 => if ds.length = k then fn (.loc S.length :: ds) S2 else .stuck := fun t ma L k fn m h => methK_loc t.obj h
  have m1 : ¬ ("entering" : Str) ∈ tNames := by decide +kernel
  have m2 : ¬ ("leaving" : Str) ∈ tNames := by decide +kernel
  have m3 : ¬ ("exchange" : Str) ∈ tNames := by decide +kernel
  simp! [x_meth, hm t _ _ _ _ _ m1, d_entering t hw]
  refine ev_while (I := fun v L S1 => ∃ k, k ≤ N ∧ v = N - k ∧ (∃ ln bs, Tab (Rows.of ps n) S (SM.iter (Rows.of ps n).P (Rows.of ps n).b0 k) ln bs S1) ∧ L = [some (.loc S.length), some (enD (Rows.of ps n) (SM.iter (Rows.of ps n).P (Rows.of ps n).b0 k))]) ?_ (n := N) ⟨0, Nat.zero_le _, rfl, ⟨_, _, t⟩, rfl⟩
  rintro v L S1 ⟨k, hk, rfl, ⟨ln, bs, t1⟩, rfl⟩
  have G := SM.iter_good C SM.good0 (P := (Rows.of ps n).P) k
  have z := sz_of hs hn G
  simp! []
  cases he : SM.enOf (Rows.of ps n).P (SM.iter (Rows.of ps n).P (Rows.of ps n).b0 k) with
  | none =>
    have e1 : enD (Rows.of ps n) (SM.iter (Rows.of ps n).P (Rows.of ps n).b0 k) = .non := by
      unfold enD
      rw [he]
    simp! [e1]
    have hf : (Rows.of ps n).fin (SM.iter (Rows.of ps n).P (Rows.of ps n).b0 k) := ⟨k, rfl, by unfold SM.nxt; rw [he]⟩
    rw [SM.fin_one (SM.finB_fin _) hf]
    exact ⟨trivial, _, _, t1⟩
  | some q =>
    have e1 : enD (Rows.of ps n) (SM.iter (Rows.of ps n).P (Rows.of ps n).b0 k) = .int (q : Int) := by
      unfold enD
      rw [he]
    have E := SM.enOf_some he
    have hq : q < (Rows.of ps n).w := E.lt
    obtain ⟨r, hr, L⟩ := SM.lvOf_some G C E.neg
    have hr' : SM.lvOf (Rows.of ps n).P (SM.iter (Rows.of ps n).P (Rows.of ps n).b0 k) q (Rows.of ps n).m = some r := hr
    have hnx : SM.nxt (Rows.of ps n).P (SM.iter (Rows.of ps n).P (Rows.of ps n).b0 k) = some (q, r) := by
      unfold SM.nxt
      rw [he]
      simp only
      rw [hr]
      rfl
    have hkN : k < N := by
      rcases Nat.lt_or_ge k N with h | h
      · exact h
      · have : k = N := by omega
        rw [this, hN] at hnx
        cases hnx
    have hup : SM.iter (Rows.of ps n).P (Rows.of ps n).b0 (k + 1) = SM.up (SM.iter (Rows.of ps n).P (Rows.of ps n).b0 k) r q := by
      show (match SM.nxt (Rows.of ps n).P (SM.iter (Rows.of ps n).P (Rows.of ps n).b0 k) with
        | some (q, r) => SM.up (SM.iter (Rows.of ps n).P (Rows.of ps n).b0 k) r q
        | none => SM.iter (Rows.of ps n).P (Rows.of ps n).b0 k) = _
      rw [hnx]
    have hqW : q ≤ (Rows.of ps n).W := Nat.le_trans (Nat.le_of_lt hq) (w_le _)
    have eo : optN (some r) = .int (r : Int) := rfl
    simp! [e1, x_meth, hm t1 _ _ _ _ _ m3, hm t1 _ _ _ _ _ m2, d_leaving t1 z hqW, hr', eo]
    have hrm : r < (Rows.of ps n).m := lvOf_lt hr'
    refine ev_mono (d_exchange t1 z G hrm hqW L.pos) fun w S2 ⟨hw2, t2⟩ => ?_
    rw [← hup] at t2
    simp! [x_meth, hm t2 _ _ _ _ _ m1, d_entering t2 hw]
    exact ⟨N - (k + 1), by omega, k + 1, by omega, rfl, ⟨_, _, t2⟩, rfl⟩
end
end Wk
set_option linter.all false
set_option maxRecDepth 100000
set_option maxHeartbeats 2000000
namespace Wk
open PySem PySem.Spec PyProof.Rows L2 MM
open SM (Rows Bs sm)
section
variable {R : Rows} {S S' : Sto} {b : Bs} {ln bs : Nat} {ps : List SM.PRow} {n : Nat}
theorem numL_put {many : Nat} {f : Nat → Int} {m : Nat} : ((SM.numL many b f m).map D.int) = (SM.numL many b f m).map .int := rfl
theorem d_numbers (t : Tab R S b ln bs S') (z : Sz R b) (G : SM.Good R.P b) (hn : R.n ≤ 100000) : f_Tableau_numbers [.loc S.length] S' = .ok (.lst (((List.range R.n).map (SM.val R.P b)).map .int)) S' := by
  apply of_ev
  show Ev (((b_Tableau_numbers [some (.loc S.length), none, none, none] S').bind endF).bind (gc S'.length)) _
  unfold b_Tableau_numbers
  have f1 : fldK "Tableau" "many" (.loc S.length) S' = .ok (.int (R.n : Int)) S' := fldK_loc t.obj rfl
  have f1' : ∀ X, fldK "Tableau" "many" (.loc S.length) (S' ++ X) = .ok (.int (R.n : Int)) (S' ++ X) := fun X => fldK_loc (low_at t.obj) rfl
  have f2 : ∀ X, fldK "Tableau" "base" (.loc S.length) (S' ++ X) = .ok (.loc bs) (S' ++ X) := fun X => fldK_loc (low_at t.obj) rfl
  have f3 : ∀ X, fldK "Tableau" "lines" (.loc S.length) (S' ++ X) = .ok (.loc ln) (S' ++ X) := fun X => fldK_loc (low_at t.obj) rfl
  have r1 : oMulC (.lst [.int 0]) (.int (R.n : Int)) S' = .ok (.loc S'.length) (S' ++ [.lst (reps R.n [.int 0])]) := o_repC _ (by simp only [List.length_cons, List.length_nil]; unfold lim; omega) (by omega)
  have e1 : enumD (tBase R b) = (List.range R.m).map fun (i : Nat) => D.tup [.int (i : Int), .int (b i : Int)] := by
    unfold tBase
    rw [enumD_rng _ (List.range R.m) 0, List.length_range]
    apply List.map_congr_left
    intro i hi
    have hi : i < R.m := List.mem_range.mp hi
    simp [List.getD, hi]
  simp! [x_fld, f1, r1, x_enm1, f2, enmLoc (low_at t.ab), e1]
  have e0 : reps R.n [D.int 0] = (SM.numL R.n b (fun k => R.P.T b k R.W) 0).map .int := by
    rw [reps_one]
    simp [SM.numL]
  rw [e0]
  refine ev_for (fun k L S1 => S1 = S' ++ [.lst ((SM.numL R.n b (fun k => R.P.T b k R.W) k).map .int)] ∧ ∃ o2 o3, L = [some (.loc S.length), some (.loc S'.length), o2, o3]) (fun k L S1 h => by rw [h.1]; exact low_at t.ab) ?_ ?_ ⟨rfl, _, _, rfl⟩
  · rintro k e L S1 hk ⟨rfl, o2, o3, rfl⟩
    obtain ⟨k', hk', rfl⟩ := map_at hk
    obtain ⟨hkl, ekk⟩ := List.getElem?_eq_some_iff.mp hk'
    rw [List.getElem_range] at ekk
    subst ekk
    rw [List.length_range] at hkl
    have eb : ((b k : Int) < (R.n : Int)) = (b k < R.n) := propext ⟨fun h => by omega, fun h => by omega⟩
    have en : SM.numL R.n b (fun k => R.P.T b k R.W) (k + 1) = SM.putN R.n b (fun k => R.P.T b k R.W) (SM.numL R.n b (fun k => R.P.T b k R.W) k) k := rfl
    rw [en]
    unfold SM.putN
    simp! [x_fld, f1', eb]
    by_cases hb : b k < R.n
    · have g3 : ∀ X, oIx (.loc ln) (.int (k : Int)) (S' ++ X) = .ok (.lst ((SM.rowL R.P b k).map .int)) (S' ++ X) := fun X => o_ixSeq (seqD_loc (low_at t.al)) (by rw [atI_natM]; exact lines_at hkl)
      have g4 : ∀ X, oIx (.lst ((SM.rowL R.P b k).map .int)) (.int (-1)) X = .ok (.int (R.P.T b k R.W)) X := fun X => o_ixSeq rfl row_last
      simp! [hb, x_lput, x_fld, f3, x_ix, g3, g4]
      rw [lputK_loc top_at (ixN_nat (by rw [List.length_map, SM.numL_length]; exact hb)), top_set]
      simp! [hb]
      refine ⟨?_, _, _, rfl⟩
      rw [List.map_set]
    · simp! [hb]
      exact ⟨trivial, _, _, rfl⟩
  · rintro L S1 ⟨rfl, o2, o3, rfl⟩
    rw [List.length_map, List.length_range, SM.numL_val G]
    simp! []
    rw [gc_lst t.cl (cleans_ints _)]
    exact ⟨rfl, rfl⟩
/-! ## the answer -/
def wLen (rows : List SM.KRow) : Nat := (SM.plain rows).length
theorem wts_app (g : Nat → Int) : ∀ (rs : List SM.KRow) (r : SM.KRow) (a : Nat), SM.wts g (rs ++ [r]) a = SM.wts g rs a ++ [if r.1 = .even then g (a + wLen rs) - g (a + wLen rs + 1) else g (a + wLen rs)]
  | [], r, a => by
    show SM.wts g [r] a = _
    unfold SM.wts
    simp only [SM.wts, wLen, SM.plain, List.flatMap_nil, List.length_nil, Nat.add_zero, List.nil_append]
    split <;> rfl
  | x :: rs, r, a => by
    have hx : wLen (x :: rs) = (if x.1 = .even then 2 else 1) + wLen rs := by
      have e : SM.plain (x :: rs) = SM.plain1 x ++ SM.plain rs := by simp [SM.plain]
      unfold wLen
      rw [e, List.length_append]
      congr 1
      unfold SM.plain1
      split <;> simp
    rw [List.cons_append]
    unfold SM.wts
    by_cases h : x.1 = .even
    · rw [if_pos h, if_pos h, wts_app g rs r (a + 2), hx, if_pos h]
      simp only [List.cons_append]
      have e2 : a + 2 + wLen rs = a + (2 + wLen rs) := by omega
      rw [e2]
    · rw [if_neg h, if_neg h, wts_app g rs r (a + 1), hx, if_neg h]
      simp only [List.cons_append]
      have e2 : a + 1 + wLen rs = a + (1 + wLen rs) := by omega
      rw [e2]
theorem wts_length (g : Nat → Int) : ∀ (rs : List SM.KRow) (a : Nat), (SM.wts g rs a).length = rs.length
  | [], _ => rfl
  | x :: rs, a => by
    unfold SM.wts
    split <;> simp [wts_length g rs]
theorem wLen_succ {rows : List SM.KRow} {k : Nat} {r : SM.KRow} (h : rows[k]? = some r) : wLen (rows.take (k + 1)) = wLen (rows.take k) + (if r.1 = .even then 2 else 1) := by
  unfold wLen
  rw [take_succ h, plain_app, List.length_append]
  congr 1
  unfold SM.plain1
  split <;> simp
theorem wLen_mono {rows : List SM.KRow} : ∀ k, wLen (rows.take k) ≤ wLen rows := by
  intro k
  have e : rows = rows.take k ++ rows.drop k := (List.take_append_drop k rows).symm
  have h : wLen rows = wLen (rows.take k) + wLen (rows.drop k) := by
    unfold wLen
    rw [← List.length_append]
    congr 1
    unfold SM.plain
    rw [← List.flatMap_append, ← e]
  omega
noncomputable def ansD (rows : List SM.KRow) (n : Nat) : D := if SM.feasB (SM.RK rows n) = true then .tup [.str "numbers", .tup ((SM.nums (SM.RK rows n)).map .int)] else .tup [.str "weights", .tup ((SM.ltm (SM.wts ((SM.RK rows n).P.g (SM.finB (SM.RK rows n))) rows n)).map .int)]
theorem wts_abs {g : Nat → Int} {K W : Nat} (h : ∀ j, j ≤ W → (g j).natAbs ≤ K) : ∀ (rs : List SM.KRow) (a : Nat), a + wLen rs ≤ W → ∀ x ∈ SM.wts g rs a, x.natAbs ≤ 2 * K
  | [], _, _, x, hx => by cases hx
  | r :: rs, a, hw, x, hx => by
    have hr : wLen (r :: rs) = (if r.1 = .even then 2 else 1) + wLen rs := by
      have e : SM.plain (r :: rs) = SM.plain1 r ++ SM.plain rs := by simp [SM.plain]
      unfold wLen
      rw [e, List.length_append]
      congr 1
      unfold SM.plain1
      split <;> simp
    rw [hr] at hw
    unfold SM.wts at hx
    by_cases c : r.1 = .even
    · rw [if_pos c] at hx hw
      rcases List.mem_cons.mp hx with e | hx
      · have h1 := h a (by omega)
        have h2 := h (a + 1) (by omega)
        omega
      · exact wts_abs h rs (a + 2) (by omega) x hx
    · rw [if_neg c] at hx hw
      rcases List.mem_cons.mp hx with e | hx
      · have h1 := h a (by omega)
        omega
      · exact wts_abs h rs (a + 1) (by omega) x hx
theorem ok_numbers : PyData.strOk "numbers" = true := by decide +kernel
theorem ok_weights : PyData.strOk "weights" = true := by decide +kernel
theorem d_answer {S : Sto} (hS : Cl S) (rows : List SM.KRow) (n : Nat) (hl : rows.length ≤ 20) (hn : n ≤ 1000) (hr : ∀ r ∈ rows, r.2.length = n) (hb : ∀ r ∈ rows, ∀ x ∈ r.2, x.natAbs ≤ 2 ^ 40) :
    f_answer [.lst (rows.map rowD), .int (n : Int)] S = .ok (ansD rows n) S := by
  apply of_ev
  show Ev (((b_answer [some (.lst (rows.map rowD)), some (.int (n : Int)), none, none, none, none, none, none] S).bind endF).bind (gc S.length)) _
  unfold b_answer
  have hs : SM.Small (SM.plain rows) := SM.small_plain hl hb
  have hpl : (SM.plain rows).length ≤ 40 := hs.len
  have hpr : ∀ p ∈ SM.plain rows, p.2.length = n := by
    intro p hp
    obtain ⟨r, hr1, hp⟩ := List.mem_flatMap.mp hp
    have h1 := hr r hr1
    unfold SM.plain1 at hp
    rcases List.mem_cons.mp hp with e | hp
    · rw [e]; exact h1
    · split at hp
      · rw [List.mem_singleton.mp hp, List.length_map]; exact h1
      · cases hp
  simp! [d_plain hS rows (by omega) (fun r h => by rw [hr r h]; exact hn), x_make]
  refine ev_mono (d_init (S := S) (ps := SM.plain rows) (n := n) (by omega) hn hpr hs) fun v S1 ⟨hv, hS1⟩ => ?_
  rw [hv]
  simp! []
  have e3 : S ++ [.ins "Tableau" tNames (tVals (SM.RK rows n) (SM.RK rows n).b0 (S.length + 1) (S.length + 2)), .lst (tLines (SM.RK rows n) (SM.RK rows n).b0), .lst (tBase (SM.RK rows n) (SM.RK rows n).b0)] = S1 := hS1.symm
  have t0 : Tab (SM.RK rows n) S (SM.RK rows n).b0 (S.length + 1) (S.length + 2) S1 := by
    refine ⟨⟨_, hS1⟩, by omega, by omega, by omega, ?_, ?_, ?_⟩
    · rw [hS1]; exact snd_at
    · rw [hS1]; exact trd_at
    · rw [hS1]
      refine hS.app fun c hc => ?_
      simp only [List.mem_cons, List.not_mem_nil, or_false] at hc
      rcases hc with h | h | h <;> rw [h]
      · exact clean_vals _ (by simp only [List.length_cons, List.length_nil]; omega) (by simp only [List.length_cons, List.length_nil]; omega)
      · exact clean_lines _ _ _
      · exact clean_base _ _
  have m1 : ¬ ("solve" : Str) ∈ tNames := by decide +kernel
  have m2 : ¬ ("numbers" : Str) ∈ tNames := by decide +kernel
  simp! [x_meth, methK_loc t0.obj m1]
  refine ev_mono (d_solve hs hn t0) fun w S2 ⟨hw, ln, bs, t⟩ => ?_
  have hf := SM.finB_fin (SM.RK rows n)
  have G := (SM.fin_done hf).good
  have z : Sz (SM.RK rows n) (SM.finB (SM.RK rows n)) := sz_of hs hn G
  have B := SM.bnd hs (n := n) G.lt
  generalize hbb : SM.finB (SM.RK rows n) = b at *
  have g1 : fldK "Tableau" "goal" (.loc S.length) S2 = .ok (.lst ((SM.goalL (SM.RK rows n).P b).map .int)) S2 := fldK_loc t.obj rfl
  have g1' : ∀ X, fldK "Tableau" "goal" (.loc S.length) (S2 ++ X) = .ok (.lst ((SM.goalL (SM.RK rows n).P b).map .int)) (S2 ++ X) := fun X => fldK_loc (low_at t.obj) rfl
  have g2 : ∀ X, oIx (.lst ((SM.goalL (SM.RK rows n).P b).map .int)) (.int (-1)) X = .ok (.int ((SM.RK rows n).P.g b (SM.RK rows n).W)) X := fun X => o_ixSeq rfl goal_last
  obtain ⟨T, hT⟩ := t.pre
  simp! [x_fld, g1, x_ix, g2]
  have ef : SM.feasB (SM.RK rows n) = decide ((SM.RK rows n).P.g b (SM.RK rows n).W = 0) := by
    unfold SM.feasB
    rw [hbb]
  unfold ansD
  rw [ef, hbb]
  by_cases hg : (SM.RK rows n).P.g b (SM.RK rows n).W = 0
  · have hnb : ∀ x ∈ (List.range n).map (SM.val (SM.RK rows n).P b), x.natAbs ≤ 2 ^ 5000 := by
      intro x hx
      obtain ⟨j, _, e⟩ := List.mem_map.mp hx
      rw [← e]
      exact SM.val_abs G (fun i => z.T i _ (Nat.le_refl _)) j
    have hnm : SM.nums (SM.RK rows n) = SM.ltm ((List.range n).map (SM.val (SM.RK rows n).P b)) := by
      unfold SM.nums SM.nums0
      rw [hbb]
      rfl
    have dn : f_Tableau_numbers [.loc S.length] S2 = .ok (.lst (((List.range n).map (SM.val (SM.RK rows n).P b)).map .int)) S2 := d_numbers t z G (by show n ≤ _; omega)
    simp! [hg, x_meth, methK_loc t.obj m2, dn, d_least _ (.lst _) none items_lst trivial hnb (by rw [List.length_map, List.length_range]; unfold lim; omega), hnm]
    rw [hT, gc_val hS (by
      show (true && (cleans _ _ && true)) = true
      rw [cleans_ints]
      rfl)]
    exact ⟨by rw [decide_eq_true hg, if_pos rfl, hnm], rfl⟩
  · simp! [hg, bPar2, Nat.zero_le]
    refine ev_for (gd := none) (fun k L S1 => S1 = S2 ++ [.lst ((SM.wts ((SM.RK rows n).P.g b) (rows.take k) n).map .int)] ∧ ∃ o6 o7, L = [some (.lst (rows.map rowD)), some (.int (n : Int)), some (.lst ((SM.plain rows).map prowD)), some (.loc S.length), some (.loc S2.length), some (.int ((n + wLen (rows.take k) : Nat) : Int)), o6, o7]) (fun _ _ _ _ => trivial) ?_ ?_ ⟨rfl, _, _, rfl⟩
    · rintro k e L S1 hk ⟨rfl, o6, o7, rfl⟩
      obtain ⟨⟨kd, ns⟩, hx, rfl⟩ := map_at hk
      have hkl : k < rows.length := (List.getElem?_eq_some_iff.mp hx).1
      have h1 := wLen_succ hx
      have h2 := wLen_mono (rows := rows) (k + 1)
      have hW : (SM.RK rows n).W = n + (SM.plain rows).length + (SM.RK rows n).hl.length := rfl
      have h3 : wLen rows = (SM.plain rows).length := rfl
      have q1 : (SM.wts ((SM.RK rows n).P.g b) (rows.take k) n).length < lim := by
        rw [wts_length, List.length_take]
        unfold lim
        omega
      have g3 : ∀ X, oIx (.lst ((SM.goalL (SM.RK rows n).P b).map .int)) (.int ((n + wLen (rows.take k) : Nat) : Int)) X = .ok (.int ((SM.RK rows n).P.g b (n + wLen (rows.take k)))) X := fun X => o_ixL _ (goal_at (by
        by_cases c : kd = .even
        · rw [if_pos c] at h1; omega
        · rw [if_neg c] at h1; omega))
      have ew : SM.wts ((SM.RK rows n).P.g b) (rows.take (k + 1)) n = SM.wts ((SM.RK rows n).P.g b) (rows.take k) n ++ [if kd = .even then (SM.RK rows n).P.g b (n + wLen (rows.take k)) - (SM.RK rows n).P.g b (n + wLen (rows.take k) + 1) else (SM.RK rows n).P.g b (n + wLen (rows.take k))] := by
        rw [take_succ hx, wts_app]
      simp! [x_fld, g1', x_ix, g3, top_tyB, top_append, List.length_map, q1, eqS_even]
      rw [ew, h1]
      by_cases c : kd = .even
      · have g4 : ∀ X, oIx (.lst ((SM.goalL (SM.RK rows n).P b).map .int)) (.int (((n + wLen (rows.take k) : Nat) : Int) + 1)) X = .ok (.int ((SM.RK rows n).P.g b (n + wLen (rows.take k) + 1))) X := fun X => by
          have e : ((n + wLen (rows.take k) : Nat) : Int) + 1 = ((n + wLen (rows.take k) + 1 : Nat) : Int) := by omega
          rw [e]
          exact o_ixL _ (goal_at (by rw [if_pos c] at h1; omega))
        have g5 : ∀ (xs : List D) (v : D) (X : Sto), oIx (.loc S2.length) (.int (-1)) (S2 ++ .lst (xs ++ [v]) :: X) = .ok v (S2 ++ .lst (xs ++ [v]) :: X) := fun xs v X => o_ixSeq (seqD_loc top_at) (by rw [atI_lastM]; simp)
        have g6 : ∀ (xs : List D) (u v : D) (L : MM.Loc), lputK (.loc S2.length) (.int (-1)) v L (S2 ++ [.lst (xs ++ [u])]) = .ok (.nx L) (S2 ++ [.lst (xs ++ [v])]) := fun xs u v L => by
          have hj : ixN (xs ++ [u]).length (-1) = some xs.length := by
            unfold ixN
            rw [if_neg (by omega), if_pos (by simp; omega)]
            congr 1
            simp
            omega
          rw [lputK_loc top_at hj, top_set]
          simp
        simp! [c, x_lput, x_fld, g1', x_ix, g4, g5, g6, eqS_even]
        have e : ((n + wLen (rows.take k) : Nat) : Int) + 2 = ((n + (wLen (rows.take k) + 2) : Nat) : Int) := by omega
        rw [e]
        refine ⟨?_, _, _, rfl⟩
        rw [List.map_append]
        rfl
      · simp! [c, eqS_even]
        have e : ((n + wLen (rows.take k) : Nat) : Int) + 1 = ((n + (wLen (rows.take k) + 1) : Nat) : Int) := by omega
        rw [e]
        refine ⟨?_, _, _, rfl⟩
        rw [List.map_append]
        rfl
    · rintro L S1 ⟨rfl, o6, o7, rfl⟩
      rw [List.length_map, List.take_length]
      have hwb : ∀ x ∈ SM.wts ((SM.RK rows n).P.g b) rows n, x.natAbs ≤ 2 ^ 5000 := by
        intro x hx
        have h1 := wts_abs (K := SM.KK) (W := (SM.RK rows n).W) (fun j hj => B.g j hj) rows n (by
          have hW : (SM.RK rows n).W = n + (SM.plain rows).length + (SM.RK rows n).hl.length := rfl
          have h3 : wLen rows = (SM.plain rows).length := rfl
          omega) x hx
        exact Nat.le_trans h1 (by decide +kernel)
      simp! [d_least _ (.loc S2.length) _ top_items top_grd hwb (by rw [wts_length]; unfold lim; omega)]
      rw [hT, List.append_assoc, gc_val hS (by
        show (true && (cleans _ _ && true)) = true
        rw [cleans_ints]
        rfl)]
      exact ⟨by rw [decide_eq_false hg, if_neg Bool.false_ne_true], rfl⟩
end
end Wk
set_option linter.all false
set_option maxRecDepth 100000
set_option maxHeartbeats 2000000
namespace Wk
open PySem PySem.Spec PyProof.Rows L2 MM
open SM (Rows Bs sm)
theorem seqD_lst {S : Sto} {xs : List D} : seqD S (.lst xs) = some xs := rfl
theorem seqD_tup {S : Sto} {xs : List D} : seqD S (.tup xs) = some xs := rfl
noncomputable def fullD (rows : List SM.KRow) (n : Nat) : D := match SM.full rows n with
  | none => .non
  | some l => .tup (l.map .int)
theorem fullF_len {rows : List SM.KRow} {n : Nat} (h0 : SM.feasB (SM.RK rows n) = true) {k : Nat} (hk : k ≤ n) : (SM.fullF rows n k).length = n := (SM.full_inv h0 k hk).nn.len
theorem eq_nw {S : Sto} : oEq (.str "numbers") (.str "weights") S = .ok (.bl false) S := by rw [o_eqS ok_numbers ok_weights]; congr
theorem eq_ww {S : Sto} : oEq (.str "weights") (.str "weights") S = .ok (.bl true) S := by rw [o_eqS ok_weights ok_weights]; simp
theorem eq_nn {S : Sto} : oEq (.str "numbers") (.str "numbers") S = .ok (.bl true) S := by rw [o_eqS ok_numbers ok_numbers]; simp
theorem eq_wn {S : Sto} : oEq (.str "weights") (.str "numbers") S = .ok (.bl false) S := by rw [o_eqS ok_weights ok_numbers]; congr
theorem d_fullest {S : Sto} (hS : Cl S) (rows : List SM.KRow) (n : Nat) (hl : rows.length ≤ 19) (hn : n ≤ 1000) (hr : ∀ r ∈ rows, r.2.length = n) (hb : ∀ r ∈ rows, ∀ x ∈ r.2, x.natAbs ≤ 2 ^ 40) :
    f_fullest [.lst (rows.map rowD), .int (n : Int)] S = .ok (fullD rows n) S := by
  apply of_ev
  show Ev ((b_fullest [some (.lst (rows.map rowD)), some (.int (n : Int)), none, none, none, none, none, none, none] S).bind endF) _
  unfold b_fullest
  have h62 : n < 2 ^ 62 := by omega
  simp! [d_answer hS rows n (by omega) hn hr hb]
  unfold fullD SM.full ansD
  by_cases h0 : SM.feasB (SM.RK rows n) = true
  · simp! [h0, eq_nw, h62]
    refine ev_for (gd := none) (fun k L S1 => S1 = S ∧ ∃ o2 o4 o5 o6 o7 o8, L = [some (.lst (rows.map rowD)), some (.int (n : Int)), o2, some (.tup ((SM.fullF rows n k).map .int)), o4, o5, o6, o7, o8]) (fun _ _ _ _ => trivial) ?_ ?_ ⟨rfl, _, _, _, _, _, _, rfl⟩
    · rintro k e L S1 hk ⟨rfl, o2, o4, o5, o6, o7, o8, rfl⟩
      obtain ⟨k', hk', rfl⟩ := map_at hk
      obtain ⟨hkl, ekk⟩ := List.getElem?_eq_some_iff.mp hk'
      rw [List.getElem_range] at ekk
      subst ekk
      rw [List.length_range] at hkl
      have hfl := fullF_len h0 (Nat.le_of_lt hkl)
      have g1 : oIx (.tup ((SM.fullF rows n k).map .int)) (.int (k : Int)) S1 = .ok (.int ((SM.fullF rows n k).getD k 0)) S1 := o_ixT k (by
        rw [List.getElem?_map, getD_some (by omega) 0]
        rfl)
      have ef : SM.fullF rows n (k + 1) = SM.full1 rows n (SM.fullF rows n k) k := rfl
      rw [ef]
      unfold SM.full1
      simp! [x_ix, g1, h62]
      by_cases c : (SM.fullF rows n k).getD k 0 = 0
      · simp! [c, seqD_lst, h62]
        rw [lc_map (gd := none) (f := fun (j : Nat) => D.int (if j = k then 1 else 0)) (fun (j : Nat) => D.int (j : Int)) trivial (List.range n) (fun z _ => ⟨_, rfl, by
          have : ((z : Int) = (k : Int)) = (z = k) := propext ⟨fun h => by omega, fun h => by rw [h]⟩
          simp! [this]⟩) (by rw [List.length_range]; unfold lim; omega)]
        have er : (rows.map rowD) ++ [D.tup [.str "strict", .tup ((List.range n).map fun (j : Nat) => D.int (if j = k then 1 else 0))]] = (rows ++ [SM.unit n k]).map rowD := by
          rw [List.map_append]
          show _ = _ ++ [D.tup [.str "strict", .tup (((List.range n).map fun (j : Nat) => if j = k then (1 : Int) else 0).map .int)]]
          rw [List.map_map]
          rfl
        have q1 : rows.length + 1 ≤ lim := by unfold lim; omega
        have da := d_answer hS (rows ++ [SM.unit n k]) n (by simp; omega) hn (fun r hr2 => by
          rcases List.mem_append.mp hr2 with h | h
          · exact hr r h
          · rw [List.mem_singleton.mp h]; simp [SM.unit]) (fun r hr2 x hx => by
          rcases List.mem_append.mp hr2 with h | h
          · exact hb r h x hx
          · rw [List.mem_singleton.mp h] at hx
            obtain ⟨t, _, e⟩ := List.mem_map.mp hx
            rw [← e]
            split <;> decide)
        simp! [List.length_append, List.length_map, q1, er, da]
        unfold ansD
        by_cases f : SM.feasB (SM.RK (rows ++ [SM.unit n k]) n) = true
        · simp! [f, eq_nn, x_zp, zpT, zipD_map]
          have hnl : (SM.nums (SM.RK (rows ++ [SM.unit n k]) n)).length = n := (SM.nums_nn (R := SM.RK (rows ++ [SM.unit n k]) n)).len
          rw [lc_map (gd := none) (f := fun (p : Int × Int) => D.int (p.1 + p.2)) (fun (p : Int × Int) => D.tup [.int p.1, .int p.2]) trivial _ (fun z hz => ⟨_, rfl, by simp! []⟩) (by rw [List.length_zip]; unfold lim; omega)]
          simp! [c, f]
          have e8 : (((SM.fullF rows n k).zip (SM.nums (SM.RK (rows ++ [SM.unit n k]) n))).map fun (p : Int × Int) => D.int (p.1 + p.2)) = (List.zipWith (· + ·) (SM.fullF rows n k) (SM.nums (SM.RK (rows ++ [SM.unit n k]) n))).map .int := by
            rw [List.zip, List.map_zipWith, List.map_zipWith]
          rw [e8]
          exact ⟨trivial, _, _, _, _, _, _, rfl⟩
        · simp! [c, f, eq_wn]
          exact ⟨trivial, _, _, _, _, _, _, rfl⟩
      · simp! [c]
        exact ⟨trivial, _, _, _, _, _, _, rfl⟩
    · rintro L S1 ⟨rfl, o2, o4, o5, o6, o7, o8, rfl⟩
      rw [List.length_map, List.length_range]
      have hfl := fullF_len h0 (Nat.le_refl n)
      have hb2 : ∀ x ∈ SM.fullF rows n n, x.natAbs ≤ 2 ^ 5000 := by
        intro x hx
        have h1 := SM.fullF_abs (n := n) hl hb n (Nat.le_refl n) x hx
        have h2 : (n + 1) * SM.KK ≤ 1001 * SM.KK := Nat.mul_le_mul_right _ (by omega)
        exact Nat.le_trans h1 (Nat.le_trans h2 (by decide +kernel))
      simp! [d_least _ (.tup _) none items_tup trivial hb2 (by unfold lim; omega), h0]
  · simp! [h0, eq_ww]
end Wk
set_option linter.all false
set_option maxRecDepth 100000
set_option maxHeartbeats 2000000
namespace MM
open PySem PySem.Spec PyProof.Rows L2
/-! # texts, tuples of texts, tuples of these -/
structure En {α : Type} [DecidableEq α] (f : α → D) (g : α → PyData) (n : Nat) (ok : α → Prop) : Prop where
  to : ∀ x, toP (f x) = some (g x)
  lay : ∀ x, ok x → (g x).canLay0 = true
  dep : ∀ x, (g x).depth ≤ n
  eqv : ∀ x y, (g x).eqv (g y) = decide (x = y)
  alike : ∀ x y, PySem.W.alike (g x) (g y) = true
theorem En.str : En (α := Str) .str .str 0 (fun x => PyData.strOk x = true) where
  to := fun x => rfl
  lay := fun x h => by unfold PyData.canLay0; exact h
  dep := fun x => by unfold PyData.depth; exact Nat.le_refl 0
  eqv := fun x y => by unfold PyData.eqv; exact beq_dec x y
  alike := fun x y => by unfold PySem.W.alike; rfl
section
variable {α : Type} [DecidableEq α] {f : α → D} {g : α → PyData} {n : Nat} {ok : α → Prop}
theorem En.tos (h : En f g n ok) : ∀ xs : List α, toPs (xs.map f) = some (xs.map g)
  | [] => rfl
  | x :: xs => by
    show (match toP (f x), toPs (xs.map f) with
      | some p, some ps => some (p :: ps)
      | _, _ => none) = _
    rw [h.to, h.tos xs]
    rfl
theorem En.lays (h : En f g n ok) : ∀ xs : List α, (∀ x ∈ xs, ok x) → PyData.canLayAll0 (xs.map g) = true
  | [], _ => by unfold PyData.canLayAll0; rfl
  | x :: xs, hx => by
    rw [List.map_cons]
    unfold PyData.canLayAll0
    rw [h.lay x (hx x (by simp)), h.lays xs fun y hy => hx y (by simp [hy])]
    rfl
theorem En.deps (h : En f g n ok) : ∀ xs : List α, PyData.depthAll (xs.map g) ≤ n
  | [] => by
    show PyData.depthAll [] ≤ n
    unfold PyData.depthAll
    omega
  | x :: xs => by
    rw [List.map_cons]
    unfold PyData.depthAll
    have := h.dep x
    have := h.deps xs
    omega
theorem En.eqvs (h : En f g n ok) : ∀ xs ys : List α, PyData.eqvAll (xs.map g) (ys.map g) = decide (xs = ys)
  | [], [] => by unfold PyData.eqvAll; rfl
  | [], y :: ys => by rw [List.map_cons, List.map_nil]; unfold PyData.eqvAll; simp
  | x :: xs, [] => by rw [List.map_cons, List.map_nil]; unfold PyData.eqvAll; simp
  | x :: xs, y :: ys => by
    rw [List.map_cons, List.map_cons]
    unfold PyData.eqvAll
    rw [h.eqv, h.eqvs xs ys]
    by_cases e : x = y
    · by_cases e2 : xs = ys <;> simp [e, e2]
    · simp [e]
theorem En.alikes (h : En f g n ok) : ∀ xs ys : List α, PySem.W.alikeAll (xs.map g) (ys.map g) = true
  | [], _ => by unfold PySem.W.alikeAll; rfl
  | x :: xs, [] => by unfold PySem.W.alikeAll; rfl
  | x :: xs, y :: ys => by
    rw [List.map_cons, List.map_cons]
    unfold PySem.W.alikeAll
    rw [h.alike, h.alikes xs ys]
    rfl
theorem En.tup (h : En f g n ok) : En (fun xs : List α => D.tup (xs.map f)) (fun xs => PyData.tuple (xs.map g)) (n + 1) (fun xs => ∀ x ∈ xs, ok x) where
  to := fun xs => by
    show (toPs (xs.map f)).map PyData.tuple = _
    rw [h.tos]
    rfl
  lay := fun xs hx => by
    unfold PyData.canLay0
    exact h.lays xs hx
  dep := fun xs => by
    unfold PyData.depth
    have := h.deps xs
    omega
  eqv := fun xs ys => by
    unfold PyData.eqv
    exact h.eqvs xs ys
  alike := fun xs ys => by
    unfold PySem.W.alike
    exact h.alikes xs ys
theorem En.toS (h : En f g n ok) (S : Sto) (x : α) : toPS S (f x) = some (g x) := by
  have := h.to x
  cases e : f x <;> rw [e] at this <;> first | exact this | cases this
theorem En.shp (h : En f g n ok) (hn : n ≤ 64) {x : α} (hx : ok x) : SeqAt.shaped (g x) = true := by
  unfold SeqAt.shaped
  rw [h.lay x hx, decide_eq_true (Nat.le_trans (h.dep x) hn)]
  rfl
theorem o_eqE (h : En f g n ok) (hn : n ≤ 64) {S : Sto} {x y : α} (hx : ok x) (hy : ok y) : oEq (f x) (f y) S = .ok (.bl (decide (x = y))) S := by
  unfold oEq eqP
  rw [h.toS, h.toS]
  simp only
  rw [h.shp hn hx, h.shp hn hy, h.eqv, Bool.false_xor]
  rfl
theorem o_neE (h : En f g n ok) (hn : n ≤ 64) {S : Sto} {x y : α} (hx : ok x) (hy : ok y) : oNe (f x) (f y) S = .ok (.bl (!decide (x = y))) S := by
  unfold oNe eqP
  rw [h.toS, h.toS]
  simp only
  rw [h.shp hn hx, h.shp hn hy, h.eqv, Bool.true_xor]
  rfl
theorem any_dec (h : En f g n ok) (x : α) : ∀ ys : List α, (ys.map g).any (fun z => z.eqv (g x)) = decide (x ∈ ys)
  | [] => by simp
  | y :: ys => by
    rw [List.map_cons, List.any_cons, any_dec h x ys, h.eqv]
    by_cases e : y = x
    · simp [e]
    · by_cases e2 : x ∈ ys
      · simp [e2]
      · have : x ≠ y := Ne.symm e
        simp [e, e2, this]
theorem in_str (neg : Bool) {S : Sto} {x : Str} {ys : List Str} {d : D} (hd : seqD S d = some (ys.map .str)) : orOp (inSign neg) (orOp (inFlat neg) (orOp (inDeep neg) (inDeepT neg))) (.str x) d S = .ok (.bl (neg ^^ decide (x ∈ ys))) S := by
  have h1 : inSign neg (.str x) d S = .stuck := by
    cases d <;> first | rfl | cases hd
  have h2 : inFlat neg (.str x) d S = .ok (.bl (neg ^^ decide (x ∈ ys))) S := by
    unfold inFlat
    rw [hd]
    simp only [Option.bind_some, En.str.tos]
    have e : toPS S (.str x) = some (.str x) := rfl
    rw [e]
    simp only
    rw [if_pos, any_dec En.str]
    simp [flatP]
  unfold orOp
  rw [h1]
  simp only
  rw [h2]
theorem o_inStr {S : Sto} {x : Str} {ys : List Str} {d : D} (hd : seqD S d = some (ys.map .str)) : oIn (.str x) d S = .ok (.bl (decide (x ∈ ys))) S := by
  unfold oIn
  rw [in_str false hd, Bool.false_xor]
theorem o_ninStr {S : Sto} {x : Str} {ys : List Str} {d : D} (hd : seqD S d = some (ys.map .str)) : oNin (.str x) d S = .ok (.bl (!decide (x ∈ ys))) S := by
  unfold oNin
  rw [in_str true hd, Bool.true_xor]
theorem in_tup (neg : Bool) (h : En f g n ok) (hn : n + 2 ≤ 64) {S : Sto} {x : List α} {ys : List (List α)} {d : D} (hx : ∀ a ∈ x, ok a) (hys : ∀ y ∈ ys, ∀ a ∈ y, ok a) (hd : asLst S d = some (ys.map fun y => .tup (y.map f)) ∨ d = .tup (ys.map fun y => .tup (y.map f))) :
    orOp (inSign neg) (orOp (inFlat neg) (orOp (inDeep neg) (inDeepT neg))) (.tup (x.map f)) d S = .ok (.bl (neg ^^ decide (x ∈ ys))) S := by
  have E := h.tup
  have E2 := E.tup
  have hs1 := E.shp (by omega) hx
  have h1 : inSign neg (.tup (x.map f)) d S = .stuck := rfl
  have e : toPS S (.tup (x.map f)) = some (.tuple (x.map g)) := E.toS S x
  have h2 : inFlat neg (.tup (x.map f)) d S = .stuck := by
    unfold inFlat
    rw [e]
    cases (seqD S d).bind toPs with
    | none => rfl
    | some ps => rfl
  unfold orOp
  rw [h1]
  simp only
  rw [h2]
  simp only
  rcases hd with hd | hd
  · have h3 : inDeep neg (.tup (x.map f)) d S = .ok (.bl (neg ^^ decide (x ∈ ys))) S := by
      unfold inDeep
      rw [e, hd]
      simp only [Option.bind_some, E.tos]
      have hs2 : SeqAt.shaped (.list (ys.map fun xs => .tuple (xs.map g))) = true := by
        unfold SeqAt.shaped PyData.canLay0 PyData.depth
        rw [E.lays ys hys, decide_eq_true (by have := E.deps ys; omega)]
        rfl
      rw [hs1, hs2, any_dec E]
      simp
    rw [h3]
  · subst hd
    have h3 : inDeep neg (.tup (x.map f)) (.tup (ys.map fun y => .tup (y.map f))) S = .stuck := by
      unfold inDeep
      rw [e]
      rfl
    have h4 : inDeepT neg (.tup (x.map f)) (.tup (ys.map fun y => .tup (y.map f))) S = .ok (.bl (neg ^^ decide (x ∈ ys))) S := by
      unfold inDeepT
      rw [e]
      simp only [asTupD, Option.bind_some, E.tos]
      have hs2 : SeqAt.shaped (.tuple (ys.map fun xs => .tuple (xs.map g))) = true := E2.shp (by omega) hys
      rw [hs1, hs2, any_dec E]
      simp
    rw [h3, h4]
theorem o_inTup (h : En f g n ok) (hn : n + 2 ≤ 64) {S : Sto} {x : List α} {ys : List (List α)} {d : D} (hx : ∀ a ∈ x, ok a) (hys : ∀ y ∈ ys, ∀ a ∈ y, ok a) (hd : asLst S d = some (ys.map fun y => .tup (y.map f)) ∨ d = .tup (ys.map fun y => .tup (y.map f))) : oIn (.tup (x.map f)) d S = .ok (.bl (decide (x ∈ ys))) S := by
  unfold oIn
  rw [in_tup false h hn hx hys hd, Bool.false_xor]
theorem o_ninTup (h : En f g n ok) (hn : n + 2 ≤ 64) {S : Sto} {x : List α} {ys : List (List α)} {d : D} (hx : ∀ a ∈ x, ok a) (hys : ∀ y ∈ ys, ∀ a ∈ y, ok a) (hd : asLst S d = some (ys.map fun y => .tup (y.map f)) ∨ d = .tup (ys.map fun y => .tup (y.map f))) : oNin (.tup (x.map f)) d S = .ok (.bl (!decide (x ∈ ys))) S := by
  unfold oNin
  rw [in_tup true h hn hx hys hd, Bool.true_xor]
/-! ## sorted -/
noncomputable def srt (f : α → D) (xs : List α) : List α := xs.mergeSort fun x y => leD (f x) (f y)
theorem srt_perm (f : α → D) (xs : List α) : (srt f xs).Perm xs := List.mergeSort_perm _ _
theorem srt_mem {f : α → D} {xs : List α} {x : α} : x ∈ srt f xs ↔ x ∈ xs := (srt_perm f xs).mem_iff
theorem srt_length (f : α → D) (xs : List α) : (srt f xs).length = xs.length := (srt_perm f xs).length_eq
theorem srt_map (f : α → D) (xs : List α) : (xs.map f).mergeSort leD = (srt f xs).map f :=
  (PySem.W.sort_maps (r := fun x y => leD (f x) (f y)) (s := leD) f fun _ _ _ _ => rfl).symm
theorem f_sorted (h : En f g n ok) (hn : n ≤ 60) {S : Sto} {xs : List α} {d : D} (hd : seqD S d = some (xs.map f)) (hk : (∀ x ∈ xs, tup1 (g x) = true) ∨ (∀ x ∈ xs, noTup (g x) = true) ∨ (xs.length ≤ 1 ∧ ∀ x ∈ xs, notNone (g x) = true)) : bSorted [d] S = .ok (.lst ((srt f xs).map f)) S := by
  have he : ∀ x, encD (f x) = g x := fun x => by
    unfold encD
    rw [h.to]
    rfl
  have hs : sortOk (xs.map f) = true := by
    unfold sortOk
    simp only [Bool.and_eq_true, Bool.or_eq_true, List.all_eq_true, List.mem_map, forall_exists_index, and_imp, forall_apply_eq_imp_iff₂, decide_eq_true_eq, he, h.to, Option.isSome_some, List.length_map, h.alike]
    refine ⟨⟨⟨fun _ _ => trivial, fun _ _ _ _ => trivial⟩, ?_⟩, fun x _ => Nat.le_trans (h.dep x) hn⟩
    rcases hk with hk | hk | hk
    · exact .inl (.inl hk)
    · exact .inl (.inr hk)
    · exact .inr hk
  unfold bSorted fn1
  simp only [hd]
  rw [if_pos hs, srt_map]
end
end MM
set_option linter.all false
set_option maxRecDepth 100000
set_option maxHeartbeats 2000000
namespace Wk
open PySem PySem.Spec PyProof.Rows L2 MM
/-! # points, partings, claims -/
theorem isi_str_str {S : Sto} {x : Str} : bIsi kt inst [.str x, .ty "str"] S = .ok (.bl true) S := rfl
theorem isi_tup_str {S : Sto} {xs : List D} : bIsi kt inst [.tup xs, .ty "str"] S = .ok (.bl false) S := rfl
theorem isi_tup_tup {S : Sto} {xs : List D} : bIsi kt inst [.tup xs, .ty "tuple"] S = .ok (.bl true) S := rfl
theorem isi_int_int {S : Sto} {i : Int} : bIsi kt inst [.int i, .ty "int"] S = .ok (.bl true) S := rfl
theorem isi_int_bool {S : Sto} {i : Int} : bIsi kt inst [.int i, .ty "bool"] S = .ok (.bl false) S := rfl
theorem isi_tup_lt {S : Sto} {xs : List D} : bIsi kt inst [.tup xs, .tup [.ty "list", .ty "tuple"]] S = .ok (.bl true) S := rfl
theorem isi_lst_lt {S : Sto} {xs : List D} : bIsi kt inst [.lst xs, .tup [.ty "list", .ty "tuple"]] S = .ok (.bl true) S := rfl
theorem isi_book {S : Sto} {ns : List Str} {vs : List D} : bIsi kt inst [.obj "Book" ns vs, .cls "Book"] S = .ok (.bl true) S := rfl
abbrev strD (xs : List Str) : List D := xs.map .str
abbrev partD (p : List Str) : D := .tup (p.map .str)
abbrev lotD (l : List (List Str)) : D := .tup (l.map partD)
theorem enP : En partD (fun xs => PyData.tuple (xs.map PyData.str)) 1 (fun xs : List Str => ∀ x ∈ xs, PyData.strOk x = true) := En.str.tup
theorem enL : En lotD (fun l => PyData.tuple (l.map fun xs => PyData.tuple (xs.map PyData.str))) 2 (fun l : List (List Str) => ∀ p ∈ l, ∀ x ∈ p, PyData.strOk x = true) := enP.tup
inductive Pt where
  | nm (x : Str)
  | fk (a b c : Pt)
def Pt.d : Pt → D
  | .nm x => .str x
  | .fk a b c => .tup [.str "fork", a.d, b.d, c.d]
def Pt.dep : Pt → Nat
  | .nm _ => 0
  | .fk a b c => max a.dep (max b.dep c.dep) + 1
def b01 (b : Bool) : Int := if b = true then 1 else 0
def side (p : List Str) : Pt → Bool
  | .nm x => decide (x ∈ p)
  | .fk a b c => decide (1 < b01 (side p a) + (b01 (side p b) + b01 (side p c)))
theorem cut3 (w a b c : D) : cutL [w, a, b, c] (some 1) none = [a, b, c] := rfl
theorem sl_tup {S : Sto} {xs : List D} {lo hi : Option Int} : oSl (.tup xs) lo hi S = .ok (.tup (cutL xs lo hi)) S := rfl
theorem asInt_int (i : Int) : asInt (.int i) = some i := rfl
theorem f_sumL {S : Sto} (ns : List Int) : bSum [.lst (ns.map .int)] S = .ok (.int ns.sum) S := f_sum ns rfl
theorem f_allL {S : Sto} (bs : List Bool) : bAll [.lst (bs.map .bl)] S = .ok (.bl (bs.all id)) S := f_all bs rfl
theorem f_anyL {S : Sto} (bs : List Bool) : bAny [.lst (bs.map .bl)] S = .ok (.bl (bs.any id)) S := f_any bs rfl
theorem d_side {S : Sto} {p : List Str} : ∀ (k : Nat) (t : Pt), t.dep < k → f_is_side k [partD p, t.d] S = .ok (.bl (side p t)) S
  | 0, _, h => absurd h (Nat.not_lt_zero _)
  | k + 1, t, h => by
    apply of_ev
    show Ev ((b_is_side (f_is_side k) [some (partD p), some t.d, none] S).bind endF) _
    unfold b_is_side
    cases t with
    | nm x =>
      have e : (Pt.nm x).d = .str x := rfl
      rw [e]
      simp! [isi_str_str, o_inStr (S := S) (x := x) (ys := p) (d := partD p) rfl, side]
    | fk a b c =>
      have e : (Pt.fk a b c).d = .tup [.str "fork", a.d, b.d, c.d] := rfl
      have hd : (Pt.fk a b c).dep = max a.dep (max b.dep c.dep) + 1 := rfl
      rw [hd] at h
      rw [e]
      simp! [isi_tup_str, sl_tup, asInt_int, cut3]
      have em : [a.d, b.d, c.d] = [a, b, c].map Pt.d := rfl
      rw [em, lc_map (gd := none) (f := fun z => D.int (b01 (side p z))) Pt.d trivial [a, b, c] (fun z hz => ⟨_, rfl, by
        have hz2 : z.dep < k := by
          simp only [List.mem_cons, List.not_mem_nil, or_false] at hz
          rcases hz with rfl | rfl | rfl <;> omega
        simp! [d_side k z hz2, b01]⟩) (by simp only [List.length_cons, List.length_nil]; unfold lim; omega)]
      have es : ([a, b, c].map fun z => D.int (b01 (side p z))) = ([a, b, c].map fun z => b01 (side p z)).map .int := rfl
      rw [es]
      simp! [f_sumL]
      simp [side]
theorem d_parts {S : Sto} {p : List Str} {s t : Pt} (hs : s.dep < 8) (ht : t.dep < 8) : f_parts [partD p, s.d, t.d] S = .ok (.bl (!decide (side p s = side p t))) S := by
  apply of_ev
  show Ev ((b_parts [some (partD p), some s.d, some t.d] S).bind endF) _
  unfold b_parts
  simp! [d_side 8 s hs, d_side 8 t ht]
abbrev Term := Int × Pt × Pt
def termD (t : Term) : D := .tup [.int t.1, t.2.1.d, t.2.2.d]
def sumD (s : List Term) : D := .tup (s.map termD)
inductive Wd where
  | most | less | same
deriving DecidableEq
def wdS : Wd → Str
  | .most => "most"
  | .less => "less"
  | .same => "same"
structure Clm where
  w : Wd
  l : List Term
  r : List Term
def clmD (c : Clm) : D := .tup [.str (wdS c.w), sumD c.l, sumD c.r]
def sumAt (s : List Term) (p : List Str) : Int := ((s.filter fun t => !decide (side p t.2.1 = side p t.2.2)).map (·.1)).sum
def gapN (c : Clm) (p : List Str) : Int := sumAt c.r p - sumAt c.l p
structure SumOk (s : List Term) : Prop where
  len : s.length ≤ 4
  dep : ∀ t ∈ s, t.2.1.dep < 8 ∧ t.2.2.dep < 8
  num : ∀ t ∈ s, 1 ≤ t.1 ∧ t.1 ≤ 2 ^ 30
structure ClmOk (c : Clm) : Prop where
  l : SumOk c.l
  r : SumOk c.r
theorem d_sum_at {S : Sto} {p : List Str} {s : List Term} (h : SumOk s) : f_sum_at [sumD s, partD p] S = .ok (.int (sumAt s p)) S := by
  apply of_ev
  show Ev ((b_sum_at [some (sumD s), some (partD p), none, none, none] S).bind endF) _
  unfold b_sum_at
  have e : sumD s = .tup (s.map termD) := rfl
  simp! [e]
  rw [lc_flt (gd := none) (fun t : Term => !decide (side p t.2.1 = side p t.2.2)) (fun t => D.int t.1) termD trivial s [] (fun z hz => by
    obtain ⟨n, a, b⟩ := z
    have hd := h.dep _ hz
    refine ⟨[some (.tup (s.map termD)), some (partD p), some (.int n), some a.d, some b.d], rfl, ?_, fun _ => ?_⟩
    · simp! [d_parts hd.1 hd.2]
    · simp! []) (by have := h.len; unfold lim; simp; omega)]
  have em : ((s.filter fun t : Term => !decide (side p t.2.1 = side p t.2.2)).map fun t => D.int t.1) = ((s.filter fun t : Term => !decide (side p t.2.1 = side p t.2.2)).map (·.1)).map .int := by
    rw [List.map_map]
    rfl
  rw [List.nil_append, em]
  simp! [f_sumL]
  exact ⟨rfl, trivial⟩
theorem d_gap_of {S : Sto} {p : List Str} {c : Clm} (h : ClmOk c) : f_gap_of [clmD c, partD p] S = .ok (.int (gapN c p)) S := by
  apply of_ev
  show Ev ((b_gap_of [some (clmD c), some (partD p)] S).bind endF) _
  unfold b_gap_of
  have e : clmD c = .tup [.str (wdS c.w), sumD c.l, sumD c.r] := rfl
  have g2 : oIx (clmD c) (.int 2) S = .ok (sumD c.r) S := o_ixT 2 rfl
  have g1 : oIx (clmD c) (.int 1) S = .ok (sumD c.l) S := o_ixT 1 rfl
  simp! [x_ix, g1, g2, d_sum_at h.l, d_sum_at h.r]
  exact ⟨rfl, trivial⟩
theorem sumAt_abs {s : List Term} (h : SumOk s) (p : List Str) : (sumAt s p).natAbs ≤ 2 ^ 32 := by
  have key : ∀ (s : List Term), (∀ t ∈ s, 1 ≤ t.1 ∧ t.1 ≤ 2 ^ 30) → 0 ≤ sumAt s p ∧ sumAt s p ≤ s.length * 2 ^ 30 := by
    intro s
    induction s with
    | nil => intro _; simp [sumAt]
    | cons t s ih =>
      intro hs
      have h1 := ih fun t ht => hs t (by simp [ht])
      have h2 := hs t (by simp)
      have h3 : ((t :: s).length : Int) = (s.length : Int) + 1 := by simp
      rw [h3]
      by_cases c : (!decide (side p t.2.1 = side p t.2.2)) = true
      · have e : sumAt (t :: s) p = t.1 + sumAt s p := by
          unfold sumAt
          rw [List.filter_cons_of_pos (p := fun t : Term => !decide (side p t.2.1 = side p t.2.2)) c, List.map_cons, List.sum_cons]
        rw [e]
        omega
      · have e : sumAt (t :: s) p = sumAt s p := by
          unfold sumAt
          rw [List.filter_cons_of_neg (p := fun t : Term => !decide (side p t.2.1 = side p t.2.2)) c]
        rw [e]
        omega
  have h1 := key s h.num
  have h2 := h.len
  omega
theorem gapN_abs {c : Clm} (h : ClmOk c) (p : List Str) : (gapN c p).natAbs ≤ 2 ^ 40 := by
  have h1 := sumAt_abs h.l p
  have h2 := sumAt_abs h.r p
  unfold gapN
  omega
def kdW : Wd → SM.Kd
  | .most => .weak
  | .less => .strict
  | .same => .even
def rowC (shape : List (List Str)) (c : Clm) : SM.KRow := (kdW c.w, shape.map (gapN c))
theorem kd_tab {S : Sto} {L : MM.Loc} {b : ME} : mKd [(("most" : Str), ("weak" : Str)), (("less" : Str), ("strict" : Str)), (("same" : Str), ("even" : Str))] b L S = (b L S).bind fun d S1 => match asStr d with
  | some z => match [(("most" : Str), ("weak" : Str)), (("less" : Str), ("strict" : Str)), (("same" : Str), ("even" : Str))].lookup z with
    | some y => .ok (.str y) S1
    | none => .stuck
  | none => .stuck := rfl
theorem lookup_kd (w : Wd) : [(("most" : Str), ("weak" : Str)), (("less" : Str), ("strict" : Str)), (("same" : Str), ("even" : Str))].lookup (wdS w) = some (kW (kdW w)) := by cases w <;> decide +kernel
theorem d_rows_of {S : Sto} {cs : List Clm} {shape : List (List Str)} (h : ∀ c ∈ cs, ClmOk c) (hl : cs.length ≤ 1000) (hs : shape.length ≤ 1000) : f_rows_of [.tup (cs.map clmD), lotD shape] S = .ok (.lst ((cs.map (rowC shape)).map rowD)) S := by
  apply of_ev
  show Ev ((b_rows_of [some (.tup (cs.map clmD)), some (lotD shape), none, none] S).bind endF) _
  unfold b_rows_of
  simp! []
  rw [lc_map (gd := none) (f := fun c => rowD (rowC shape c)) clmD trivial cs (fun c hc => ⟨_, rfl, by
    have g0 : oIx (clmD c) (.int 0) S = .ok (.str (wdS c.w)) S := o_ixT 0 rfl
    have ea : asStr (.str (wdS c.w)) = some (wdS c.w) := rfl
    simp! [kd_tab, x_ix, g0, ea, lookup_kd]
    rw [lc_map (gd := none) (f := fun p => D.int (gapN c p)) partD trivial shape (fun p hp => ⟨_, rfl, by simp! [d_gap_of (h c hc)]⟩) (by unfold lim; omega)]
    simp! []
    have em : (shape.map fun p => D.int (gapN c p)) = (shape.map (gapN c)).map .int := by
      rw [List.map_map]
      rfl
    rw [em]
    rfl⟩) (by unfold lim; omega)]
  simp! []
  rw [List.map_map]
  exact ⟨rfl, trivial⟩
end Wk
set_option linter.all false
set_option maxRecDepth 100000
set_option maxHeartbeats 2000000
namespace Wk
open PySem PySem.Spec PyProof.Rows L2 MM
abbrev Part := List Str
abbrev POk (p : Part) : Prop := p ≠ [] ∧ ∀ x ∈ p, PyData.strOk x = true
theorem cut_from {α : Type} (xs : List α) (k : Nat) : cutL xs (some (k : Int)) none = xs.drop k := by
  unfold cutL
  rw [HT.sIx_nat, HT.sIx_none]
  rw [List.take_of_length_le (by rw [List.length_drop]; exact Nat.le_refl _)]
  by_cases h : k ≤ xs.length
  · rw [Nat.min_eq_left h]
  · rw [Nat.min_eq_right (by omega), List.drop_eq_nil_of_le (Nat.le_refl _), List.drop_eq_nil_of_le (by omega)]
theorem cut_12 {α : Type} (a b : α) (r : List α) : cutL (a :: b :: r) (some 1) (some 2) = [b] := by
  unfold cutL
  have h1 : HT.sIx (a :: b :: r).length 0 (some 1) = 1 := by
    rw [show (1 : Int) = ((1 : Nat) : Int) from rfl, HT.sIx_nat]
    simp
  have h2 : HT.sIx (a :: b :: r).length (a :: b :: r).length (some 2) = 2 := by
    rw [show (2 : Int) = ((2 : Nat) : Int) from rfl, HT.sIx_nat]
    simp
  rw [h1, h2]
  rfl
/-! ## with_place -/
def wide1 (name : Str) (st o : Part) : Part := if st.all (fun x => decide (x ∈ o)) = true then o ++ [name] else o
def wpSome (shape : List Part) (name : Str) (st : Part) : List Part := [[name], st, st ++ [name]] ++ (shape.filter fun o => !decide (o = st)).map (wide1 name st)
noncomputable def withP (shape : List Part) (name : Str) : List (List Part) := shape.map fun st => srt partD (wpSome shape name st)
theorem wpSome_ok {shape : List Part} {name : Str} {st : Part} (hs : ∀ p ∈ shape, POk p) (hst : st ∈ shape) (hn : PyData.strOk name = true) : ∀ p ∈ wpSome shape name st, POk p := by
  have hb := hs st hst
  have add : ∀ p : Part, POk p → POk (p ++ [name]) := fun p hp => ⟨by simp, fun x hx => by
    rcases List.mem_append.mp hx with h | h
    · exact hp.2 x h
    · rw [List.mem_singleton.mp h]; exact hn⟩
  intro p hp
  unfold wpSome at hp
  rcases List.mem_append.mp hp with h | h
  · simp only [List.mem_cons, List.not_mem_nil, or_false] at h
    rcases h with rfl | rfl | rfl
    · exact ⟨by simp, fun x hx => by rw [List.mem_singleton.mp hx]; exact hn⟩
    · exact hb
    · exact add _ hb
  · obtain ⟨o, ho, rfl⟩ := List.mem_map.mp h
    have h1 := hs o (List.mem_filter.mp ho).1
    unfold wide1
    split
    · exact add _ h1
    · exact h1
theorem wpSome_len {shape : List Part} {name : Str} {st : Part} : 3 ≤ (wpSome shape name st).length ∧ (wpSome shape name st).length ≤ shape.length + 3 := by
  unfold wpSome
  have := List.length_filter_le (fun o => !decide (o = st)) shape
  simp only [List.length_append, List.length_map, List.length_cons, List.length_nil]
  omega
theorem clean_part {N : Nat} (p : Part) : clean N (partD p) = true := cleans_map _ _ fun _ _ => rfl
theorem clean_lot {N : Nat} (l : List Part) : clean N (lotD l) = true := cleans_map _ _ fun p _ => clean_part p
theorem d_with_place {S : Sto} (hS : Cl S) {shape : List Part} {name : Str} (hs : ∀ p ∈ shape, POk p) (hn : PyData.strOk name = true) (hl : shape.length ≤ 1000) (hpl : ∀ p ∈ shape, p.length ≤ 1000) : f_with_place [lotD shape, .str name] S = .ok (.lst ((withP shape name).map lotD)) S := by
  apply of_ev
  show Ev (((b_with_place [some (lotD shape), some (.str name), none, none, none, none, none, none] S).bind endF).bind (gc S.length)) _
  unfold b_with_place
  simp! [Nat.zero_le]
  refine ev_for (gd := none) (fun k L S1 => ∃ T, S1 = S ++ .lst (((shape.take k).map fun st => srt partD (wpSome shape name st)).map lotD) :: T ∧ ∃ o3 o4 o5 o6 o7, L = [some (lotD shape), some (.str name), some (.loc S.length), o3, o4, o5, o6, o7]) (fun _ _ _ _ => trivial) ?_ ?_ ⟨[], rfl, _, _, _, _, _, rfl⟩
  · rintro k e L S1 hk ⟨T, hS1, o3, o4, o5, o6, o7, rfl⟩
    obtain ⟨st, hst, rfl⟩ := map_at hk
    have hm : st ∈ shape := List.mem_of_getElem? hst
    have hkl : k < shape.length := (List.getElem?_eq_some_iff.mp hst).1
    have hstl := hpl st hm
    have hsto := hs st hm
    have q0 : st.length + 1 ≤ lim := by unfold lim; omega
    have es : ∀ p : Part, (p.map D.str) ++ [D.str name] = (p ++ [name]).map .str := fun p => by rw [List.map_append]; rfl
    have e0 : [D.tup [D.str name], partD st, D.tup ((st ++ [name]).map .str)] = (wpSome ([] : List Part) name st).map partD := rfl
    simp! [seqD_tup, List.length_append, List.length_map, q0, es]
    rw [show [D.tup [D.str name], D.tup (st.map D.str), D.tup ((st ++ [name]).map .str)] = ([[name], st, st ++ [name]] ++ ((shape.take 0).filter fun o => !decide (o = st)).map (wide1 name st)).map partD from rfl]
    refine ev_for (gd := none) (fun j L S2 => S2 = S1 ++ [.lst (([[name], st, st ++ [name]] ++ ((shape.take j).filter fun o => !decide (o = st)).map (wide1 name st)).map partD)] ∧ ∃ o5 o6 o7, L = [some (lotD shape), some (.str name), some (.loc S.length), some (partD st), some (.loc S1.length), o5, o6, o7]) (fun _ _ _ _ => trivial) ?_ ?_ ⟨rfl, _, _, _, rfl⟩
    · rintro j e L S2 hj ⟨rfl, o5, o6, o7, rfl⟩
      obtain ⟨o, ho, rfl⟩ := map_at hj
      have hom : o ∈ shape := List.mem_of_getElem? ho
      have hjl : j < shape.length := (List.getElem?_eq_some_iff.mp ho).1
      have hol := hpl o hom
      have hoo := hs o hom
      have ht : (shape.take (j + 1)).filter (fun o => !decide (o = st)) = (shape.take j).filter (fun o => !decide (o = st)) ++ (if o = st then [] else [o]) := by
        rw [take_succ ho, List.filter_append]
        congr 1
        by_cases c : o = st <;> simp [c]
      rw [ht]
      simp! [o_neE enP (by omega) hoo.2 hsto.2]
      by_cases c : o = st
      · simp! [c, List.append_nil]
        exact ⟨trivial, _, _, _, rfl⟩
      · simp! [c]
        rw [lc_map (gd := none) (f := fun x => D.bl (decide (x ∈ o))) D.str trivial st (fun x hx => ⟨_, rfl, by simp! [o_inStr (x := x) (ys := o) (d := partD o) rfl]⟩) (by unfold lim; omega)]
        have eb : (st.map fun x => D.bl (decide (x ∈ o))) = (st.map fun x => decide (x ∈ o)).map .bl := by rw [List.map_map]; rfl
        rw [eb]
        have q1 : o.length + 1 ≤ lim := by unfold lim; omega
        have q2 : ([[name], st, st ++ [name]] ++ ((shape.take j).filter fun o => !decide (o = st)).map (wide1 name st)).length < lim := by
          have := List.length_filter_le (fun o => !decide (o = st)) (shape.take j)
          rw [List.length_take] at this
          simp only [List.length_append, List.length_map, List.length_cons, List.length_nil]
          unfold lim
          omega
        have ew : (if ((st.map fun x => decide (x ∈ o)).all id) = true then D.tup ((o ++ [name]).map .str) else partD o) = partD (wide1 name st o) := by
          unfold wide1
          rw [List.all_map]
          show (if (st.all fun x => decide (x ∈ o)) = true then partD (o ++ [name]) else partD o) = _
          split <;> rfl
        simp! [f_allL, top_tyB, seqD_tup, List.length_append, List.length_map, q1, es, ite_ok, ew]
        rw [top_append, if_pos (by rw [List.length_map]; exact q2)]
        simp! []
        refine ⟨?_, _, _, _, rfl⟩
        simp [List.map_append, c]
    · rintro L S2 ⟨rfl, o5, o6, o7, rfl⟩
      rw [List.length_map, List.take_length]
      have ew : [[name], st, st ++ [name]] ++ (shape.filter fun o => !decide (o = st)).map (wide1 name st) = wpSome shape name st := rfl
      rw [ew]
      have hok := wpSome_ok hs hm hn
      have hsr : ∀ X, bSorted [.loc S1.length] (S1 ++ .lst ((wpSome shape name st).map partD) :: X) = .ok (.lst ((srt partD (wpSome shape name st)).map partD)) (S1 ++ .lst ((wpSome shape name st).map partD) :: X) := fun X => f_sorted enP (by omega) (seqD_loc top_at) (.inl fun p hp => by
        have h1 := (hok p hp).1
        cases p with
        | nil => exact absurd rfl h1
        | cons a r => rfl)
      have ety : ∀ X : Sto, tyB "list" (S1 ++ X) (.loc S.length) = true := fun X => tyB_loc (low_at (by rw [hS1]; exact top_at))
      simp! [ety, hsr]
      have q3 : k < lim := by unfold lim; omega
      rw [hS1, List.append_assoc, List.cons_append, top_append, if_pos (by
        rw [List.length_map, List.length_map, List.length_take]
        unfold lim
        omega)]
      simp! []
      refine ⟨T ++ [.lst ((wpSome shape name st).map partD)], ?_, _, _, _, _, _, rfl⟩
      rw [take_succ hst]
      simp only [List.map_append, List.map_cons, List.map_nil]
  · rintro L S1 ⟨T, rfl, o3, o4, o5, o6, o7, rfl⟩
    rw [List.length_map, List.take_length]
    simp! []
    rw [gc_lst hS (cleans_map _ _ fun l _ => clean_lot l)]
    exact ⟨rfl, rfl⟩
/-! ## shapes_of -/
theorem lc2_map {α β : Type} {g g1 : MG} {mi1 : MI} {vs1 : List Nat} {e : ME} {L : MM.Loc} {gd : Grd} {S : Sto} (h : α → List β) (f : β → D) (enc : α → D) (enc1 : β → D) (hg : grdOk gd S) :
    ∀ (zs : List α) (acc : List D), (∀ z ∈ zs, ∃ L1, g (enc z) L S = .ok L1 S ∧ mi1 L1 S = .ok ⟨(h z).map enc1, none⟩ S ∧ ∀ y ∈ h z, ∃ L2, g1 (enc1 y) (wipeL L1 vs1) S = .ok L2 S ∧ e L2 S = .ok (f y) S) → acc.length + (zs.flatMap h).length ≤ lim →
    lcF2 g mYes mi1 vs1 g1 mYes e L gd (zs.map enc) acc S = .ok (acc ++ (zs.flatMap h).map f) S
  | [], acc, _, _ => by
    unfold lcF2
    rw [List.map_nil]
    simp only
    rw [if_pos hg]
    simp
  | z :: zs, acc, hh, hl => by
    obtain ⟨L1, h1, h2, h3⟩ := hh z (by simp)
    rw [List.flatMap_cons, List.length_append] at hl
    unfold lcF2
    rw [List.map_cons]
    simp only
    have h4 := lc_flt (c := mYes) (gd := none) (S := S) (e := e) (g := g1) (L := wipeL L1 vs1) (fun _ => true) f enc1 trivial (h z) acc (fun y hy => by
      obtain ⟨L2, a, b⟩ := h3 y hy
      exact ⟨L2, a, rfl, fun _ => b⟩) (by omega)
    rw [List.filter_eq_self.mpr (fun _ _ => rfl)] at h4
    rw [if_pos hg, h1, bind_ok, show mYes L1 S = .ok true S from rfl, bind_ok, if_pos rfl, h2, bind_ok]
    simp only
    rw [h4, bind_ok, lc2_map h f enc enc1 hg zs _ (fun y hy => hh y (by simp [hy])) (by rw [List.length_append, List.length_map]; omega), List.flatMap_cons]
    simp
structure FOk (m q : Nat) (fs : List (List Part)) : Prop where
  len : fs.length ≤ m
  sh : ∀ sh ∈ fs, sh ≠ [] ∧ sh.length ≤ q
  po : ∀ sh ∈ fs, ∀ p ∈ sh, POk p ∧ p.length ≤ q
noncomputable def stepF (fs : List (List Part)) (name : Str) : List (List Part) := fs.flatMap fun sh => withP sh name
theorem flatMap_len {α β : Type} (h : α → List β) (q : Nat) : ∀ zs : List α, (∀ z ∈ zs, (h z).length ≤ q) → (zs.flatMap h).length ≤ zs.length * q
  | [], _ => by simp
  | z :: zs, hh => by
    rw [List.flatMap_cons, List.length_append, List.length_cons, Nat.add_mul, Nat.one_mul]
    have h1 := hh z (by simp)
    have h2 := flatMap_len h q zs fun y hy => hh y (by simp [hy])
    omega
theorem wpSome_plen {shape : List Part} {name : Str} {st : Part} {q : Nat} (h : ∀ p ∈ shape, p.length ≤ q) (hst : st ∈ shape) : ∀ p ∈ wpSome shape name st, p.length ≤ q + 1 := by
  intro p hp
  unfold wpSome at hp
  have h0 := h st hst
  rcases List.mem_append.mp hp with h1 | h1
  · simp only [List.mem_cons, List.not_mem_nil, or_false] at h1
    rcases h1 with rfl | rfl | rfl
    · simp
    · omega
    · simp; omega
  · obtain ⟨o, ho, rfl⟩ := List.mem_map.mp h1
    have h2 := h o (List.mem_filter.mp ho).1
    unfold wide1
    split
    · simp; omega
    · omega
theorem FOk.step {m q : Nat} {fs : List (List Part)} (F : FOk m q fs) {name : Str} (hn : PyData.strOk name = true) : FOk (m * q) (q + 3) (stepF fs name) := by
  refine ⟨?_, fun sh hsh => ?_, fun sh hsh p hp => ?_⟩
  · have h1 := flatMap_len (fun sh => withP sh name) q fs fun sh hsh => by unfold withP; rw [List.length_map]; exact (F.sh sh hsh).2
    exact Nat.le_trans h1 (Nat.mul_le_mul_right _ F.len)
  · obtain ⟨s0, hs0, hsh⟩ := List.mem_flatMap.mp hsh
    obtain ⟨st, hst, rfl⟩ := List.mem_map.mp hsh
    have h1 := wpSome_len (shape := s0) (name := name) (st := st)
    have h2 := (F.sh s0 hs0).2
    refine ⟨fun e => ?_, by rw [srt_length]; omega⟩
    have := srt_length partD (wpSome s0 name st)
    rw [e] at this
    simp at this
    omega
  · obtain ⟨s0, hs0, hsh⟩ := List.mem_flatMap.mp hsh
    obtain ⟨st, hst, rfl⟩ := List.mem_map.mp hsh
    rw [srt_mem] at hp
    exact ⟨wpSome_ok (fun p hp => (F.po s0 hs0 p hp).1) hst hn p hp, Nat.le_trans (wpSome_plen (fun p hp => (F.po s0 hs0 p hp).2) hst p hp) (by omega)⟩
noncomputable def foldS (b : Str) (rest : List Str) : List (List Part) := rest.foldl stepF [[[b]]]
noncomputable def shapesF (names : List Str) : List (List Part) := match names with
  | _ :: b :: rest => srt lotD (foldS b rest)
  | _ => []
theorem FOk.mono {m q m' q' : Nat} {fs : List (List Part)} (F : FOk m q fs) (h1 : m ≤ m') (h2 : q ≤ q') : FOk m' q' fs :=
  ⟨Nat.le_trans F.len h1, fun sh hs => ⟨(F.sh sh hs).1, Nat.le_trans (F.sh sh hs).2 h2⟩, fun sh hs p hp => ⟨(F.po sh hs p hp).1, Nat.le_trans (F.po sh hs p hp).2 h2⟩⟩
def mq : Nat → Nat × Nat
  | 0 => (1, 1)
  | k + 1 => ((mq k).1 * (mq k).2, (mq k).2 + 3)
theorem foldS_ok {b : Str} (hb : PyData.strOk b = true) : ∀ (k : Nat) (rest : List Str), rest.length = k → (∀ x ∈ rest, PyData.strOk x = true) → FOk (mq k).1 (mq k).2 (foldS b rest) := by
  intro k
  induction k with
  | zero =>
    intro rest hl _
    have : rest = [] := List.length_eq_zero_iff.mp hl
    subst this
    refine ⟨Nat.le_refl 1, fun sh hs => ?_, fun sh hs p hp => ?_⟩
    · have e : sh = [[b]] := by simpa [foldS] using hs
      subst e
      exact ⟨by simp, Nat.le_refl 1⟩
    · have e : sh = [[b]] := by simpa [foldS] using hs
      subst e
      have e2 : p = [b] := by simpa using hp
      subst e2
      exact ⟨⟨by simp, fun x hx => by rw [List.mem_singleton.mp hx]; exact hb⟩, Nat.le_refl 1⟩
  | succ k ih =>
    intro rest hl hr
    have hne : rest ≠ [] := fun e => by rw [e] at hl; simp at hl
    have e : rest = rest.dropLast ++ [rest.getLast hne] := (List.dropLast_concat_getLast hne).symm
    have h1 := ih rest.dropLast (by rw [List.length_dropLast]; omega) fun x hx => hr x (List.dropLast_subset _ hx)
    have h2 := h1.step (hr _ (List.getLast_mem hne))
    have e2 : foldS b rest = stepF (foldS b rest.dropLast) (rest.getLast hne) := by
      conv => lhs; rw [e]
      unfold foldS
      rw [List.foldl_append]
      rfl
    rw [e2]
    exact h2
theorem mq_small {k : Nat} (h : k ≤ 4) : (mq k).1 ≤ 280 ∧ (mq k).2 ≤ 13 := by
  have : k = 0 ∨ k = 1 ∨ k = 2 ∨ k = 3 ∨ k = 4 := by omega
  rcases this with rfl | rfl | rfl | rfl | rfl <;> decide
theorem foldS_small {b : Str} {rest : List Str} (hb : PyData.strOk b = true) (hr : ∀ x ∈ rest, PyData.strOk x = true) (hl : rest.length ≤ 4) : FOk 280 13 (foldS b rest) := by
  have h := mq_small hl
  exact (foldS_ok hb rest.length rest rfl hr).mono h.1 h.2
theorem d_shapes_of {S : Sto} (hS : Cl S) {a b : Str} {rest : List Str} (hb : PyData.strOk b = true) (hr : ∀ x ∈ rest, PyData.strOk x = true) (hl : rest.length ≤ 4) :
    f_shapes_of [.tup ((a :: b :: rest).map .str)] S = .ok (.lst ((shapesF (a :: b :: rest)).map lotD)) S := by
  apply of_ev
  show Ev ((b_shapes_of [some (.tup ((a :: b :: rest).map .str)), none, none, none, none] S).bind endF) _
  unfold b_shapes_of
  have ea : (a :: b :: rest).map D.str = .str a :: .str b :: rest.map .str := rfl
  simp! [sl_tup, asInt_int, ea, cut_12, show cutL (D.str a :: D.str b :: rest.map D.str) (some 2) none = rest.map D.str from cut_from _ 2]
  refine ev_for (gd := none) (fun k L S1 => S1 = S ∧ ∃ o2 o3 o4, L = [some (.tup (.str a :: .str b :: rest.map .str)), some (.lst ((foldS b (rest.take k)).map lotD)), o2, o3, o4]) (fun _ _ _ _ => trivial) ?_ ?_ ⟨rfl, _, _, _, rfl⟩
  · rintro k e L S1 hk ⟨rfl, o2, o3, o4, rfl⟩
    obtain ⟨x, hx, rfl⟩ := map_at hk
    have hkl := (List.getElem?_eq_some_iff.mp hx).1
    have F := foldS_small (b := b) (rest := rest.take k) hb (fun y hy => hr y (List.mem_of_mem_take hy)) (by rw [List.length_take]; omega)
    have hx2 := hr x (List.mem_of_getElem? hx)
    have G := F.step hx2
    have e1 : foldS b (rest.take (k + 1)) = stepF (foldS b (rest.take k)) x := by
      rw [take_succ hx]
      unfold foldS
      rw [List.foldl_append]
      rfl
    simp! []
    rw [lc2_map (gd := none) (fun sh => withP sh x) lotD lotD lotD trivial (foldS b (rest.take k)) [] (fun sh hsh => ⟨_, rfl, by
      have h1 := F.sh sh hsh
      simp! [d_with_place hS (fun p hp => (F.po sh hsh p hp).1) hx2 (by omega) (fun p hp => by have := (F.po sh hsh p hp).2; omega)], fun y hy => ⟨_, rfl, by simp! []⟩⟩) (by
      have := G.len
      unfold stepF at this
      unfold lim
      simp only [List.length_nil]
      omega)]
    rw [e1]
    simp! [List.nil_append]
    exact ⟨trivial, _, _, _, rfl⟩
  · rintro L S1 ⟨rfl, o2, o3, o4, rfl⟩
    rw [List.length_map, List.take_length]
    have F := foldS_small hb hr hl
    simp! [f_sorted enL (by omega) (S := S1) (xs := foldS b rest) (d := .lst ((foldS b rest).map lotD)) rfl (.inl fun sh hsh => by
      have h1 := (F.sh sh hsh).1
      cases sh with
      | nil => exact absurd rfl h1
      | cons a r => rfl)]
    exact ⟨rfl, trivial⟩
theorem shapesF_ok {a b : Str} {rest : List Str} (hb : PyData.strOk b = true) (hr : ∀ x ∈ rest, PyData.strOk x = true) (hl : rest.length ≤ 4) : FOk 280 13 (shapesF (a :: b :: rest)) := by
  have F := foldS_small hb hr hl
  show FOk 280 13 (srt lotD (foldS b rest))
  exact ⟨by rw [srt_length]; exact F.len, fun sh h => F.sh sh (srt_mem.mp h), fun sh h => F.po sh (srt_mem.mp h)⟩
end Wk
set_option linter.all false
set_option maxRecDepth 100000
set_option maxHeartbeats 2000000
namespace Wk
open PySem PySem.Spec PyProof.Rows L2 MM
/-! ## the fullest lot -/
abbrev LOk (l : List Part) : Prop := ∀ p ∈ l, ∀ x ∈ p, PyData.strOk x = true
def hasAll (lot other : List Part) : Bool := other.all fun p => decide (p ∈ lot)
theorem d_has_all {S : Sto} {lot other : List Part} (h1 : LOk lot) (h2 : LOk other) (hl : other.length ≤ 1000) : f_has_all [lotD lot, lotD other] S = .ok (.bl (hasAll lot other)) S := by
  apply of_ev
  show Ev ((b_has_all [some (lotD lot), some (lotD other), none] S).bind endF) _
  unfold b_has_all
  simp! []
  rw [lc_map (gd := none) (f := fun p => D.bl (decide (p ∈ lot))) partD trivial other (fun p hp => ⟨_, rfl, by
    simp! [o_inTup En.str (by omega) (S := S) (x := p) (ys := lot) (d := lotD lot) (h2 p hp) h1 (.inr rfl)]⟩) (by unfold lim; omega)]
  have eb : (other.map fun p => D.bl (decide (p ∈ lot))) = (other.map fun p => decide (p ∈ lot)).map .bl := by rw [List.map_map]; rfl
  rw [eb]
  simp! [f_allL]
  refine ⟨?_, trivial⟩
  rw [List.all_map]
  rfl
def pick (shape : List Part) (ms : List Bool) : List Part := ((shape.zip ms).filter (·.2)).map (·.1)
noncomputable def lotF (cs : List Clm) (shape : List Part) : Option (List Part) := (SM.marks (cs.map (rowC shape)) shape.length).map (pick shape)
theorem lotF_set {cs cs2 : List Clm} (h : ∀ c, c ∈ cs ↔ c ∈ cs2) (shape : List Part) : lotF cs shape = lotF cs2 shape := by
  unfold lotF
  rw [SM.marks_set fun r => ?_]
  simp only [List.mem_map]
  exact exists_congr fun c => and_congr_left fun _ => h c
theorem pick_sub {shape : List Part} {ms : List Bool} : ∀ p ∈ pick shape ms, p ∈ shape := by
  intro p hp
  unfold pick at hp
  obtain ⟨z, hz, rfl⟩ := List.mem_map.mp hp
  exact (List.of_mem_zip (List.mem_filter.mp hz).1).1
theorem pick_len {shape : List Part} {ms : List Bool} : (pick shape ms).length ≤ shape.length := by
  unfold pick
  rw [List.length_map]
  refine Nat.le_trans (List.length_filter_le _ _) ?_
  rw [List.length_zip]
  omega
def lotO : Option (List Part) → D
  | none => .non
  | some l => lotD l
theorem isNon_lot (o : Option (List Part)) : isNon (lotO o) = o.isNone := by cases o <;> rfl
theorem d_fullest_lot {S : Sto} (hS : Cl S) {cs : List Clm} {shape : List Part} (h : ∀ c ∈ cs, ClmOk c) (hl : cs.length ≤ 19) (hs : shape ≠ []) (hsl : shape.length ≤ 1000) : f_fullest_lot [.tup (cs.map clmD), lotD shape] S = .ok (lotO (lotF cs shape)) S := by
  apply of_ev
  show Ev ((b_fullest_lot [some (.tup (cs.map clmD)), some (lotD shape), none, none, none, none] S).bind endF) _
  unfold b_fullest_lot
  have hne : ¬ (shape.length : Int) = 0 := fun e => hs (List.length_eq_zero_iff.mp (by omega))
  have df := d_fullest hS (cs.map (rowC shape)) shape.length (by rw [List.length_map]; exact hl) hsl (fun r hr => by
    obtain ⟨c, _, rfl⟩ := List.mem_map.mp hr
    simp [rowC]) (fun r hr x hx => by
    obtain ⟨c, hc, rfl⟩ := List.mem_map.mp hr
    obtain ⟨p, _, rfl⟩ := List.mem_map.mp hx
    exact gapN_abs (h c hc) p)
  simp! [List.length_map, hne, d_rows_of h (by omega) hsl, df]
  unfold fullD lotF SM.marks
  cases hf : SM.full (cs.map (rowC shape)) shape.length with
  | none =>
    simp! []
    exact ⟨rfl, trivial⟩
  | some l =>
    have hl2 := (SM.full_ok hf).1
    simp! [x_zp, zpT, zipD_map]
    rw [lc_flt (gd := none) (fun z : Part × Int => decide (0 < z.2)) (fun z : Part × Int => partD z.1) (fun z : Part × Int => D.tup [partD z.1, .int z.2]) trivial (shape.zip l) [] (fun z hz => ⟨_, rfl, by simp! [], fun _ => by simp! []⟩) (by
      rw [List.length_zip]
      unfold lim
      simp only [List.length_nil]
      omega)]
    simp! [List.nil_append]
    refine ⟨?_, trivial⟩
    simp only [Option.map_some, lotO]
    show _ = lotD (pick shape (l.map fun i => decide (0 < i)))
    unfold pick lotD
    rw [List.zip_map_right, List.filter_map, List.map_map, List.map_map]
    rfl
/-! ## the lots -/
def addF (found : List (List Part)) (o : Option (List Part)) : List (List Part) := match o with
  | none => found
  | some l => if l ∈ found then found else found ++ [l]
def keepF (found : List (List Part)) : List (List Part) := found.filter fun l => !(found.any fun o => !decide (l = o) && hasAll o l)
noncomputable def foundF (cs : List Clm) (shapes : List (List Part)) : List (List Part) := shapes.foldl (fun found sh => addF found (lotF cs sh)) []
noncomputable def lotsF (names : List Str) (cs : List Clm) : List (List Part) := srt lotD (keepF (foundF cs (shapesF names)))
theorem lotsF_set {cs cs2 : List Clm} (h : ∀ c, c ∈ cs ↔ c ∈ cs2) (names : List Str) : lotsF names cs = lotsF names cs2 := by
  unfold lotsF foundF
  have e : (fun found sh => addF found (lotF cs sh)) = fun found sh => addF found (lotF cs2 sh) := by
    funext found sh
    rw [lotF_set h]
  rw [e]
structure FdOk (found : List (List Part)) (k : Nat) : Prop where
  nd : found.Nodup
  len : found.length ≤ k
  ok : ∀ l ∈ found, LOk l ∧ l.length ≤ 1000
theorem FdOk.add {found : List (List Part)} {k : Nat} (F : FdOk found k) {o : Option (List Part)} (ho : ∀ l, o = some l → LOk l ∧ l.length ≤ 1000) : FdOk (addF found o) (k + 1) := by
  unfold addF
  cases o with
  | none => exact ⟨F.nd, by have := F.len; simp only; omega, F.ok⟩
  | some l =>
    simp only
    by_cases h : l ∈ found
    · rw [if_pos h]
      exact ⟨F.nd, by have := F.len; omega, F.ok⟩
    · rw [if_neg h]
      refine ⟨?_, by have := F.len; simp; omega, fun x hx => ?_⟩
      · rw [List.nodup_append]
        exact ⟨F.nd, by simp, fun a ha b hb e => h (by rw [List.mem_singleton.mp hb] at e; rw [← e]; exact ha)⟩
      · rcases List.mem_append.mp hx with q | q
        · exact F.ok x q
        · rw [List.mem_singleton.mp q]
          exact ho l rfl
theorem keep_one {found : List (List Part)} {k : Nat} (F : FdOk found k) : (∀ l ∈ keepF found, l ≠ []) ∨ (keepF found).length ≤ 1 := by
  by_cases h : [] ∈ keepF found
  · right
    unfold keepF at h
    rw [List.mem_filter] at h
    obtain ⟨h1, h2⟩ := h
    have h3 : ∀ o ∈ found, o = [] := by
      intro o ho
      apply Classical.byContradiction
      intro ne
      have h2 : (found.any fun o => !decide ([] = o) && hasAll o []) = false := by simpa using h2
      rw [List.any_eq_false] at h2
      have h4 := h2 o ho
      apply h4
      simp [hasAll, Ne.symm ne]
    have h5 : found.length ≤ 1 := by
      have hnd := F.nd
      match found, h3, hnd with
      | [], _, _ => simp
      | [a], _, _ => simp
      | a :: b :: r, h3, hnd =>
        have e1 := h3 a (by simp)
        have e2 := h3 b (by simp)
        rw [e1, e2] at hnd
        simp at hnd
    exact Nat.le_trans (List.length_filter_le _ _) h5
  · left
    intro l hl e
    rw [e] at hl
    exact h hl
theorem foundF_ok {cs : List Clm} {shapes : List (List Part)} (hs : ∀ sh ∈ shapes, LOk sh ∧ sh.length ≤ 1000) : ∀ k, FdOk (foundF cs (shapes.take k)) k
  | 0 => ⟨by simp [foundF], by simp [foundF], fun l h => by simp [foundF] at h⟩
  | k + 1 => by
    have ih := foundF_ok hs (cs := cs) k
    cases hx : shapes[k]? with
    | none =>
      have : shapes.take (k + 1) = shapes.take k := by
        rw [List.take_of_length_le (by have := List.getElem?_eq_none_iff.mp hx; omega), List.take_of_length_le (List.getElem?_eq_none_iff.mp hx)]
      rw [this]
      exact ⟨ih.nd, by have := ih.len; omega, ih.ok⟩
    | some sh =>
      have e : foundF cs (shapes.take (k + 1)) = addF (foundF cs (shapes.take k)) (lotF cs sh) := by
        rw [take_succ hx]
        unfold foundF
        rw [List.foldl_append]
        rfl
      rw [e]
      refine ih.add fun l hl => ?_
      have h1 := hs sh (List.mem_of_getElem? hx)
      unfold lotF at hl
      obtain ⟨ms, _, rfl⟩ := Option.map_eq_some_iff.mp hl
      exact ⟨fun p hp => h1.1 p (pick_sub p hp), Nat.le_trans pick_len h1.2⟩
theorem d_lots_for {S : Sto} (hS : Cl S) {a b : Str} {rest : List Str} (hb : PyData.strOk b = true) (hr : ∀ x ∈ rest, PyData.strOk x = true) (hl : rest.length ≤ 4) {cs : List Clm} (h : ∀ c ∈ cs, ClmOk c) (hcl : cs.length ≤ 19) :
    f_lots_for [.tup ((a :: b :: rest).map .str), .tup (cs.map clmD)] S = .ok (.lst ((lotsF (a :: b :: rest) cs).map lotD)) S := by
  apply of_ev
  show Ev (((b_lots_for [some (.tup ((a :: b :: rest).map .str)), some (.tup (cs.map clmD)), none, none, none, none] S).bind endF).bind (gc S.length)) _
  unfold b_lots_for
  have clf : ∀ fs : List (List Part), Cl (S ++ [.lst (fs.map lotD)]) := fun fs => hS.app fun c hc => by
    rw [List.mem_singleton.mp hc]
    exact cleans_map _ _ fun l _ => clean_lot l
  have G := shapesF_ok (a := a) hb hr hl
  have hs : ∀ sh ∈ shapesF (a :: b :: rest), LOk sh ∧ sh.length ≤ 1000 := fun sh hsh => ⟨fun p hp => (G.po sh hsh p hp).1.2, by have := (G.sh sh hsh).2; omega⟩
  simp! [Nat.zero_le, d_shapes_of (clf []) hb hr hl, show S ++ [Cell.lst []] = S ++ [.lst (([] : List (List Part)).map lotD)] from rfl]
  generalize hsh : shapesF (a :: b :: rest) = shapes at *
  refine ev_for (gd := none) (fun k L S1 => S1 = S ++ [.lst ((foundF cs (shapes.take k)).map lotD)] ∧ ∃ o3 o4 o5, L = [some (.tup ((a :: b :: rest).map .str)), some (.tup (cs.map clmD)), some (.loc S.length), o3, o4, o5]) (fun _ _ _ _ => trivial) ?_ ?_ ⟨rfl, _, _, _, rfl⟩
  · rintro k e L S1 hk ⟨rfl, o3, o4, o5, rfl⟩
    obtain ⟨sh, hx, rfl⟩ := map_at hk
    have hm := List.mem_of_getElem? hx
    have hkl := (List.getElem?_eq_some_iff.mp hx).1
    have h1 := G.sh sh hm
    have F := foundF_ok (cs := cs) hs k
    have e1 : foundF cs (shapes.take (k + 1)) = addF (foundF cs (shapes.take k)) (lotF cs sh) := by
      rw [take_succ hx]
      unfold foundF
      rw [List.foldl_append]
      rfl
    rw [e1]
    generalize foundF cs (shapes.take k) = found at *
    simp! [d_fullest_lot (clf found) h hcl h1.1 (by omega), isNon_lot]
    cases hf : lotF cs sh with
    | none =>
      simp! [Option.isNone_none]
      exact ⟨rfl, _, _, _, rfl⟩
    | some l =>
      have hlo : LOk l := by
        unfold lotF at hf
        obtain ⟨ms, _, rfl⟩ := Option.map_eq_some_iff.mp hf
        exact fun p hp => (hs sh hm).1 p (pick_sub p hp)
      have en : oNin (lotD l) (.loc S.length) (S ++ [.lst (found.map lotD)]) = .ok (.bl (!decide (l ∈ found))) (S ++ [.lst (found.map lotD)]) := (o_ninTup enP (by omega) hlo (fun y hy => (F.ok y hy).1) (.inl (asLst_loc top_at))).trans (by congr)
      simp! [Option.isNone_some, lotO, en]
      by_cases c : l ∈ found
      · simp! [c]
        have e2 : addF found (some l) = found := if_pos c
        rw [e2]
        exact ⟨rfl, _, _, _, rfl⟩
      · have q : found.length < lim := by
          have := F.len
          have := G.len
          unfold lim
          omega
        simp! [c, top_tyB, top_append, List.length_map, q]
        have e2 : addF found (some l) = found ++ [l] := if_neg c
        rw [e2, List.map_append]
        exact ⟨rfl, _, _, _, rfl⟩
  · rintro L S1 ⟨rfl, o3, o4, o5, rfl⟩
    rw [List.length_map, List.take_length]
    have F := foundF_ok (cs := cs) hs shapes.length
    rw [List.take_length] at F
    have hGl := G.len
    have ef : lotsF (a :: b :: rest) cs = srt lotD (keepF (foundF cs shapes)) := by
      unfold lotsF
      rw [hsh]
    rw [ef]
    generalize foundF cs shapes = found at *
    have hfl : found.length ≤ lim := by
      have := F.len
      unfold lim
      omega
    simp! [top_items]
    rw [lc_flt (gd := some (S.length, found.map lotD)) (fun l : List Part => !(found.any fun o => !decide (l = o) && hasAll o l)) lotD lotD top_grd found [] (fun l hlm => ⟨_, rfl, by
      have h1 := F.ok l hlm
      simp! [top_items]
      rw [lc_map (gd := some (S.length, found.map lotD)) (f := fun o => D.bl (!decide (l = o) && hasAll o l)) lotD top_grd found (fun o ho => ⟨_, rfl, by
        have h2 := F.ok o ho
        have hne := o_neE enL (by omega) (S := S ++ [.lst (found.map lotD)]) (x := l) (y := o) h1.1 h2.1
        simp! [hne, d_has_all h2.1 h1.1 h1.2]
        by_cases c : l = o
        · simp [c]
        · simp [c]⟩) hfl]
      have eb : (found.map fun o => D.bl (!decide (l = o) && hasAll o l)) = (found.map fun o => !decide (l = o) && hasAll o l).map .bl := by rw [List.map_map]; rfl
      rw [eb]
      simp! [f_anyL]
      rw [List.any_map]
      rfl, fun _ => by simp! []⟩) (by simp only [List.length_nil]; omega)]
    rw [List.nil_append]
    have ek : (found.filter fun l : List Part => !(found.any fun o => !decide (l = o) && hasAll o l)) = keepF found := rfl
    rw [ek]
    have hk := keep_one F
    simp! [f_sorted enL (by omega) (S := S ++ [.lst (found.map lotD)]) (xs := keepF found) (d := .lst ((keepF found).map lotD)) rfl (by
      rcases hk with hk | hk
      · refine .inl fun l hl => ?_
        have := hk l hl
        cases l with
        | nil => exact absurd rfl this
        | cons a r => rfl
      · exact .inr (.inr ⟨hk, fun _ _ => rfl⟩))]
    rw [gc_val hS (show clean S.length (.lst _) = true from cleans_map _ _ fun l _ => clean_lot l)]
    exact ⟨rfl, rfl⟩
end Wk
set_option linter.all false
set_option maxRecDepth 100000
set_option maxHeartbeats 2000000
namespace Wk
open PySem PySem.Spec PyProof.Rows L2 MM
/-! # names, places, claims looked at -/
abbrev LET : Str := "abcdefghijklmnopqrstuvwxyz"
structure NameOk (x : Str) : Prop where
  l1 : 1 ≤ x.length
  l8 : x.length ≤ 8
  let_ : ∀ c ∈ x.cps.toList, c ∈ LET.cps.toList
theorem LET_lt : ∀ c ∈ LET.cps.toList, c < 0x110000 := by decide +kernel
theorem NameOk.str {x : Str} (h : NameOk x) : PyData.strOk x = true := by
  unfold PyData.strOk
  rw [Array.all_eq_true_iff_forall_mem]
  intro c hc
  exact decide_eq_true (LET_lt c (h.let_ c (by simpa using hc)))
theorem in_sign {S : Sto} {c : Nat} {z : Str} : oIn (signD c) (.str z) S = .ok (.bl (decide (c ∈ z.cps.toList))) S := by
  unfold oIn orOp
  have : inSign false (signD c) (.str z) S = .ok (.bl (decide (c ∈ z.cps.toList))) S := by
    unfold inSign signD
    simp only [asStr, oneSign]
    rw [Bool.false_xor]
  rw [this]
theorem d_is_name {S : Sto} {x : Str} (h : NameOk x) : f_is_name [.str x] S = .ok (.bl true) S := by
  apply of_ev
  show Ev ((b_is_name [some (.str x), none] S).bind endF) _
  unfold b_is_name
  have hl : x.length ≤ lim := by have := h.l8; unfold lim; omega
  have h1 : (1 : Int) ≤ (x.length : Int) := by have := h.l1; omega
  have h8 : (x.length : Int) ≤ 8 := by have := h.l8; omega
  simp! [isi_str_str, f_lenX hl, h1, h8]
  rw [lc_map (gd := none) (f := fun c => D.bl true) signD trivial x.cps.toList (fun c hc => ⟨_, rfl, by
    have := h.let_ c hc
    simp! [in_sign, this]⟩) (by
    have := h.l8
    have e : x.cps.toList.length = x.length := by simp [Str.length]
    rw [e]
    exact hl)]
  have eb : (x.cps.toList.map fun c => D.bl true) = (x.cps.toList.map fun _ => true).map .bl := by rw [List.map_map]; rfl
  rw [eb]
  simp! [f_allL]
  refine ⟨?_, trivial⟩
  simp
theorem cntD_nodup : ∀ (xs : List Str), xs.Nodup → ∀ i, i ≤ xs.length → cntD xs i = i := by
  intro xs hn i
  induction i with
  | zero => intro _; rfl
  | succ i ih =>
    intro hi
    have h1 := ih (by omega)
    unfold cntD
    rw [h1, if_neg]
    intro h
    rw [List.any_eq_true] at h
    obtain ⟨y, hy, e⟩ := h
    have e : y = xs.getD i Str.empty := by simpa using e
    obtain ⟨j, hj, e2⟩ := List.mem_iff_getElem.mp hy
    rw [List.length_take] at hj
    rw [List.getElem_take] at e2
    have e3 : xs.getD i Str.empty = xs[i] := by simp [List.getD, show i < xs.length by omega]
    rw [e3, ← e2] at e
    have := nd_ix hn (List.getElem?_eq_getElem (show j < xs.length by omega)) (by rw [e]; exact List.getElem?_eq_getElem (show i < xs.length by omega))
    omega
structure NamesOk (ns : List Str) : Prop where
  ok : ∀ x ∈ ns, NameOk x
  nd : ns.Nodup
  l2 : 2 ≤ ns.length
  l6 : ns.length ≤ 6
theorem d_is_list {S : Sto} {xs : List D} : f_is_list [.lst xs] S = .ok (.bl true) S := by
  apply of_ev
  show Ev ((b_is_list [some (.lst xs)] S).bind endF) _
  unfold b_is_list
  simp! [isi_lst_lt]
theorem d_is_places {S : Sto} {ns : List Str} (h : NamesOk ns) : f_is_places [.lst (ns.map .str)] S = .ok (.bl true) S := by
  apply of_ev
  show Ev ((b_is_places [some (.lst (ns.map .str)), none] S).bind endF) _
  unfold b_is_places
  have h1 : (2 : Int) ≤ (ns.length : Int) := by have := h.l2; omega
  have h8 : (ns.length : Int) ≤ 6 := by have := h.l6; omega
  simp! [d_is_list, List.length_map, h1, h8]
  rw [lc_map (gd := none) (f := fun c => D.bl true) D.str trivial ns (fun c hc => ⟨_, rfl, by simp! [d_is_name (h.ok c hc)]⟩) (by have := h.l6; unfold lim; omega)]
  have eb : (ns.map fun c => D.bl true) = (ns.map fun _ => true).map .bl := by rw [List.map_map]; rfl
  rw [eb]
  have ea : ((ns.map fun _ => true).all id) = true := by simp
  have el : lenTx (.lst (ns.map .str)) S = .ok (.int (ns.length : Int)) S := by
    unfold lenTx
    rw [seqD_lst]
    simp only [Option.bind_some, asStrs_map]
    rw [if_pos (by have := h.l6; omega), cntD_nodup ns h.nd _ (Nat.le_refl _)]
  have em : ∀ (L : MM.Loc), mLenSet (mVar 0) (some (.lst (ns.map .str)) :: L) S = .ok (.int (ns.length : Int)) S := fun L => by
    unfold mLenSet
    simp! [el]
  simp! [f_allL, ea, em, List.length_map]
noncomputable def ordN (ns : List Str) : List Str := srt D.str ns
theorem d_ordered {S : Sto} {ns : List Str} : f_ordered [.lst (ns.map .str)] S = .ok (.tup ((ordN ns).map .str)) S := by
  apply of_ev
  show Ev ((b_ordered [some (.lst (ns.map .str))] S).bind endF) _
  unfold b_ordered
  simp! [f_sorted En.str (by omega) (S := S) (xs := ns) (d := .lst (ns.map .str)) rfl (.inr (.inl fun _ _ => rfl))]
  exact ⟨rfl, trivial⟩
theorem d_need_places {S : Sto} {ns : List Str} (h : NamesOk ns) : f_need_places [.lst (ns.map .str)] S = .ok (.tup ((ordN ns).map .str)) S := by
  apply of_ev
  show Ev ((b_need_places [some (.lst (ns.map .str))] S).bind endF) _
  unfold b_need_places
  simp! [d_is_places h, d_ordered]
/-! ## points and claims -/
def PtIn (ns : List Str) : Pt → Prop
  | .nm x => x ∈ ns
  | .fk a b c => PtIn ns a ∧ PtIn ns b ∧ PtIn ns c
theorem ok_fork : PyData.strOk "fork" = true := by decide +kernel
theorem ne_fork {S : Sto} : oNe (.str "fork") (.str "fork") S = .ok (.bl false) S := by
  rw [o_neS ok_fork ok_fork]
  simp
theorem d_is_point {S : Sto} {ns : List Str} : ∀ (k : Nat) (t : Pt), t.dep < k → PtIn ns t → f_is_point_of k [.tup (ns.map .str), t.d] S = .ok (.bl true) S
  | 0, _, h, _ => absurd h (Nat.not_lt_zero _)
  | k + 1, t, h, hp => by
    apply of_ev
    show Ev ((b_is_point_of (f_is_point_of k) [some (.tup (ns.map .str)), some t.d, none] S).bind endF) _
    unfold b_is_point_of
    cases t with
    | nm x =>
      have e : (Pt.nm x).d = .str x := rfl
      have hx : x ∈ ns := hp
      rw [e]
      simp! [isi_str_str, o_inStr (S := S) (x := x) (ys := ns) (d := .tup (ns.map .str)) rfl, hx]
    | fk a b c =>
      have e : (Pt.fk a b c).d = .tup [.str "fork", a.d, b.d, c.d] := rfl
      have hd : (Pt.fk a b c).dep = max a.dep (max b.dep c.dep) + 1 := rfl
      obtain ⟨ha, hb, hc⟩ : PtIn ns a ∧ PtIn ns b ∧ PtIn ns c := hp
      rw [hd] at h
      have g0 : oIx (.tup [.str "fork", a.d, b.d, c.d]) (.int 0) S = .ok (.str "fork") S := o_ixT 0 rfl
      have l4 : ∀ m : Int, m = 4 → (m = 4) = True := fun m h => eq_true h
      rw [e]
      simp! [isi_tup_str, isi_tup_tup, x_ix, g0, isi_str_str, ne_fork, sl_tup, asInt_int, cut3]
      have e4 : (((0 + 1 + 1 + 1 + 1 : Nat) : Int) = 4) = True := eq_true rfl
      have em : [a.d, b.d, c.d] = [a, b, c].map Pt.d := rfl
      have e5 : ((4 : Nat) : Int) = 4 := rfl
      simp! [e5, sl_tup, asInt_int, cut3]
      rw [em, lc_map (gd := none) (f := fun z => D.bl true) Pt.d trivial [a, b, c] (fun z hz => ⟨_, rfl, by
        have hz2 : z.dep < k ∧ PtIn ns z := by
          simp only [List.mem_cons, List.not_mem_nil, or_false] at hz
          rcases hz with rfl | rfl | rfl
          · exact ⟨by omega, ha⟩
          · exact ⟨by omega, hb⟩
          · exact ⟨by omega, hc⟩
        simp! [d_is_point k z hz2.1 hz2.2]⟩) (by simp only [List.length_cons, List.length_nil]; unfold lim; omega)]
      have es : ([a, b, c].map fun z => D.bl true) = [true, true, true].map .bl := rfl
      rw [es]
      simp! [f_allL]
      exact ⟨rfl, trivial⟩
end Wk
set_option linter.all false
set_option maxRecDepth 100000
set_option maxHeartbeats 2000000
namespace Wk
open PySem PySem.Spec PyProof.Rows L2 MM
structure TermIn (ns : List Str) (t : Term) : Prop where
  a : t.2.1.dep < 8 ∧ PtIn ns t.2.1
  b : t.2.2.dep < 8 ∧ PtIn ns t.2.2
  n : 1 ≤ t.1
structure SumIn (ns : List Str) (s : List Term) : Prop where
  len : s.length ≤ 4
  all : ∀ t ∈ s, TermIn ns t
theorem d_is_number {S : Sto} {i : Int} : f_is_number [.int i] S = .ok (.bl true) S := by
  apply of_ev
  show Ev ((b_is_number [some (.int i)] S).bind endF) _
  unfold b_is_number
  simp! [isi_int_int, isi_int_bool]
theorem three : ((3 : Nat) : Int) = 3 := rfl
theorem d_is_term {S : Sto} {ns : List Str} {t : Term} (h : TermIn ns t) : f_is_term [.tup (ns.map .str), termD t] S = .ok (.bl true) S := by
  apply of_ev
  show Ev ((b_is_term [some (.tup (ns.map .str)), some (termD t)] S).bind endF) _
  unfold b_is_term
  have e : termD t = .tup [.int t.1, t.2.1.d, t.2.2.d] := rfl
  have g0 : oIx (.tup [.int t.1, t.2.1.d, t.2.2.d]) (.int 0) S = .ok (.int t.1) S := o_ixT 0 rfl
  have g1 : oIx (.tup [.int t.1, t.2.1.d, t.2.2.d]) (.int 1) S = .ok t.2.1.d S := o_ixT 1 rfl
  have g2 : oIx (.tup [.int t.1, t.2.1.d, t.2.2.d]) (.int 2) S = .ok t.2.2.d S := o_ixT 2 rfl
  have hn : ¬ t.1 < 1 := by have := h.n; omega
  rw [e]
  simp! [isi_tup_tup, x_ix, g0, g1, g2]
  simp! [three, d_is_number, hn, g0, g1, g2, d_is_point 8 _ h.a.1 h.a.2, d_is_point 8 _ h.b.1 h.b.2]
theorem d_is_sum {S : Sto} {ns : List Str} {s : List Term} (h : SumIn ns s) : f_is_sum [.tup (ns.map .str), sumD s] S = .ok (.bl true) S := by
  apply of_ev
  show Ev ((b_is_sum [some (.tup (ns.map .str)), some (sumD s), none] S).bind endF) _
  unfold b_is_sum
  have e : sumD s = .tup (s.map termD) := rfl
  have h4 : ¬ (4 : Int) < (s.length : Int) := by have := h.len; omega
  rw [e]
  simp! [isi_tup_tup, List.length_map, h4]
  rw [lc_map (gd := none) (f := fun z => D.bl true) termD trivial s (fun z hz => ⟨_, rfl, by simp! [d_is_term (h.all z hz)]⟩) (by have := h.len; unfold lim; omega)]
  have eb : (s.map fun c => D.bl true) = (s.map fun _ => true).map .bl := by rw [List.map_map]; rfl
  have ea : ((s.map fun _ => true).all id) = true := by simp
  rw [eb]
  simp! [f_allL, ea]
structure ClmIn (ns : List Str) (c : Clm) : Prop where
  l : SumIn ns c.l
  r : SumIn ns c.r
theorem words_in (w : Wd) : wdS w ∈ [("most" : Str), "less", "same"] := by cases w <;> decide +kernel
theorem isi_str_str2 {S : Sto} {x : Str} : bIsi kt inst [.str x, .ty "str"] S = .ok (.bl true) S := rfl
theorem d_is_claim {S : Sto} {ns : List Str} {c : Clm} (h : ClmIn ns c) : f_is_claim_of [.tup (ns.map .str), clmD c] S = .ok (.bl true) S := by
  apply of_ev
  show Ev ((b_is_claim_of [some (.tup (ns.map .str)), some (clmD c)] S).bind endF) _
  unfold b_is_claim_of
  have e : clmD c = .tup [.str (wdS c.w), sumD c.l, sumD c.r] := rfl
  have g0 : oIx (.tup [.str (wdS c.w), sumD c.l, sumD c.r]) (.int 0) S = .ok (.str (wdS c.w)) S := o_ixT 0 rfl
  have g1 : oIx (.tup [.str (wdS c.w), sumD c.l, sumD c.r]) (.int 1) S = .ok (sumD c.l) S := o_ixT 1 rfl
  have g2 : oIx (.tup [.str (wdS c.w), sumD c.l, sumD c.r]) (.int 2) S = .ok (sumD c.r) S := o_ixT 2 rfl
  have gn : oNin (.str (wdS c.w)) (.tup [(.str "most"), (.str "less"), (.str "same")]) S = .ok (.bl false) S := by
    rw [o_ninStr (ys := [("most" : Str), "less", "same"]) rfl, decide_eq_true (words_in c.w)]
    rfl
  rw [e]
  simp! [isi_tup_tup, x_ix, g0, g1, g2]
  simp! [three, isi_str_str, gn, g0, g1, g2, d_is_sum h.l, d_is_sum h.r]
/-! ## lists, wherever they stand -/
structure IsQ (S : Sto) (d : D) (xs : List D) : Prop where
  isi : bIsi kt inst [d, .tup [.ty "list", .ty "tuple"]] S = .ok (.bl true) S
  len : bLen [d] S = .ok (.int xs.length) S
  tup : bTuple [d] S = .ok (.tup xs) S
  it : ∃ gd, items S d = some ⟨xs, gd⟩ ∧ grdOk gd S
  en : ∀ L : MM.Loc, ∃ gd, enmK [d] L S = .ok ⟨enumD xs, gd⟩ S ∧ grdOk gd S
theorem IsQ.lst {S : Sto} (xs : List D) : IsQ S (.lst xs) xs := ⟨isi_lst_lt, f_lenL, f_tup0, ⟨_, rfl, trivial⟩, fun L => ⟨_, enmL, trivial⟩⟩
theorem IsQ.tupl {S : Sto} (xs : List D) : IsQ S (.tup xs) xs := ⟨isi_tup_lt, f_lenT, f_tupT, ⟨_, rfl, trivial⟩, fun L => ⟨_, enmT, trivial⟩⟩
theorem IsQ.loc {S : Sto} {n : Nat} {xs : List D} (h : S[n]? = some (.lst xs)) : IsQ S (.loc n) xs := ⟨by
  unfold bIsi fn2
  have e : tyD inst S (.loc n) = some (.inl "list") := by
    unfold tyD
    simp only [h]
  simp only [e]
  rfl, f_lenS (seqD_loc h), f_tupL (asLst_loc h), ⟨_, items_loc h, h⟩, fun L => ⟨_, enmLoc h, h⟩⟩
theorem d_need_claims {S : Sto} {ns : List Str} {d : D} {cs : List Clm} {m : Nat} (hq : IsQ S d (cs.map clmD)) (h : ∀ c ∈ cs, ClmIn ns c) (hl : cs.length ≤ m) : f_need_claims [.tup (ns.map .str), d, .int (m : Int)] S = .ok .non S := by
  apply of_ev
  show Ev ((b_need_claims [some (.tup (ns.map .str)), some d, some (.int (m : Int)), none, none] S).bind endF) _
  unfold b_need_claims
  simp! [hq.isi, x_enm1]
  obtain ⟨gd, en, hgd⟩ := hq.en [some (.tup (ns.map .str)), some d, some (.int (m : Int)), none, none]
  simp! [en]
  refine ev_for (fun k L S1 => S1 = S ∧ ∃ o3 o4, L = [some (.tup (ns.map .str)), some d, some (.int (m : Int)), o3, o4]) (fun k L S1 h => by rw [h.1]; exact hgd) ?_ ?_ ⟨rfl, _, _, rfl⟩
  · rintro k e L S1 hk ⟨rfl, o3, o4, rfl⟩
    obtain ⟨x, hx, rfl⟩ := enumD_get hk
    obtain ⟨c, hc, rfl⟩ := map_at hx
    simp! [d_is_claim (h c (List.mem_of_getElem? hc))]
    exact ⟨trivial, _, _, rfl⟩
  · rintro L S1 ⟨rfl, o3, o4, rfl⟩
    have hm : ¬ (m : Int) < ((cs.map clmD).length : Int) := by rw [List.length_map]; omega
    simp! [hq.len, hm]
/-! ## books -/
abbrev bookN : List Str := ["own_places", "own_facts"]
def bookD (ns : List Str) (cs : List Clm) : D := .obj "Book" bookN [.tup (ns.map .str), .tup (cs.map clmD)]
theorem clean_pt {N : Nat} : ∀ t : Pt, clean N t.d = true
  | .nm x => rfl
  | .fk a b c => by
    show (true && (clean N a.d && (clean N b.d && (clean N c.d && true)))) = true
    rw [clean_pt a, clean_pt b, clean_pt c]
    rfl
theorem clean_term {N : Nat} (t : Term) : clean N (termD t) = true := by
  show (true && (clean N t.2.1.d && (clean N t.2.2.d && true))) = true
  rw [clean_pt, clean_pt]
  rfl
theorem clean_sum {N : Nat} (s : List Term) : clean N (sumD s) = true := cleans_map _ _ fun t _ => clean_term t
theorem clean_clm {N : Nat} (c : Clm) : clean N (clmD c) = true := by
  show (true && (clean N (sumD c.l) && (clean N (sumD c.r) && true))) = true
  rw [clean_sum, clean_sum]
  rfl
theorem x_makeF {C : Str} {n : Nat} {fn : FnM} {a : MA} {L : MM.Loc} {S : Sto} : mMakeF C n fn a L S = (a L S).bind fun ds S1 => (mMake C n fn (fun _ S => .ok ds S) L S1).bind (gc S1.length) := rfl
theorem d_Book {S : Sto} {ns : List Str} {d : D} {cs : List Clm} (hn : NamesOk ns) (hq : ∀ X, IsQ (S ++ X) d (cs.map clmD)) (h : ∀ c ∈ cs, ClmIn (ordN ns) c) (hl : cs.length ≤ 6) :
    Ev (f_Book_init [.loc S.length, .lst (ns.map .str), d] (S ++ [.ins "Book" [] []])) fun v S2 => v = .non ∧ S2 = S ++ [.ins "Book" bookN [.tup ((ordN ns).map .str), .tup (cs.map clmD)]] := by
  unfold f_Book_init
  rw [fn_eq]
  have el : locs n_Book_init.length [.loc S.length, .lst (ns.map .str), d] = [some (.loc S.length), some (.lst (ns.map .str)), some d, none] := rfl
  rw [el]
  unfold b_Book_init
  have p1 : ∀ d : D, putD "own_places" d ([] : List Str) [] = ((["own_places"] : List Str), [d]) := fun d => rfl
  have p2 : ∀ d a : D, putD "own_facts" d (["own_places"] : List Str) [a] = (bookN, [a, d]) := fun d a => putD_new _ _ _ _ rfl (by decide +kernel)
  have k0 : (0 : Nat) < 1000 := by omega
  have k1 : (1 : Nat) < 1000 := by omega
  have dc : ∀ X, f_need_claims [.tup ((ordN ns).map .str), d, .int 6] (S ++ X) = .ok .non (S ++ X) := fun X => by
    have t := d_need_claims (m := 6) (hq X) h hl
    rw [show ((6 : Nat) : Int) = 6 from rfl] at t
    exact t
  simp! [d_need_places hn, dc, x_bFld, top_fldP, p1, p2, k0, k1, (hq _).tup]
theorem d_mkBook {S : Sto} (hS : Cl S) {ns : List Str} {d : D} {cs : List Clm} {a : MA} {L : MM.Loc} {S0 : Sto} (ha : a L S0 = .ok [.lst (ns.map .str), d] S) (hn : NamesOk ns) (hq : ∀ X, IsQ (S ++ X) d (cs.map clmD)) (h : ∀ c ∈ cs, ClmIn (ordN ns) c) (hl : cs.length ≤ 6) :
    mMakeF "Book" 2 f_Book_init a L S0 = .ok (bookD (ordN ns) cs) S := by
  apply of_ev
  rw [x_makeF, ha, bind_ok, ev_bind, x_make]
  simp! []
  refine ev_mono (d_Book hn hq h hl) fun v S2 ⟨hv, hS2⟩ => ?_
  subst hv hS2
  simp! []
  have hc : cleans S.length [.tup ((ordN ns).map .str), .tup (cs.map clmD)] = true := by
    show (cleans _ _ && (cleans _ _ && true)) = true
    rw [cleans_map D.str _ (fun _ _ => rfl), cleans_map clmD _ (fun c _ => clean_clm c)]
    rfl
  rw [gc_ok hS (frz_ins (Nat.le_refl _) top_at hc)]
  exact ⟨rfl, rfl⟩
theorem d_need_book {S : Sto} {ns : List Str} {cs : List Clm} : f_need_book [bookD ns cs] S = .ok .non S := by
  apply of_ev
  show Ev ((b_need_book [some (bookD ns cs)] S).bind endF) _
  unfold b_need_book bookD
  simp! [isi_book]
theorem d_Book_places {S : Sto} {ns : List Str} {cs : List Clm} : f_Book_places [bookD ns cs] S = .ok (.tup (ns.map .str)) S := by
  apply of_ev
  show Ev ((b_Book_places [some (bookD ns cs)] S).bind endF) _
  unfold b_Book_places
  have e : fldK "Book" "own_places" (bookD ns cs) S = .ok (.tup (ns.map .str)) S := fldK_obj rfl
  simp! [x_fld, e]
theorem d_Book_facts {S : Sto} {ns : List Str} {cs : List Clm} : f_Book_facts [bookD ns cs] S = .ok (.tup (cs.map clmD)) S := by
  apply of_ev
  show Ev ((b_Book_facts [some (bookD ns cs)] S).bind endF) _
  unfold b_Book_facts
  have e : fldK "Book" "own_facts" (bookD ns cs) S = .ok (.tup (cs.map clmD)) S := fldK_obj rfl
  simp! [x_fld, e]
theorem cls_book {S : Sto} {ns : List Str} {cs : List Clm} : clsD S (bookD ns cs) = some ("Book" : Str) := rfl
/-- names in order, good for shapes -/
structure OrdOk (ns : List Str) : Prop where
  str : ∀ x ∈ ns, PyData.strOk x = true
  l2 : 2 ≤ ns.length
  l6 : ns.length ≤ 6
theorem ordN_ok {ns : List Str} (h : NamesOk ns) : OrdOk (ordN ns) := ⟨fun x hx => (h.ok x (srt_mem.mp hx)).str, by unfold ordN; rw [srt_length]; exact h.l2, by unfold ordN; rw [srt_length]; exact h.l6⟩
theorem d_lots {S : Sto} (hS : Cl S) {ns : List Str} (hn : OrdOk ns) {cs : List Clm} (h : ∀ c ∈ cs, ClmOk c) (hcl : cs.length ≤ 19) : f_lots_for [.tup (ns.map .str), .tup (cs.map clmD)] S = .ok (.lst ((lotsF ns cs).map lotD)) S := by
  match ns, hn with
  | a :: b :: rest, hn => exact d_lots_for hS (hn.str b (by simp)) (fun x hx => hn.str x (by simp [hx])) (by have := hn.l6; simp at this; omega) h hcl
  | [a], hn => exact absurd hn.l2 (by simp)
  | [], hn => exact absurd hn.l2 (by simp)
theorem d_lots_left {S : Sto} (hS : Cl S) {ns : List Str} (hn : OrdOk ns) {cs : List Clm} (h : ∀ c ∈ cs, ClmOk c) (hcl : cs.length ≤ 19) : f_lots_left [bookD ns cs] S = .ok (.lst ((lotsF ns cs).map lotD)) S := by
  apply of_ev
  show Ev ((b_lots_left [some (bookD ns cs)] S).bind endF) _
  unfold b_lots_left
  simp! [d_need_book, x_prop, cls_book, d_Book_places, d_Book_facts, d_lots hS hn h hcl]
end Wk
set_option linter.all false
set_option maxRecDepth 100000
set_option maxHeartbeats 2000000
namespace Wk
open PySem PySem.Spec PyProof.Rows L2 MM
/-! # what is best asked -/
abbrev Pr := List Term × List Term
def pairD (p : Pr) : D := .tup [sumD p.1, sumD p.2]
structure PrIn (ns : List Str) (p : Pr) : Prop where
  l : SumIn ns p.1
  r : SumIn ns p.2
theorem two : ((2 : Nat) : Int) = 2 := rfl
theorem d_is_pair {S : Sto} {ns : List Str} {p : Pr} (h : PrIn ns p) : f_is_pair [.tup (ns.map .str), pairD p] S = .ok (.bl true) S := by
  apply of_ev
  unfold f_is_pair
  rw [fn_eq]
  have el : locs n_is_pair.length [.tup (ns.map .str), pairD p] = [some (.tup (ns.map .str)), some (pairD p)] := rfl
  rw [el]
  unfold b_is_pair
  have e : pairD p = .tup [sumD p.1, sumD p.2] := rfl
  rw [e]
  have dc : f_is_claim_of [.tup (ns.map .str), .tup [.str "most", sumD p.1, sumD p.2]] S = .ok (.bl true) S := d_is_claim (c := ⟨.most, p.1, p.2⟩) ⟨h.l, h.r⟩
  simp! [isi_tup_tup]
  simp! [two, seqD_tup, List.cons_append, List.nil_append]
  simp! [dc]
theorem d_need_pairs {S : Sto} {ns : List Str} {d : D} {ps : List Pr} (hq : IsQ S d (ps.map pairD)) (h : ∀ p ∈ ps, PrIn ns p) (h1 : 1 ≤ ps.length) (h4 : ps.length ≤ 4) : f_need_pairs [.tup (ns.map .str), d] S = .ok .non S := by
  apply of_ev
  unfold f_need_pairs
  rw [fn_eq]
  have el : locs n_need_pairs.length [.tup (ns.map .str), d] = [some (.tup (ns.map .str)), some d, none, none] := rfl
  rw [el]
  unfold b_need_pairs
  simp! [hq.isi, x_enm1]
  obtain ⟨gd, en, hgd⟩ := hq.en [some (.tup (ns.map .str)), some d, none, none]
  simp! [en]
  refine ev_for (fun k L S1 => S1 = S ∧ ∃ o3 o4, L = [some (.tup (ns.map .str)), some d, o3, o4]) (fun k L S1 h => by rw [h.1]; exact hgd) ?_ ?_ ⟨rfl, _, _, rfl⟩
  · rintro k e L S1 hk ⟨rfl, o3, o4, rfl⟩
    obtain ⟨x, hx, rfl⟩ := enumD_get hk
    obtain ⟨p, hp, rfl⟩ := map_at hx
    simp! [d_is_pair (h p (List.mem_of_getElem? hp))]
    exact ⟨trivial, _, _, rfl⟩
  · rintro L S1 ⟨rfl, o3, o4, rfl⟩
    have hm : ¬ (4 : Int) < ((ps.map pairD).length : Int) := by rw [List.length_map]; omega
    have hz : ¬ ((ps.map pairD).length : Int) = 0 := by rw [List.length_map]; omega
    simp! [hq.len, hm, hz]
def answers (p : Pr) : List Clm := [⟨.less, p.1, p.2⟩, ⟨.same, p.1, p.2⟩, ⟨.less, p.2, p.1⟩]
noncomputable def counts (ns : List Str) (cs : List Clm) (p : Pr) : List Int := (answers p).map fun a => ((lotsF ns (cs ++ [a])).length : Int)
noncomputable def mostN (ns : List Str) (cs : List Clm) (p : Pr) : Int := ((counts ns cs p).max?).getD 0
theorem max_some {ns : List Str} {cs : List Clm} {p : Pr} : (counts ns cs p).max? = some (mostN ns cs p) := by
  unfold mostN
  cases h : (counts ns cs p).max? with
  | none =>
    rw [List.max?_eq_none_iff] at h
    simp [counts, answers] at h
  | some m => rfl
theorem f_maxL {S : Sto} {l : List Int} {m : Int} (h : l.max? = some m) : bMax [.lst (l.map .int)] S = .ok (.int m) S := by
  unfold bMax orB
  have e1 : bMax2 [.lst (l.map .int)] S = .stuck := rfl
  have e2 : bMaxL [.lst (l.map .int)] S = .ok (.int m) S := by
    unfold bMaxL ofInts fn1
    simp only [asLst, Option.bind_some, asInts_map, h, Option.map_some]
  rw [e1]
  exact e2
theorem f_minQ {S : Sto} {l : List Int} {m : Int} {d : D} (hd : asLst S d = some (l.map .int)) (h : l.min? = some m) : bMin [d] S = .ok (.int m) S := by
  unfold bMin orB
  have e1 : bMin2 [d] S = .stuck := rfl
  have e2 : bMinL [d] S = .ok (.int m) S := by
    unfold bMinL ofInts fn1
    simp only [hd, Option.bind_some, asInts_map, h, Option.map_some]
  rw [e1]
  exact e2
theorem PrIn.clm {ns : List Str} {p : Pr} (h : PrIn ns p) : ∀ a ∈ answers p, ClmIn ns a := by
  intro a ha
  simp only [answers, List.mem_cons, List.not_mem_nil, or_false] at ha
  rcases ha with rfl | rfl | rfl
  · exact ⟨h.l, h.r⟩
  · exact ⟨h.l, h.r⟩
  · exact ⟨h.r, h.l⟩
structure PrOk (p : Pr) : Prop where
  l : SumOk p.1
  r : SumOk p.2
theorem PrOk.clm {p : Pr} (h : PrOk p) : ∀ a ∈ answers p, ClmOk a := by
  intro a ha
  simp only [answers, List.mem_cons, List.not_mem_nil, or_false] at ha
  rcases ha with rfl | rfl | rfl
  · exact ⟨h.l, h.r⟩
  · exact ⟨h.l, h.r⟩
  · exact ⟨h.r, h.l⟩
theorem d_most_left {S : Sto} (hS : Cl S) {ns : List Str} (hn : OrdOk ns) {cs : List Clm} (h : ∀ c ∈ cs, ClmOk c) (hcl : cs.length ≤ 18) {p : Pr} (hp : PrOk p) : f_most_left [bookD ns cs, pairD p] S = .ok (.int (mostN ns cs p)) S := by
  apply of_ev
  unfold f_most_left
  rw [fn_eq]
  have el : locs n_most_left.length [bookD ns cs, pairD p] = [some (bookD ns cs), some (pairD p), none, none, none, none] := rfl
  rw [el]
  unfold b_most_left
  have e : pairD p = .tup [sumD p.1, sumD p.2] := rfl
  rw [e]
  simp! []
  have em : [D.tup [.str "less", sumD p.1, sumD p.2], D.tup [.str "same", sumD p.1, sumD p.2], D.tup [.str "less", sumD p.2, sumD p.1]] = (answers p).map clmD := rfl
  rw [em]
  have q1 : cs.length + 1 ≤ lim := by unfold lim; omega
  rw [lc_map (gd := none) (f := fun a => D.int ((lotsF ns (cs ++ [a])).length : Int)) clmD trivial (answers p) (fun a ha => ⟨_, rfl, by
    have hc : ∀ c ∈ cs ++ [a], ClmOk c := fun c hc => by
      rcases List.mem_append.mp hc with q | q
      · exact h c q
      · rw [List.mem_singleton.mp q]; exact hp.clm a ha
    have ea : cs.map clmD ++ [clmD a] = (cs ++ [a]).map clmD := by rw [List.map_append]; rfl
    simp! [x_prop, cls_book, d_Book_places, d_Book_facts, seqD_tup, List.length_append, List.length_map, q1, ea, d_lots hS hn hc (by simp; omega)]⟩) (by simp [answers]; unfold lim; omega)]
  have eb : ((answers p).map fun a => D.int ((lotsF ns (cs ++ [a])).length : Int)) = (counts ns cs p).map .int := by
    unfold counts
    rw [List.map_map]
    rfl
  rw [eb]
  simp! [f_maxL max_some]
noncomputable def bestN (ns : List Str) (cs : List Clm) (ps : List Pr) : D := match (ps.map (mostN ns cs)).min? with
  | none => .non
  | some m => match idxI m (ps.map (mostN ns cs)) with
    | none => .non
    | some j => .int (j : Int)
theorem idxI_mem {m : Int} : ∀ {l : List Int}, m ∈ l → ∃ j, idxI m l = some j
  | [], h => by simp at h
  | k :: ks, h => by
    unfold idxI
    by_cases e : k = m
    · exact ⟨0, by rw [if_pos e]⟩
    · rcases List.mem_cons.mp h with q | q
      · exact absurd q.symm e
      · obtain ⟨j, hj⟩ := idxI_mem q
        exact ⟨j + 1, by rw [if_neg e, hj]; rfl⟩
theorem best_ex {l : List Int} (h : l ≠ []) : ∃ m j, l.min? = some m ∧ idxI m l = some j := by
  cases hm : l.min? with
  | none => exact absurd (List.min?_eq_none_iff.mp hm) h
  | some m =>
    obtain ⟨j, hj⟩ := idxI_mem (List.min?_mem hm)
    exact ⟨m, j, rfl, hj⟩
theorem d_best_asked {S : Sto} (hS : Cl S) {ns : List Str} (hn : OrdOk ns) {cs : List Clm} (h : ∀ c ∈ cs, ClmOk c) (hcl : cs.length ≤ 18) {d : D} {ps : List Pr} (hq : IsQ S d (ps.map pairD)) (hi : ∀ p ∈ ps, PrIn ns p) (ho : ∀ p ∈ ps, PrOk p) (h1 : 1 ≤ ps.length) (h4 : ps.length ≤ 4) :
    f_best_asked [bookD ns cs, d] S = .ok (bestN ns cs ps) S := by
  apply of_ev
  unfold f_best_asked
  rw [fn_eq]
  have el : locs n_best_asked.length [bookD ns cs, d] = [some (bookD ns cs), some d, none, none] := rfl
  rw [el]
  unfold b_best_asked
  obtain ⟨gd, hit, hgd⟩ := hq.it
  simp! [d_need_book, x_prop, cls_book, d_Book_places, d_need_pairs hq hi h1 h4, hit]
  rw [lc_map (gd := gd) (f := fun p => D.int (mostN ns cs p)) pairD hgd ps (fun p hp => ⟨_, rfl, by simp! [d_most_left hS hn h hcl (ho p hp)]⟩) (by unfold lim; omega)]
  have eb : (ps.map fun p => D.int (mostN ns cs p)) = (ps.map (mostN ns cs)).map .int := by rw [List.map_map]; rfl
  rw [eb]
  obtain ⟨m, j, hm, hj⟩ := best_ex (l := ps.map (mostN ns cs)) (fun e => by
    have := congrArg List.length e
    rw [List.length_map] at this
    simp at this
    rw [this] at h1
    simp at h1)
  simp! [f_minQ (S := S) (d := .lst ((ps.map (mostN ns cs)).map .int)) rfl hm, t_index hj]
  refine ⟨?_, trivial⟩
  unfold bestN
  rw [hm]
  simp only
  rw [hj]
theorem bestN_set {ns : List Str} {cs cs2 : List Clm} (h : ∀ c, c ∈ cs ↔ c ∈ cs2) (ps : List Pr) : bestN ns cs ps = bestN ns cs2 ps := by
  have e : mostN ns cs = mostN ns cs2 := by
    funext p
    unfold mostN counts
    have : ((answers p).map fun a => ((lotsF ns (cs ++ [a])).length : Int)) = (answers p).map fun a => ((lotsF ns (cs2 ++ [a])).length : Int) := by
      apply List.map_congr_left
      intro a _
      rw [lotsF_set (cs := cs ++ [a]) (cs2 := cs2 ++ [a]) (fun c => by simp [h c])]
    rw [this]
  unfold bestN
  rw [e]
end Wk
set_option linter.all false
set_option maxRecDepth 100000
set_option maxHeartbeats 2000000
namespace Wk
open PySem PySem.Spec PyProof.Rows L2 MM
/-! # the draws -/
abbrev drK : List D := [.str "great", .str "rest", .str "cells", .str "turn"]
abbrev drC (r : Int) (cs : List Int) (t : Int) : Cell := .dct drK [.loc 0, .int r, .lst (cs.map .int), .int t]
structure Drw (f : Nat) (T S : Sto) : Prop where
  ex : ∃ (g : List Int) (r : Int) (cs : List Int) (t : Int), S = .lst (g.map .int) :: drC r cs t :: T ∧ (∀ x ∈ g, 0 ≤ x) ∧ 0 ≤ r ∧ (∀ x ∈ cs, 0 ≤ x) ∧ 0 ≤ t ∧ t + f ≤ 2 ^ 40
  cl : Cl S
theorem dg_great {T : Sto} {c : Cell} {a b d e : D} : oDG (.loc 1) (.str "great") (c :: .dct drK [a, b, d, e] :: T) = .ok a (c :: .dct drK [a, b, d, e] :: T) := rfl
theorem dg_rest {T : Sto} {c : Cell} {a b d e : D} : oDG (.loc 1) (.str "rest") (c :: .dct drK [a, b, d, e] :: T) = .ok b (c :: .dct drK [a, b, d, e] :: T) := rfl
theorem dg_cells {T : Sto} {c : Cell} {a b d e : D} : oDG (.loc 1) (.str "cells") (c :: .dct drK [a, b, d, e] :: T) = .ok d (c :: .dct drK [a, b, d, e] :: T) := rfl
theorem dg_turn {T : Sto} {c : Cell} {a b d e : D} : oDG (.loc 1) (.str "turn") (c :: .dct drK [a, b, d, e] :: T) = .ok e (c :: .dct drK [a, b, d, e] :: T) := rfl
def putK (d k v : D) (L : MM.Loc) (S : Sto) : Out Fl := (putM d k v S).bind fun _ S4 => .ok (.nx L) S4
theorem x_dput {o i w : ME} {L : MM.Loc} {S : Sto} : bDPut o i w L S = (w L S).bind fun x S1 => (o L S1).bind fun d S2 => (i L S2).bind fun k S3 => putK d k x L S3 := rfl
theorem put_rest {T : Sto} {c : Cell} {a b d e v : D} {L : MM.Loc} : putK (.loc 1) (.str "rest") v L (c :: .dct drK [a, b, d, e] :: T) = .ok (.nx L) (c :: .dct drK [a, v, d, e] :: T) := rfl
theorem put_turn {T : Sto} {c : Cell} {a b d e v : D} {L : MM.Loc} : putK (.loc 1) (.str "turn") v L (c :: .dct drK [a, b, d, e] :: T) = .ok (.nx L) (c :: .dct drK [a, b, d, v] :: T) := rfl
theorem En.int : En (α := Int) .int .int 0 (fun _ => True) where
  to := fun x => rfl
  lay := fun x h => by unfold PyData.canLay0; rfl
  dep := fun x => by unfold PyData.depth; exact Nat.le_refl 0
  eqv := fun x y => by unfold PyData.eqv; exact beq_dec x y
  alike := fun x y => by unfold PySem.W.alike; rfl
theorem toPS_lst {α : Type} [DecidableEq α] {f : α → D} {g : α → PyData} {n : Nat} {ok : α → Prop} (h : En f g n ok) {S : Sto} {d : D} {xs : List α} (hd : asLst S d = some (xs.map f)) : toPS S d = some (.list (xs.map g)) := by
  cases d with
  | lst ys =>
    have e : ys = xs.map f := by simpa [asLst] using hd
    subst e
    show (toPs (xs.map f)).map PyData.list = _
    rw [h.tos]
    rfl
  | loc k =>
    have hd2 : (match S[k]? with
      | some (.lst xs) => some xs
      | _ => none) = some (xs.map f) := hd
    show (match S[k]? with
      | some (.lst xs) => (toPs xs).map PyData.list
      | _ => none) = _
    cases q : S[k]? with
    | none => rw [q] at hd2; cases hd2
    | some c =>
      rw [q] at hd2
      cases c with
      | lst ys =>
        cases hd2
        simp only [h.tos, Option.map_some]
      | _ => cases hd2
  | _ => cases hd
theorem o_neL {α : Type} [DecidableEq α] {f : α → D} {g : α → PyData} {n : Nat} {ok : α → Prop} (h : En f g n ok) (hn : n + 1 ≤ 64) {S : Sto} {d e : D} {xs ys : List α} (hd : asLst S d = some (xs.map f)) (he : asLst S e = some (ys.map f)) (hx : ∀ x ∈ xs, ok x) (hy : ∀ x ∈ ys, ok x) : oNe d e S = .ok (.bl (!decide (xs = ys))) S := by
  unfold oNe eqP
  rw [toPS_lst h hd, toPS_lst h he]
  simp only
  have shp : ∀ zs : List α, (∀ z ∈ zs, ok z) → SeqAt.shaped (.list (zs.map g)) = true := fun zs hz => by
    unfold SeqAt.shaped PyData.canLay0 PyData.depth
    rw [h.lays zs hz, decide_eq_true (by have := h.deps zs; omega)]
    rfl
  rw [shp xs hx, shp ys hy]
  have : PyData.eqv (.list (xs.map g)) (.list (ys.map g)) = decide (xs = ys) := by
    unfold PyData.eqv
    exact h.eqvs xs ys
  rw [this, Bool.true_xor]
  simp
theorem pw_ok {i : Int} (h0 : 0 ≤ i) (h : i < 2 ^ 31) : powB i 5 = true := by
  refine decide_eq_true ⟨by omega, by omega, ?_⟩
  omega
theorem d_blend {f : Nat} {T S : Sto} (h : Drw (f + 1) T S) : Ev (f__law_blend [.loc 1] S) fun v S2 => ∃ (g : List Int) (r : Int) (cs : List Int) (t : Int) (q : Int), S = .lst (g.map .int) :: drC r cs t :: T ∧ S2 = .lst (g.map .int) :: drC r cs (t + 1) :: T ∧ v = .int q ∧ 0 ≤ q := by
  obtain ⟨⟨g, r, cs, t, rfl, hg, hr, hc, ht, hf⟩, hcl⟩ := h
  unfold f__law_blend
  rw [fn_eq]
  have el : locs n__law_blend.length [.loc 1] = [some (.loc 1), none, none, none, none, none] := rfl
  rw [el]
  unfold b__law_blend
  have et : (if True then t else t) = t := if_pos trivial
  simp! [x_dg, dg_turn, x_dput, put_turn]
  have ep : [D.int 2147483629, D.int 2147483587, D.int 2147483579, D.int 2147483563] = [(2147483629 : Int), 2147483587, 2147483579, 2147483563].map .int := rfl
  rw [ep]
  have hprime : ∀ p ∈ [(2147483629 : Int), 2147483587, 2147483579, 2147483563], 0 < p ∧ p < 2 ^ 31 := by decide
  refine ev_for (gd := none) (fun k L S1 => S1 = .lst (g.map .int) :: drC r cs (t + 1) :: T ∧ ∃ (q : Int) (o3 o4 o5 : Option D), 0 ≤ q ∧ q.natAbs ≤ 2 ^ (100 * k) ∧ L = [some (.loc 1), some (.int (t + 1)), some (.int q), o3, o4, o5]) (fun _ _ _ _ => trivial) ?_ ?_ ⟨rfl, 0, _, _, _, Int.le_refl 0, by decide, rfl⟩
  · rintro k e L S1 hk ⟨rfl, q, o3, o4, o5, hq, hqk, rfl⟩
    obtain ⟨p, hp, rfl⟩ := map_at hk
    have hpp := hprime p (List.mem_of_getElem? hp)
    have hk4 : k < 4 := (List.getElem?_eq_some_iff.mp hp).1
    have w1 : wideB (t + 1) 69621 = true := wide_ok (by
      have : (t + 1).natAbs ≤ 2 ^ 41 := by omega
      exact Nat.le_trans this (by decide +kernel)) (by decide +kernel)
    have d7 : fdivB p 7 = true := fdiv_ok (by omega) (by decide +kernel)
    have b0 : 0 ≤ ((t + 1) * 69621 + p / 7) % p ∧ ((t + 1) * 69621 + p / 7) % p < p := ⟨Int.emod_nonneg _ (by omega), Int.emod_lt_of_pos _ hpp.1⟩
    simp! [o_mul w1, o_div d7, o_mod hpp.1, x_dg, dg_cells]
    refine ev_for (gd := none) (fun j L S2 => S2 = .lst (g.map .int) :: drC r cs (t + 1) :: T ∧ ∃ (x : Int) (o5 : Option D), 0 ≤ x ∧ x < p ∧ L = [some (.loc 1), some (.int (t + 1)), some (.int q), some (.int p), some (.int x), o5]) (fun _ _ _ _ => trivial) ?_ ?_ ⟨rfl, _, _, b0.1, b0.2, rfl⟩
    · rintro j e L S2 hj ⟨rfl, x, o5, hx0, hxp, rfl⟩
      obtain ⟨c, hc2, rfl⟩ := map_at hj
      have w2 : wideB x 48271 = true := wide_ok (by
        have : x.natAbs ≤ 2 ^ 31 := by omega
        exact Nat.le_trans this (by decide +kernel)) (by decide +kernel)
      simp! [o_mul w2, o_mod hpp.1]
      exact ⟨trivial, _, _, Int.emod_nonneg _ (by omega), Int.emod_lt_of_pos _ hpp.1, rfl⟩
    · rintro L S2 ⟨rfl, x, o5, hx0, hxp, rfl⟩
      have hqb : q.natAbs ≤ 2 ^ 5000 := Nat.le_trans hqk (Nat.pow_le_pow_right (by decide) (by omega))
      have w3 : wideB q 2147483647 = true := wide_ok hqb (by decide +kernel)
      have w4 : powB x 5 = true := pw_ok hx0 (by omega)
      have b5 : 0 ≤ x ^ (5 : Int).toNat % p ∧ x ^ (5 : Int).toNat % p < p := ⟨Int.emod_nonneg _ (by omega), Int.emod_lt_of_pos _ hpp.1⟩
      simp! [o_mul w3, o_pow w4, o_mod hpp.1]
      refine ⟨trivial, _, _, _, _, ?_, ?_, rfl⟩
      · have : 0 ≤ q * 2147483647 := Int.mul_nonneg hq (by omega)
        omega
      · have e1 : 2 ^ (100 * (k + 1)) = 2 ^ (100 * k) * 2 ^ 100 := by rw [Nat.mul_add, Nat.mul_one, Nat.pow_add]
        have e2 : (q * 2147483647).natAbs = q.natAbs * 2147483647 := by rw [Int.natAbs_mul]; rfl
        have e3 := Int.natAbs_add_le (q * 2147483647) (x ^ (5 : Int).toNat % p)
        have e4 : (x ^ (5 : Int).toNat % p).natAbs ≤ 2 ^ 31 := by omega
        have e5 : 1 ≤ 2 ^ (100 * k) := Nat.one_le_two_pow
        have e6 : q.natAbs * 2147483647 ≤ 2 ^ (100 * k) * 2147483647 := Nat.mul_le_mul_right _ hqk
        have e7 : (2 : Nat) ^ 100 = 1267650600228229401496703205376 := by decide +kernel
        rw [e1, e7]
        omega
  · rintro L S1 ⟨rfl, q, o3, o4, o5, hq, hqk, rfl⟩
    simp! []
    exact ⟨g, r, cs, t, q, rfl, rfl, rfl, hq⟩
end Wk
set_option linter.all false
set_option maxRecDepth 100000
set_option maxHeartbeats 2000000
namespace Wk
open PySem PySem.Spec PyProof.Rows L2 MM
theorem clean_drC {N : Nat} (h : 0 < N) (r : Int) (cs : List Int) (t : Int) : cleanC N (drC r cs t) = true := by
  show cleans N [.loc 0, .int r, .lst (cs.map .int), .int t] = true
  rw [cleans_all]
  intro d hd
  simp only [List.mem_cons, List.not_mem_nil, or_false] at hd
  rcases hd with rfl | rfl | rfl | rfl
  · exact decide_eq_true h
  · rfl
  · exact cleans_ints _
  · rfl
theorem cl_draw {g : List Int} {r : Int} {cs : List Int} {t : Int} {T : Sto} (h : Cl (.lst (g.map .int) :: drC r cs t :: T)) (g2 : List Int) (r2 : Int) (t2 : Int) : Cl (.lst (g2.map .int) :: drC r2 cs t2 :: T) := by
  intro c hc
  simp only [List.mem_cons] at hc
  rcases hc with rfl | rfl | hc
  · exact cleans_ints _
  · exact clean_drC (by simp) _ _ _
  · exact h c (by simp [hc])
theorem Drw.mono {f f' : Nat} {T S : Sto} (h : Drw f T S) (hf : f' ≤ f) : Drw f' T S := by
  obtain ⟨⟨g, r, cs, t, e, h1, h2, h3, h4, h5⟩, cl⟩ := h
  exact ⟨⟨g, r, cs, t, e, h1, h2, h3, h4, by omega⟩, cl⟩
theorem d_take {f : Nat} {T S : Sto} {m : Int} (h : Drw (f + 1) T S) (h0 : 0 < m) (hm : m.natAbs ≤ 2 ^ 5000) : Ev (f__law_take [.loc 1, .int m] S) fun v S2 => Drw f T S2 ∧ ∃ i : Nat, v = .int (i : Int) ∧ (i : Int) < m := by
  unfold f__law_take
  rw [fn_eq]
  have el : locs n__law_take.length [.loc 1, .int m] = [some (.loc 1), some (.int m), none] := rfl
  rw [el]
  unfold b__law_take
  rw [ev_bind, x_seq, ev_bind]
  have s1 : Ev ((bIf (mAndT (mTest (mBin oEq (mDG (mVar 0) (mC (.str "rest"))) (mC (.int 0)))) (mTest (mBin oNe (mDG (mVar 0) (mC (.str "great"))) (mLst mNil))))
    (bDPut (mVar 0) (mC (.str "rest")) (mBM "list" tPop (mDG (mVar 0) (mC (.str "great"))) (mCons (mC (.int 0)) mNil)))
    bSkip) [some (.loc 1), some (.int m), none] S) fun fl S1 => fl = .nx [some (.loc 1), some (.int m), none] ∧ Drw (f + 1) T S1 := by
    obtain ⟨⟨g, r, cs, t, rfl, hg, hr, hc, ht, hf⟩, hcl⟩ := h
    simp! [x_dg, dg_rest]
    by_cases c1 : r = 0
    · have en : oNe (.loc 0) (.lst []) (.lst (g.map .int) :: drC r cs t :: T) = .ok (.bl (!decide (g = []))) (.lst (g.map .int) :: drC r cs t :: T) := o_neL En.int (by omega) (xs := g) (ys := []) rfl rfl (fun _ _ => trivial) (fun _ _ => trivial)
      simp! [c1, x_dg, dg_great]
      rw [c1] at en
      simp! [en]
      cases g with
      | nil =>
        simp! []
        rw [c1] at hcl
        exact ⟨trivial, ⟨_, _, _, _, rfl, hg, Int.le_refl 0, hc, ht, hf⟩, hcl⟩
      | cons y ys =>
        have ety : tyB "list" (.lst ((y :: ys).map .int) :: drC 0 cs t :: T) (.loc 0) = true := rfl
        have ep : tPop (.loc 0) [.int 0] (.lst ((y :: ys).map .int) :: drC 0 cs t :: T) = .ok (.int y) (.lst (ys.map .int) :: drC 0 cs t :: T) := by
          unfold tPop
          have e1 : cellL (.lst ((y :: ys).map .int) :: drC 0 cs t :: T) (.loc 0) = some (0, (y :: ys).map .int) := rfl
          rw [e1]
          simp only
          have e2 : seqIndex? 0 ((y :: ys).map D.int).length = some 0 := by
            unfold seqIndex?
            simp
          rw [e2]
          rfl
        simp! [x_dput, x_dg, dg_great, ety, ep, put_rest]
        exact ⟨trivial, ⟨_, _, _, _, rfl, fun x hx => hg x (by simp [hx]), hg y (by simp), hc, ht, hf⟩, cl_draw hcl _ _ _⟩
    · simp! [c1]
      exact ⟨trivial, ⟨_, _, _, _, rfl, hg, hr, hc, ht, hf⟩, hcl⟩
  refine ev_mono s1 fun fl S1 ⟨hfl, h1⟩ => ?_
  subst hfl
  rw [seqK_nx, x_seq, ev_bind]
  have s2 : Ev ((bIf (mTest (mBin oEq (mDG (mVar 0) (mC (.str "rest"))) (mC (.int 0))))
    (bDPut (mVar 0) (mC (.str "rest")) (mCall 1 f__law_blend (mCons (mVar 0) mNil)))
    bSkip) [some (.loc 1), some (.int m), none] S1) fun fl S2 => fl = .nx [some (.loc 1), some (.int m), none] ∧ Drw f T S2 := by
    have hb := d_blend h1
    obtain ⟨⟨g, r, cs, t, rfl, hg, hr, hc, ht, hf⟩, hcl⟩ := h1
    simp! [x_dg, dg_rest]
    by_cases c1 : r = 0
    · simp! [c1, x_dput]
      rw [c1] at hb hcl
      refine ev_mono hb fun v S2 ⟨g', r', cs', t', q, e1, e2, e3, e4⟩ => ?_
      subst e2 e3
      have e5 : g'.map D.int = g.map D.int ∧ cs'.map D.int = cs.map D.int ∧ t' = t ∧ r' = 0 := by
        simp only [List.cons.injEq, Cell.lst.injEq, Cell.dct.injEq, D.int.injEq, D.lst.injEq] at e1
        exact ⟨e1.1.symm, e1.2.1.2.2.2.1.symm, e1.2.1.2.2.2.2.1.symm, e1.2.1.2.2.1.symm⟩
      obtain ⟨e6, e7, rfl, rfl⟩ := e5
      unfold drC
      rw [e6, e7]
      simp! [put_rest]
      exact ⟨trivial, ⟨_, _, _, _, rfl, hg, e4, hc, by omega, by omega⟩, cl_draw hcl _ _ _⟩
    · simp! [c1]
      exact ⟨trivial, ⟨_, _, _, _, rfl, hg, hr, hc, ht, by omega⟩, hcl⟩
  refine ev_mono s2 fun fl S2 ⟨hfl, h2⟩ => ?_
  subst hfl
  obtain ⟨⟨g, r, cs, t, rfl, hg, hr, hc, ht, hf⟩, hcl⟩ := h2
  have hd : fdivB r m = true := fdiv_ok h0 hm
  simp! [x_dg, dg_rest, o_mod h0, x_dput, o_div hd, put_rest]
  refine ⟨⟨⟨_, _, _, _, rfl, hg, Int.ediv_nonneg hr (by omega), hc, ht, hf⟩, cl_draw hcl _ _ _⟩, (r % m).toNat, ?_, ?_⟩
  · rw [Int.toNat_of_nonneg (Int.emod_nonneg _ (by omega))]
  · rw [Int.toNat_of_nonneg (Int.emod_nonneg _ (by omega))]
    exact Int.emod_lt_of_pos _ h0
/-- one of a list -/
theorem d_pick {f : Nat} {T S : Sto} {xs : List D} (h : Drw (f + 1) T S) (h0 : xs ≠ []) (hm : xs.length ≤ 2 ^ 40) : Ev (f__law_pick [.loc 1, .lst xs] S) fun v S2 => Drw f T S2 ∧ v ∈ xs := by
  unfold f__law_pick
  rw [fn_eq]
  have el : locs n__law_pick.length [.loc 1, .lst xs] = [some (.loc 1), some (.lst xs)] := rfl
  rw [el]
  unfold b__law_pick
  have hl : 0 < xs.length := List.length_pos_iff.mpr h0
  simp! [x_ix]
  refine ev_mono (d_take h (m := (xs.length : Int)) (by omega) (by
    have : ((xs.length : Nat) : Int).natAbs ≤ 2 ^ 40 := by omega
    exact Nat.le_trans this (by decide +kernel))) fun v S2 ⟨h2, i, hv, hi⟩ => ?_
  subst hv
  have hi2 : i < xs.length := by omega
  simp! [o_ixL i (List.getElem?_eq_getElem hi2)]
  exact ⟨h2, List.getElem_mem hi2⟩
theorem d_pickS {f : Nat} {T S : Sto} {z : Str} (h : Drw (f + 1) T S) (h0 : 0 < z.length) (hm : z.length ≤ lim) : Ev (f__law_pick [.loc 1, .str z] S) fun v S2 => Drw f T S2 ∧ ∃ c ∈ z.cps.toList, v = signD c := by
  unfold f__law_pick
  rw [fn_eq]
  have el : locs n__law_pick.length [.loc 1, .str z] = [some (.loc 1), some (.str z)] := rfl
  rw [el]
  unfold b__law_pick
  simp! [x_ix, f_lenX hm]
  refine ev_mono (d_take h (m := (z.length : Int)) (by omega) (by
    have : ((z.length : Nat) : Int).natAbs ≤ 2 ^ 40 := by unfold lim at hm; omega
    exact Nat.le_trans this (by decide +kernel))) fun v S2 ⟨h2, i, hv, hi⟩ => ?_
  subst hv
  have hi2 : i < z.cps.toList.length := by
    have : z.cps.toList.length = z.length := by simp [Str.length]
    omega
  have e : oIx (.str z) (.int (i : Int)) S2 = .ok (signD z.cps.toList[i]) S2 := by
    unfold oIx
    show (match asStr (.str z), asInt (.int (i : Int)) with
      | some z, some i => if z.length ≤ lim then match atI z.cps.toList i with
        | some c => Out.ok (signD c) S2
        | none => .stuck else .stuck
      | _, _ => .stuck) = _
    simp only [asStr, asInt]
    rw [if_pos hm, atI_natM, List.getElem?_eq_getElem hi2]
  simp! [e]
  exact ⟨h2, _, List.getElem_mem hi2, rfl⟩
end Wk
set_option linter.all false
set_option maxRecDepth 100000
set_option maxHeartbeats 2000000
namespace Wk
open PySem PySem.Spec PyProof.Rows L2 MM
/-! # drawn names -/
theorem app_cps (a b : Str) : (a ++ b).cps.toList = a.cps.toList ++ b.cps.toList := by
  show (a.cps ++ b.cps).toList = _
  simp
theorem len_cps (a : Str) : a.length = a.cps.toList.length := by simp [Str.length]
theorem str_ext {a b : Str} (h : a.cps.toList = b.cps.toList) : a = b := by
  cases a; cases b
  congr
  exact Array.toList_inj.mp h
theorem join_cps : ∀ l : List Str, (Str.join "" l).cps.toList = (l.map (·.cps.toList)).flatten
  | [] => rfl
  | [x] => by simp [Str.join]
  | x :: y :: r => by
    have ih := join_cps (y :: r)
    have e : Str.join "" (x :: y :: r) = x ++ "" ++ Str.join "" (y :: r) := rfl
    rw [e, app_cps, app_cps, ih]
    have e0 : (("" : Str)).cps.toList = [] := by decide +kernel
    rw [e0]
    simp
theorem tjoin_cps (l : List Str) : (Txt.join "" l).cps.toList = (l.map (·.cps.toList)).flatten := by
  have h := PyProof.Rows.join_plain_closes "" l
  rw [beq_iff_eq] at h
  rw [h, join_cps]
def sgn1 (c : Nat) : Str := ⟨#[c]⟩
theorem join_signs (cs : List Nat) : (Txt.join "" (cs.map sgn1)).cps.toList = cs := by
  rw [tjoin_cps, List.map_map]
  induction cs with
  | nil => rfl
  | cons c cs ih =>
    rw [List.map_cons, List.flatten_cons, ih]
    rfl
theorem nodup_len {α : Type} [DecidableEq α] : ∀ (xs ys : List α), xs.Nodup → (∀ x ∈ xs, x ∈ ys) → xs.length ≤ ys.length
  | [], _, _, _ => by simp
  | x :: xs, ys, hn, h => by
    obtain ⟨h1, h2⟩ := List.nodup_cons.mp hn
    have hx := h x (by simp)
    have := nodup_len xs (ys.erase x) h2 fun y hy => (List.mem_erase_of_ne (fun e => h1 (by rw [← e]; exact hy))).mpr (h y (by simp [hy]))
    rw [List.length_erase_of_mem hx] at this
    have := List.length_pos_of_mem hx
    simp only [List.length_cons]
    omega
/-! ## a cell of one's own behind the draws -/
theorem Drw.len {f : Nat} {T S : Sto} (h : Drw f T S) : S.length = T.length + 2 := by
  obtain ⟨⟨g, r, cs, t, rfl, _⟩, _⟩ := h
  simp
theorem Drw.at_ {f : Nat} {T S : Sto} (h : Drw f T S) {n : Nat} {c : Cell} (e : T[n]? = some c) : S[n + 2]? = some c := by
  obtain ⟨⟨g, r, cs, t, rfl, _⟩, _⟩ := h
  exact e
theorem Drw.push {f : Nat} {T S : Sto} (h : Drw f T S) {c : Cell} (hc : cleanC (S.length + 1) c = true) : Drw f (T ++ [c]) (S ++ [c]) := by
  have hl := h.len
  obtain ⟨⟨g, r, cs, t, rfl, h1⟩, cl⟩ := h
  exact ⟨⟨g, r, cs, t, rfl, h1⟩, cl.app fun x hx => by rw [List.mem_singleton.mp hx]; exact hc⟩
theorem Drw.put {f : Nat} {T S : Sto} (h : Drw f T S) (n : Nat) {c : Cell} (hc : cleanC S.length c = true) : Drw f (T.set n c) (S.set (n + 2) c) := by
  obtain ⟨⟨g, r, cs, t, rfl, h1⟩, cl⟩ := h
  exact ⟨⟨g, r, cs, t, rfl, h1⟩, cl.set _ hc⟩
theorem Drw.append {f : Nat} {T U S : Sto} {xs : List D} {d : D} (h : Drw f (T ++ .lst xs :: U) S) (hl : xs.length < lim) (hc : clean S.length d = true) :
    Ev (tAppend (.loc (T.length + 2)) [d] S) fun v S2 => v = .non ∧ Drw f (T ++ .lst (xs ++ [d]) :: U) S2 := by
  have e := h.at_ (n := T.length) (c := .lst xs) top_at
  rw [tAppend_if e, if_pos hl]
  refine ⟨rfl, ?_⟩
  have h1 := h.cl.at_ e
  have := h.put T.length (c := .lst (xs ++ [d])) (by
    show cleans _ (xs ++ [d]) = true
    rw [cleans_app]
    exact ⟨h1, by show (clean _ d && true) = true; rw [hc]; rfl⟩)
  rw [top_set] at this
  exact this
theorem Drw.pop {f : Nat} {T U S : Sto} (h : Drw f (T ++ U) S) (hT : ∀ c ∈ T, cleanC (T.length + 2) c = true) : Drw f T (S.take (T.length + 2)) ∧ S.take (T.length + 2) ++ U = S := by
  obtain ⟨⟨g, r, cs, t, rfl, h1⟩, cl⟩ := h
  have e : (Cell.lst (g.map .int) :: drC r cs t :: (T ++ U)).take (T.length + 2) = .lst (g.map .int) :: drC r cs t :: T := by
    show .lst (g.map .int) :: drC r cs t :: (T ++ U).take T.length = _
    rw [List.take_left]
  rw [e]
  refine ⟨⟨⟨g, r, cs, t, rfl, h1⟩, fun c hc => ?_⟩, rfl⟩
  simp only [List.mem_cons] at hc
  rcases hc with rfl | rfl | hc
  · exact cleans_ints _
  · exact clean_drC (by simp) _ _ _
  · exact hT c hc
/-- a def's end -/
theorem Drw.gc_lst {f : Nat} {T S : Sto} {xs : List D} (h : Drw f (T ++ [.lst xs]) S) (hT : ∀ c ∈ T, cleanC (T.length + 2) c = true) (hc : cleans (T.length + 2) xs = true) : Ev (gc (T.length + 2) (.loc (T.length + 2)) S) fun v S2 => v = .lst xs ∧ Drw f T S2 := by
  obtain ⟨h1, e⟩ := h.pop hT
  have hl : (S.take (T.length + 2)).length = T.length + 2 := h1.len
  have hcl := h1.cl
  generalize S.take (T.length + 2) = S0 at *
  rw [← e, ← hl, MM.gc_lst hcl (by rw [hl]; exact hc)]
  exact ⟨rfl, h1⟩
theorem Drw.gc_val {f : Nat} {T U S : Sto} {d : D} (h : Drw f (T ++ U) S) (hT : ∀ c ∈ T, cleanC (T.length + 2) c = true) (hc : clean (T.length + 2) d = true) : Ev (gc (T.length + 2) d S) fun v S2 => v = d ∧ Drw f T S2 := by
  obtain ⟨h1, e⟩ := h.pop hT
  have hl : (S.take (T.length + 2)).length = T.length + 2 := h1.len
  have hcl := h1.cl
  generalize S.take (T.length + 2) = S0 at *
  rw [← e, ← hl, MM.gc_val hcl (by rw [hl]; exact hc)]
  exact ⟨rfl, h1⟩
theorem Drw.tl {f : Nat} {T S : Sto} (h : Drw f T S) : ∀ c ∈ T, cleanC (T.length + 2) c = true := by
  have hl := h.len
  obtain ⟨⟨g, r, cs, t, rfl, _⟩, cl⟩ := h
  intro c hc
  rw [← hl]
  exact cl c (by simp [hc])
end Wk
set_option linter.all false
set_option maxRecDepth 100000
set_option maxHeartbeats 2000000
namespace Wk
open PySem PySem.Spec PyProof.Rows L2 MM
theorem LET_len : LET.length = 26 := by decide +kernel
theorem LET_nodup : LET.cps.toList.Nodup := by decide +kernel
abbrev WORDS : List Str := ["a", "b", "fork", "forks", "f", "most", "tell", "none", "places", "zzzzzzzz"]
theorem nameOk_dec (x : Str) (h : (decide (1 ≤ x.length) && decide (x.length ≤ 8) && x.cps.toList.all fun c => decide (c ∈ LET.cps.toList)) = true) : NameOk x := by
  simp only [Bool.and_eq_true, decide_eq_true_eq, List.all_eq_true] at h
  exact ⟨h.1.1, h.1.2, h.2⟩
theorem WORDS_ok : ∀ x ∈ WORDS, NameOk x := by
  have h : (WORDS.all fun x => decide (1 ≤ x.length) && decide (x.length ≤ 8) && x.cps.toList.all fun c => decide (c ∈ LET.cps.toList)) = true := by decide +kernel
  rw [List.all_eq_true] at h
  exact fun x hx => nameOk_dec x (h x hx)
def cand (w : Str) (c : Nat) : Str := cutS w none (some 7) ++ sgn1 c
theorem cut7 (w : Str) : (cutS w none (some 7)).cps.toList = w.cps.toList.take 7 := by
  unfold cutS
  show (w.cps.toList.drop _).take _ = _
  rw [HT.sIx_none, show (7 : Int) = ((7 : Nat) : Int) from rfl, HT.sIx_nat, List.drop_zero, Nat.sub_zero]
  by_cases h : 7 ≤ w.length
  · rw [Nat.min_eq_left h]
  · have h2 : w.cps.toList.length < 7 := by rw [← len_cps]; omega
    rw [Nat.min_eq_right (by omega), List.take_of_length_le (by rw [len_cps]; exact Nat.le_refl _), List.take_of_length_le (by omega)]
theorem cand_cps (w : Str) (c : Nat) : (cand w c).cps.toList = w.cps.toList.take 7 ++ [c] := by
  unfold cand
  rw [app_cps, cut7]
  rfl
theorem cand_ok {w : Str} (h : NameOk w) {c : Nat} (hc : c ∈ LET.cps.toList) : NameOk (cand w c) := by
  have e := cand_cps w c
  refine ⟨?_, ?_, ?_⟩
  · rw [len_cps, e]; simp
  · rw [len_cps, e]; simp; omega
  · intro x hx
    rw [e] at hx
    rcases List.mem_append.mp hx with q | q
    · exact h.let_ x (List.mem_of_mem_take q)
    · rw [List.mem_singleton.mp q]; exact hc
def nearL (w : Str) : List Str := w :: LET.cps.toList.map (cand w)
theorem near_ok {w : Str} (h : NameOk w) : ∀ x ∈ nearL w, NameOk x := by
  intro x hx
  rcases List.mem_cons.mp hx with rfl | q
  · exact h
  · obtain ⟨c, hc, rfl⟩ := List.mem_map.mp q
    exact cand_ok h hc
theorem near_free {w : Str} {found : List Str} (hf : found.length < 26) : (nearL w).filter (fun x => !decide (x ∈ found)) ≠ [] := by
  intro e
  rw [List.filter_eq_nil_iff] at e
  have h1 : ∀ x ∈ LET.cps.toList.map (cand w), x ∈ found := fun x hx => by
    have := e x (List.mem_cons_of_mem _ hx)
    simpa using this
  have h2 : (LET.cps.toList.map (cand w)).Nodup := by
    rw [List.nodup_iff_pairwise_ne, List.pairwise_map]
    refine List.Pairwise.imp (fun {a b} ne e => ne ?_) LET_nodup
    have := congrArg (fun s : Str => s.cps.toList) e
    simp only [cand_cps] at this
    simpa using this
  have h3 := nodup_len _ _ h2 h1
  rw [List.length_map, ← len_cps, LET_len] at h3
  omega
theorem clean_strs {N : Nat} (ns : List Str) : cleans N (ns.map .str) = true := cleans_map _ _ fun _ _ => rfl
structure Wrd (found : List Str) : Prop where
  ok : ∀ x ∈ found, NameOk x
  nd : found.Nodup
theorem Wrd.add {found : List Str} (h : Wrd found) {x : Str} (hx : NameOk x) (hn : ¬ x ∈ found) : Wrd (found ++ [x]) := ⟨fun y hy => by
  rcases List.mem_append.mp hy with q | q
  · exact h.ok y q
  · rw [List.mem_singleton.mp q]; exact hx, by
  rw [List.nodup_append]
  exact ⟨h.nd, by simp, fun a ha b hb e => hn (by rw [List.mem_singleton.mp hb] at e; rw [← e]; exact ha)⟩⟩
theorem x_yes {L : MM.Loc} {S : Sto} : mYes L S = .ok true S := rfl
theorem tE_join {S : Sto} {cs : List Nat} (hl : cs.length ≤ 100) : tJoin (.str "") [.lst (cs.map signD)] S = .ok (.str (Txt.join "" (cs.map sgn1))) S := by
  unfold tJoin
  have e1 : strsOf S (.lst (cs.map signD)) = some (cs.map sgn1) := by
    unfold strsOf
    rw [seqD_lst]
    have : cs.map signD = (cs.map sgn1).map .str := by rw [List.map_map]; rfl
    rw [this]
    simp only [Option.bind_some, asStrs_map]
  have e2 : ∀ l : List Nat, ((l.map sgn1).map (·.length)).sum = l.length := by
    intro l
    induction l with
    | nil => rfl
    | cons c l ih =>
      rw [List.map_cons, List.map_cons, List.sum_cons, ih]
      show 1 + _ = _
      rw [List.length_cons]
      omega
  have e3 : ("" : Str).length = 0 := by decide +kernel
  simp only [asStr, e1]
  rw [if_pos (by rw [e2, e3]; omega)]
theorem d_words {f n : Nat} {T S : Sto} (h : Drw (f + 12 * n) T S) (hn : n ≤ 6) : Ev (f__law_words [.loc 1, .int (n : Int)] S) fun v S2 => Drw f T S2 ∧ ∃ ns : List Str, v = .lst (ns.map .str) ∧ ns.length = n ∧ Wrd ns := by
  have hSl := h.len
  unfold f__law_words
  rw [fnG_eq]
  have el : locs n__law_words.length [.loc 1, .int (n : Int)] = [some (.loc 1), some (.int (n : Int)), none, none, none, none, none, none, none, none, none, none] := rfl
  rw [el, hSl]
  unfold b__law_words
  have h62 : n < 2 ^ 62 := by omega
  have hcl0 : cleanC (S.length + 1) (.lst []) = true := rfl
  have h0 := h.push hcl0
  simp! [h62, hSl]
  generalize S ++ [Cell.lst []] = S0 at h0
  have ew : [D.str "a", D.str "b", D.str "fork", D.str "forks", D.str "f", D.str "most", D.str "tell", D.str "none", D.str "places", D.str "zzzzzzzz"] = WORDS.map .str := rfl
  rw [ew]
  refine ev_for (gd := none) (fun k L S1 => ∃ ns : List Str, ns.length = k ∧ Wrd ns ∧ Drw (f + 12 * (n - k)) (T ++ [.lst (ns.map .str)]) S1 ∧ ∃ o5 o6 o7 o8 o9 o10 o11, L = [some (.loc 1), some (.int (n : Int)), some (.str LET), some (.loc (T.length + 2)), some (.lst (WORDS.map .str)), o5, o6, o7, o8, o9, o10, o11]) (fun _ _ _ _ => trivial) ?_ ?_ ⟨[], rfl, ⟨by simp, by simp⟩, h0, _, _, _, _, _, _, _, rfl⟩
  · rintro k e L S1 hk ⟨ns, hns, hw, hd, o5, o6, o7, o8, o9, o10, o11, rfl⟩
    obtain ⟨k', hk', rfl⟩ := map_at hk
    obtain ⟨hkl, ekk⟩ := List.getElem?_eq_some_iff.mp hk'
    rw [List.getElem_range] at ekk
    subst ekk
    rw [List.length_range] at hkl
    have hd : Drw (f + 12 * (n - (k + 1)) + 10 + 1 + 1) (T ++ [.lst (ns.map .str)]) S1 := hd.mono (by omega)
    rw [x_gN, ev_ok]
    simp only [List.set_cons_succ, List.set_cons_zero]
    rw [x_seq, ev_bind]
    refine ev_mono (P := fun fl S2 => ∃ w : Str, NameOk w ∧ Drw (f + 12 * (n - (k + 1)) + 10 + 1) (T ++ [.lst (ns.map .str)]) S2 ∧ fl = .nx [some (.loc 1), some (.int (n : Int)), some (.str LET), some (.loc (T.length + 2)), some (.lst (WORDS.map .str)), some (.int (k : Int)), some (.str w), o7, o8, o9, o10, o11]) ?_ ?_
    · simp! []
      refine ev_mono (d_pick hd (by simp) (by simp)) fun v S2 ⟨h2, hv⟩ => ?_
      obtain ⟨w, hwm, rfl⟩ := List.mem_map.mp hv
      (try simp! [])
      exact ⟨w, WORDS_ok w hwm, h2, rfl⟩
    rintro fl S2 ⟨w, hwo, h2, rfl⟩
    rw [seqK_nx, x_seq, ev_bind]
    refine ev_mono (P := fun fl S4 => ∃ (w2 : Str) (p7 : Option D), NameOk w2 ∧ Drw (f + 12 * (n - (k + 1))) (T ++ [.lst (ns.map .str)]) S4 ∧ fl = .nx [some (.loc 1), some (.int (n : Int)), some (.str LET), some (.loc (T.length + 2)), some (.lst (WORDS.map .str)), some (.int (k : Int)), some (.str w2), p7, o8, o9, o10, o11]) ?_ ?_
    · have e3 : [D.int 1, D.int 2, D.int 8] = [(1 : Int), 2, 8].map .int := rfl
      simp! []
      refine ev_mono (d_take h2 (by omega) (by decide +kernel)) fun v S3 ⟨h3, i, hv, hi⟩ => ?_
      subst hv
      by_cases c : 0 < (i : Int)
      · simp! [c, e3, List.length_map]
        refine ev_mono (d_pick h3 (by simp) (by simp)) fun v S4 ⟨h4, hv⟩ => ?_
        obtain ⟨m, hm, rfl⟩ := List.mem_map.mp hv
        have hm8 : 0 < m ∧ m ≤ 8 := by
          simp only [List.mem_cons, List.not_mem_nil, or_false] at hm
          omega
        (try simp! [])
        refine ev_mono (d_take (f := f + 12 * (n - (k + 1)) + 8) (h4.mono (by omega)) hm8.1 (by
          have : m.natAbs ≤ 8 := by omega
          exact Nat.le_trans this (by decide +kernel))) fun v S5 ⟨h5, j, hv, hj⟩ => ?_
        subst hv
        have ej : (1 : Int) + (j : Int) = ((j + 1 : Nat) : Int) := by omega
        have hj8 : j + 1 ≤ 8 := by omega
        have hj62 : j + 1 < 2 ^ 62 := by omega
        have tyE : ∀ X : Sto, tyB "str" X (.str "") = true := fun X => rfl
        simp! [ej, hj62, tyE]
        refine ev_lc (gd := none) (fun q acc S6 => Drw (f + 12 * (n - (k + 1)) + (8 - q)) (T ++ [.lst (ns.map .str)]) S6 ∧ ∃ cs : List Nat, acc = cs.map signD ∧ cs.length = q ∧ ∀ c ∈ cs, c ∈ LET.cps.toList) (fun _ _ _ _ => trivial) ?_ ?_ ⟨h5, [], rfl, rfl, by simp⟩
        · rintro q e acc S6 hq ⟨h6, cs, rfl, hcs, hcl⟩
          obtain ⟨q', hq', rfl⟩ := map_at hq
          obtain ⟨hql, eqq⟩ := List.getElem?_eq_some_iff.mp hq'
          rw [List.getElem_range] at eqq
          subst eqq
          rw [List.length_range] at hql
          simp! [x_yes]
          refine ev_mono (d_pickS (f := f + 12 * (n - (k + 1)) + (8 - (q + 1))) (h6.mono (by omega)) (by rw [LET_len]; omega) (by rw [LET_len]; unfold lim; omega)) fun v S7 ⟨h7, c, hc, hv⟩ => ?_
          subst hv
          refine ⟨by rw [List.length_map]; unfold lim; omega, h7, cs ++ [c], by rw [List.map_append]; rfl, by simp [hcs], fun x hx => ?_⟩
          rcases List.mem_append.mp hx with y | y
          · exact hcl x y
          · rw [List.mem_singleton.mp y]; exact hc
        · rintro acc S6 ⟨h6, cs, rfl, hcs, hcl⟩
          rw [List.length_map, List.length_range] at hcs h6
          simp! [tE_join (S := S6) (cs := cs) (by omega)]
          have ec := join_signs cs
          refine ⟨_, _, ⟨?_, ?_, ?_⟩, h6.mono (by omega), rfl⟩
          · rw [len_cps, ec]; omega
          · rw [len_cps, ec]; omega
          · intro x hx
            rw [ec] at hx
            exact hcl x hx
      · simp! [c]
        exact ⟨w, _, hwo, h3.mono (by omega), rfl⟩
    rintro fl S4 ⟨w2, p7, hw2, h4, rfl⟩
    rw [seqK_nx]
    have hw2l : w2.length ≤ lim := by have := hw2.l8; unfold lim; omega
    have esl : ∀ X, oSl (.str w2) none (some 7) X = .ok (.str (cutS w2 none (some 7))) X := fun X => by
      show (if w2.length ≤ lim then _ else _) = _
      rw [if_pos hw2l]
    have hcutl : (cutS w2 none (some 7)).length ≤ 7 := by rw [len_cps, cut7]; simp; omega
    simp! [asInt_int]
    rw [lc_map (gd := none) (f := fun c => D.str (cand w2 c)) signD trivial LET.cps.toList (fun c hc => ⟨_, rfl, by
      simp! [esl, asInt_int]
      rw [show signD c = .str (sgn1 c) from rfl, o_addS (by rw [show (sgn1 c).length = 1 from rfl]; unfold lim; omega)]
      rfl⟩) (by rw [← len_cps, LET_len]; unfold lim; omega)]
    have en : [D.str w2] ++ (LET.cps.toList.map fun c => D.str (cand w2 c)) = (nearL w2).map .str := by
      unfold nearL
      rw [List.map_cons, List.map_map]
      rfl
    have hfd := h4.at_ (n := T.length) (c := .lst (ns.map .str)) top_at
    have hnl : ns.length < 26 := by omega
    have ety := tyB_loc hfd
    have q1 : 1 + LET.cps.toList.length ≤ lim := by rw [← len_cps, LET_len]; unfold lim; omega
    have nin : ∀ x, oNin (.str x) (.loc (T.length + 2)) S4 = .ok (.bl (!decide (x ∈ ns))) S4 := fun x => o_ninStr (seqD_loc hfd)
    have oal : oAdd (.lst [.str w2]) (.lst (LET.cps.toList.map fun c => D.str (cand w2 c))) S4 = .ok (.lst ((nearL w2).map .str)) S4 := by
      rw [o_addL (by rw [List.length_map]; exact q1), en]
    simp! [oal, ety, x_ix]
    rw [lc_flt (gd := none) (fun x : Str => !decide (x ∈ ns)) D.str D.str trivial (nearL w2) [] (fun x hx => ⟨_, rfl, by simp! [nin], fun _ => by simp! []⟩) (by
      unfold nearL
      rw [List.length_cons, List.length_map, ← len_cps, LET_len]
      unfold lim
      simp)]
    rw [List.nil_append]
    have hfree := near_free (w := w2) hnl
    cases hfl : (nearL w2).filter (fun x => !decide (x ∈ ns)) with
    | nil => exact absurd hfl hfree
    | cons x r =>
      have hxm : x ∈ (nearL w2).filter (fun x => !decide (x ∈ ns)) := by rw [hfl]; simp
      rw [List.mem_filter] at hxm
      have hxn : ¬ x ∈ ns := by simpa using hxm.2
      have g0 : oIx (.lst ((x :: r).map .str)) (.int 0) S4 = .ok (.str x) S4 := o_ixL 0 rfl
      simp! [g0]
      refine ev_mono (h4.append (U := []) (d := .str x) (by rw [List.length_map]; unfold lim; omega) rfl) fun v S5 ⟨hv, h5⟩ => ?_
      (try simp! [])
      refine ⟨ns ++ [x], by simp [hns], hw.add (near_ok hw2 x hxm.1) hxn, ?_, _, _, _, _, _, _, _, rfl⟩
      rw [List.map_append]
      exact h5
  · rintro L S1 ⟨ns, hns, hw, hd, o5, o6, o7, o8, o9, o10, o11, rfl⟩
    rw [List.length_map, List.length_range] at hns hd
    (try simp! [])
    refine ev_mono ((hd.mono (f' := f) (by omega)).gc_lst h.tl (clean_strs _)) fun v S2 ⟨hv, h2⟩ => ?_
    exact ⟨h2, ns, hv, hns, hw⟩
theorem d_towns {f : Nat} {T S : Sto} {m : Int} (h : Drw (f + 80) T S) (hm : 2 ≤ m ∧ m ≤ 5) : Ev (f__law_towns [.loc 1, .int m] S) fun v S2 => Drw f T S2 ∧ ∃ ns : List Str, v = .lst (ns.map .str) ∧ NamesOk ns ∧ ns.length ≤ 5 := by
  unfold f__law_towns
  rw [fn_eq]
  have el : locs n__law_towns.length [.loc 1, .int m] = [some (.loc 1), some (.int m)] := rfl
  rw [el]
  unfold b__law_towns
  simp! []
  refine ev_mono (d_take (f := f + 12 * 6) (h.mono (by omega)) (m := m - 1) (by omega) (by
    have : (m - 1).natAbs ≤ 8 := by omega
    exact Nat.le_trans this (by decide +kernel))) fun v S2 ⟨h2, i, hv, hi⟩ => ?_
  subst hv
  have e : (2 : Int) + (i : Int) = ((i + 2 : Nat) : Int) := by omega
  simp! [e]
  have hi6 : i + 2 ≤ 6 := by omega
  have h2' : Drw (f + 12 * (i + 2)) T S2 := h2.mono (by omega)
  have hi5 : i + 2 ≤ 5 ∧ 2 ≤ i + 2 := by omega
  generalize i + 2 = n at hi6 h2' hi5 ⊢
  have hw := d_words (f := f) (n := n) (T := T) (S := S2) h2' hi6
  refine ev_mono hw ?_
  rintro v S3 ⟨h3, ns, hv, hl, hw⟩
  subst hv
  (try simp! [])
  exact ⟨h3, ns, rfl, ⟨hw.ok, hw.nd, by omega, by omega⟩, by omega⟩
end Wk
set_option linter.all false
set_option maxRecDepth 100000
set_option maxHeartbeats 2000000
namespace Wk
open PySem PySem.Spec PyProof.Rows L2 MM
theorem rng3 {S : Sto} : rngK [.int 3] S = .ok ⟨(List.range 3).map fun (k : Nat) => .int (k : Int), none⟩ S := rngK_int 3 (by omega)
theorem pow4 (d : Nat) : 1 ≤ 4 ^ d := Nat.one_le_pow _ _ (by omega)
theorem d_point {ns : List Str} (hne : ns ≠ []) (hnl : ns.length ≤ 10) : ∀ (k deep : Nat) {f : Nat} {T S : Sto}, deep < k → deep ≤ 7 → Drw (f + 4 ^ deep) T S → Ev (f__law_point k [.loc 1, .lst (ns.map .str), .int (deep : Int)] S) fun v S2 => Drw f T S2 ∧ ∃ t : Pt, v = t.d ∧ t.dep ≤ deep ∧ PtIn ns t
  | 0, _, _, _, _, h, _, _ => absurd h (Nat.not_lt_zero _)
  | k + 1, deep, f, T, S, hk, h7, h => by
    have ef : f__law_point (k + 1) = mkFn n__law_point.length (b__law_point (f__law_point k)) := rfl
    rw [ef, fn_eq]
    have el : locs n__law_point.length [.loc 1, .lst (ns.map .str), .int (deep : Int)] = [some (.loc 1), some (.lst (ns.map .str)), some (.int (deep : Int)), none] := rfl
    rw [el]
    unfold b__law_point
    have pk : ∀ {f : Nat} {S : Sto}, Drw (f + 1) T S → Ev (f__law_pick [.loc 1, .lst (ns.map .str)] S) fun v S2 => Drw f T S2 ∧ ∃ t : Pt, v = t.d ∧ t.dep ≤ deep ∧ PtIn ns t := fun {f S} h => by
      refine ev_mono (d_pick h (by simpa using hne) (by rw [List.length_map]; omega)) fun v S2 ⟨h2, hv⟩ => ?_
      obtain ⟨x, hx, rfl⟩ := List.mem_map.mp hv
      exact ⟨h2, .nm x, rfl, Nat.zero_le _, hx⟩
    by_cases h0 : deep = 0
    · subst h0
      have e0 : ((0 : Nat) : Int) = 0 := rfl
      simp! [e0]
      refine ev_mono (pk h) fun v S2 h2 => ?_
      exact h2
    · obtain ⟨d, rfl⟩ : ∃ d, deep = d + 1 := ⟨deep - 1, by omega⟩
      have hd0 : ¬ ((d + 1 : Nat) : Int) = 0 := by omega
      have h4 : 4 ^ (d + 1) = 4 ^ d * 4 := Nat.pow_succ ..
      have h41 := pow4 d
      simp! [hd0]
      refine ev_mono (d_take (f := f + 3 * 4 ^ d) (h.mono (by omega)) (by omega) (by decide +kernel)) fun v S2 ⟨h2, i, hv, hi⟩ => ?_
      subst hv
      by_cases c : (i : Int) = 0
      · simp! [c]
        refine ev_mono (pk (f := f) (h2.mono (by omega))) fun v S3 h3 => ?_
        exact h3
      · simp! [c, rng3]
        refine ev_lc (gd := none) (fun q acc S6 => Drw (f + (3 - q) * 4 ^ d) T S6 ∧ ∃ ts : List Pt, acc = ts.map Pt.d ∧ ts.length = q ∧ ∀ t ∈ ts, t.dep ≤ d ∧ PtIn ns t) (fun _ _ _ _ => trivial) ?_ ?_ ⟨h2, [], rfl, rfl, by simp⟩
        · rintro q e acc S6 hq ⟨h6, ts, rfl, hts, hall⟩
          obtain ⟨q', hq', rfl⟩ := map_at hq
          obtain ⟨hql, eqq⟩ := List.getElem?_eq_some_iff.mp hq'
          rw [List.getElem_range] at eqq
          subst eqq
          rw [List.length_range] at hql
          have e1 : ((d + 1 : Nat) : Int) - 1 = (d : Int) := by omega
          have e2 : (3 - q) * 4 ^ d = (3 - (q + 1)) * 4 ^ d + 4 ^ d := by
            have : 3 - q = (3 - (q + 1)) + 1 := by omega
            rw [this, Nat.add_mul, Nat.one_mul]
          simp! [x_yes, e1]
          refine ev_mono (d_point hne hnl k d (f := f + (3 - (q + 1)) * 4 ^ d) (by omega) (by omega) (h6.mono (by omega))) fun v S7 ⟨h7, t, hv, ht⟩ => ?_
          subst hv
          refine ⟨by rw [List.length_map]; unfold lim; omega, h7, ts ++ [t], by rw [List.map_append]; rfl, by simp [hts], fun x hx => ?_⟩
          rcases List.mem_append.mp hx with y | y
          · exact hall x y
          · rw [List.mem_singleton.mp y]; exact ht
        · rintro acc S6 ⟨h6, ts, rfl, hts, hall⟩
          rw [List.length_map, List.length_range] at hts h6
          match ts, hts, hall with
          | [a, b, c], _, hall =>
            have ea : oAdd (.tup [.str "fork"]) (.tup ([a, b, c].map Pt.d)) S6 = .ok (Pt.fk a b c).d S6 := o_addT (by simp; unfold lim; omega)
            simp! [ea]
            have ha := hall a (by simp)
            have hb := hall b (by simp)
            have hc := hall c (by simp)
            refine ⟨h6.mono (by omega), _, rfl, ?_, ha.2, hb.2, hc.2⟩
            show max a.dep (max b.dep c.dep) + 1 ≤ d + 1
            omega
def sF (most deep : Nat) : Nat := 1 + most * (2 + 2 * 4 ^ deep)
theorem d_sum {ns : List Str} (hne : ns ≠ []) (hnl : ns.length ≤ 10) {most deep top : Nat} (hm : most ≤ 4) (hd : deep ≤ 7) (ht : 1 ≤ top ∧ top ≤ 2 ^ 30) {f : Nat} {T S : Sto} (h : Drw (f + sF most deep) T S) :
    Ev (f__law_sum [.loc 1, .lst (ns.map .str), .int (most : Int), .int (deep : Int), .int (top : Int)] S) fun v S2 => Drw f T S2 ∧ ∃ s : List Term, v = sumD s ∧ SumIn ns s ∧ SumOk s := by
  have hSl := h.len
  unfold f__law_sum
  rw [fnG_eq]
  have el : locs n__law_sum.length [.loc 1, .lst (ns.map .str), .int (most : Int), .int (deep : Int), .int (top : Int)] = [some (.loc 1), some (.lst (ns.map .str)), some (.int (most : Int)), some (.int (deep : Int)), some (.int (top : Int)), none, none, none] := rfl
  rw [el, hSl]
  unfold b__law_sum
  have h0 := h.push (c := .lst []) rfl
  simp! [hSl, Nat.zero_le]
  generalize S ++ [Cell.lst []] = S0 at h0
  unfold sF at h0
  refine ev_mono (d_take (f := f + most * (2 + 2 * 4 ^ deep)) (h0.mono (by omega)) (m := (most : Int) + 1) (by omega) (by
    have : ((most : Int) + 1).natAbs ≤ 8 := by omega
    exact Nat.le_trans this (by decide +kernel))) fun v S1 ⟨h1, n, hv, hn⟩ => ?_
  subst hv
  have hn62 : n < 2 ^ 62 := by omega
  simp! [hn62]
  refine ev_for (gd := none) (fun k L S1 => ∃ s : List Term, s.length = k ∧ SumIn ns s ∧ SumOk s ∧ Drw (f + (n - k) * (2 + 2 * 4 ^ deep)) (T ++ [.lst (s.map termD)]) S1 ∧ ∃ o6 o7, L = [some (.loc 1), some (.lst (ns.map .str)), some (.int (most : Int)), some (.int (deep : Int)), some (.int (top : Int)), some (.loc (T.length + 2)), o6, o7]) (fun _ _ _ _ => trivial) ?_ ?_ ⟨[], rfl, ⟨by simp, by simp⟩, ⟨by simp, by simp, by simp⟩, h1.mono (by
      have : (n - 0) * (2 + 2 * 4 ^ deep) ≤ most * (2 + 2 * 4 ^ deep) := Nat.mul_le_mul_right _ (by omega)
      omega), _, _, rfl⟩
  · rintro k e L S1 hk ⟨s, hs, hin, hok, hd2, o6, o7, rfl⟩
    obtain ⟨k', hk', rfl⟩ := map_at hk
    obtain ⟨hkl, ekk⟩ := List.getElem?_eq_some_iff.mp hk'
    rw [List.getElem_range] at ekk
    subst ekk
    rw [List.length_range] at hkl
    have e2 : (n - k) * (2 + 2 * 4 ^ deep) = (n - (k + 1)) * (2 + 2 * 4 ^ deep) + (2 + 2 * 4 ^ deep) := by
      have : n - k = (n - (k + 1)) + 1 := by omega
      rw [this, Nat.add_mul, Nat.one_mul]
    rw [e2] at hd2
    generalize hF : f + (n - (k + 1)) * (2 + 2 * 4 ^ deep) = F
    have hd3 : Drw (F + 4 ^ deep + 4 ^ deep + 1 + 1) (T ++ [.lst (s.map termD)]) S1 := hd2.mono (by omega)
    simp! []
    refine ev_mono (d_take hd3 (m := (top : Int)) (by omega) (by
      have : ((top : Nat) : Int).natAbs ≤ 2 ^ 30 := by omega
      exact Nat.le_trans this (by decide +kernel))) fun v S2 ⟨h2, i, hv, hi⟩ => ?_
    subst hv
    have e3 : [D.int 1, D.int (1 + (i : Int))] = [(1 : Int), 1 + (i : Int)].map .int := rfl
    try simp! []
    rw [e3]
    refine ev_mono (d_pick h2 (by simp) (by simp)) fun v S3 ⟨h3, hv⟩ => ?_
    obtain ⟨num, hnum, rfl⟩ := List.mem_map.mp hv
    have hnb : 1 ≤ num ∧ num ≤ 2 ^ 30 := by
      simp only [List.mem_cons, List.not_mem_nil, or_false] at hnum
      omega
    have hat := h3.at_ (n := T.length) (c := .lst (s.map termD)) top_at
    have ety := tyB_loc hat
    simp! [ety]
    refine ev_mono (d_point hne hnl 8 deep (by omega) hd h3) fun v S4 ⟨h4, a, hv, ha⟩ => ?_
    subst hv
    try simp! []
    refine ev_mono (d_point hne hnl 8 deep (by omega) hd h4) fun v S5 ⟨h5, b, hv, hb⟩ => ?_
    subst hv
    try simp! []
    refine ev_mono (h5.append (U := []) (d := termD (num, a, b)) (by rw [List.length_map]; unfold lim; omega) (clean_term _)) fun v S6 ⟨hv, h6⟩ => ?_
    try simp! []
    refine ⟨s ++ [(num, a, b)], by simp [hs], ⟨by simp; omega, fun t htm => ?_⟩, ⟨by simp; omega, fun t htm => ?_, fun t htm => ?_⟩, ?_, _, _, rfl⟩
    · rcases List.mem_append.mp htm with y | y
      · exact hin.all t y
      · rw [List.mem_singleton.mp y]
        exact ⟨⟨by show a.dep < 8; omega, ha.2⟩, ⟨by show b.dep < 8; omega, hb.2⟩, hnb.1⟩
    · rcases List.mem_append.mp htm with y | y
      · exact hok.dep t y
      · rw [List.mem_singleton.mp y]
        exact ⟨by show a.dep < 8; omega, by show b.dep < 8; omega⟩
    · rcases List.mem_append.mp htm with y | y
      · exact hok.num t y
      · rw [List.mem_singleton.mp y]
        exact hnb
    · rw [List.map_append]
      exact h6
  · rintro L S1 ⟨s, hs, hin, hok, hd2, o6, o7, rfl⟩
    rw [List.length_map, List.length_range] at hs hd2
    have hat := hd2.at_ (n := T.length) (c := .lst (s.map termD)) top_at
    simp! [f_tupL (asLst_loc hat)]
    refine ev_mono ((hd2.mono (f' := f) (by omega)).gc_val (U := [.lst (s.map termD)]) h.tl (d := sumD s) (clean_sum s)) fun v S2 ⟨hv, h2⟩ => ?_
    exact ⟨h2, s, hv, hin, hok⟩
def cF (most deep : Nat) : Nat := 1 + 2 * sF most deep
theorem d_claim {ns : List Str} (hne : ns ≠ []) (hnl : ns.length ≤ 10) {most deep top : Nat} (hm : most ≤ 4) (hd : deep ≤ 7) (ht : 1 ≤ top ∧ top ≤ 2 ^ 30) {f : Nat} {T S : Sto} (h : Drw (f + cF most deep) T S) :
    Ev (f__law_claim [.loc 1, .lst (ns.map .str), .int (most : Int), .int (deep : Int), .int (top : Int)] S) fun v S2 => Drw f T S2 ∧ ∃ c : Clm, v = clmD c ∧ ClmIn ns c ∧ ClmOk c := by
  unfold f__law_claim
  rw [fn_eq]
  have el : locs n__law_claim.length [.loc 1, .lst (ns.map .str), .int (most : Int), .int (deep : Int), .int (top : Int)] = [some (.loc 1), some (.lst (ns.map .str)), some (.int (most : Int)), some (.int (deep : Int)), some (.int (top : Int)), none] := rfl
  rw [el]
  unfold b__law_claim
  have e4 : [D.str "most", D.str "most", D.str "less", D.str "same"] = [Wd.most, .most, .less, .same].map fun w => .str (wdS w) := rfl
  simp! [e4, List.length_map]
  unfold cF at h
  refine ev_mono (d_pick (f := f + sF most deep + sF most deep) (h.mono (by omega)) (by simp) (by simp)) fun v S1 ⟨h1, hv⟩ => ?_
  obtain ⟨w, _, rfl⟩ := List.mem_map.mp hv
  try simp! []
  refine ev_mono (d_sum hne hnl hm hd ht h1) fun v S2 ⟨h2, s, hv, hs1, hs2⟩ => ?_
  subst hv
  try simp! []
  refine ev_mono (d_sum hne hnl hm hd ht h2) fun v S3 ⟨h3, s2, hv, hs3, hs4⟩ => ?_
  subst hv
  try simp! []
  exact ⟨h3, ⟨w, s, s2⟩, rfl, ⟨hs1, hs3⟩, ⟨hs2, hs4⟩⟩
end Wk
set_option linter.all false
set_option maxRecDepth 100000
set_option maxHeartbeats 2000000
namespace Wk
open PySem PySem.Spec PyProof.Rows L2 MM
theorem x_gLst (n : Nat) (r : MGs) (xs : List D) (L : MM.Loc) (S : Sto) : gLstM n r (.lst xs) L S = if xs.length = n then r xs L S else .stuck := rfl
def nF : Nat := 4 * (cF 2 1 + 4) + 1
theorem clean_clms {N : Nat} (cs : List Clm) : cleans N (cs.map clmD) = true := cleans_map _ _ fun c _ => clean_clm c
theorem d_near {ns : List Str} (hne : ns ≠ []) (hnl : ns.length ≤ 10) {f : Nat} {T S : Sto} (h : Drw (f + nF) T S) :
    Ev (f__law_near_facts [.loc 1, .lst (ns.map .str)] S) fun v S2 => Drw f T S2 ∧ ∃ cs : List Clm, v = .lst (cs.map clmD) ∧ cs.length ≤ 4 ∧ ∀ c ∈ cs, ClmIn ns c ∧ ClmOk c := by
  have hSl := h.len
  unfold f__law_near_facts
  rw [fnG_eq]
  have el : locs n__law_near_facts.length [.loc 1, .lst (ns.map .str)] = [some (.loc 1), some (.lst (ns.map .str)), none, none, none, none, none, none, none, none, none, none] := rfl
  rw [el, hSl]
  unfold b__law_near_facts
  have h0 := h.push (c := .lst []) rfl
  simp! [hSl, Nat.zero_le]
  generalize S ++ [Cell.lst []] = S0 at h0
  unfold nF at h0
  refine ev_mono (d_take (f := f + 4 * (cF 2 1 + 4)) (h0.mono (by omega)) (m := 5) (by omega) (by decide +kernel)) fun v S1 ⟨h1, n, hv, hn⟩ => ?_
  subst hv
  have hn62 : n < 2 ^ 62 := by omega
  simp! [hn62]
  refine ev_for (gd := none) (fun k L S1 => ∃ cs : List Clm, cs.length = k ∧ (∀ c ∈ cs, ClmIn ns c ∧ ClmOk c) ∧ Drw (f + (n - k) * (cF 2 1 + 4)) (T ++ [.lst (cs.map clmD)]) S1 ∧ ∃ o3 o4 o5 o6 o7 o8 o9 o10 o11, L = [some (.loc 1), some (.lst (ns.map .str)), some (.loc (T.length + 2)), o3, o4, o5, o6, o7, o8, o9, o10, o11]) (fun _ _ _ _ => trivial) ?_ ?_ ⟨[], rfl, by simp, h1.mono (by
      have : (n - 0) * (cF 2 1 + 4) ≤ 4 * (cF 2 1 + 4) := Nat.mul_le_mul_right _ (by omega)
      omega), _, _, _, _, _, _, _, _, _, rfl⟩
  · rintro k e L S1 hk ⟨cs, hs, hall, hd2, o3, o4, o5, o6, o7, o8, o9, o10, o11, rfl⟩
    obtain ⟨k', hk', rfl⟩ := map_at hk
    obtain ⟨hkl, ekk⟩ := List.getElem?_eq_some_iff.mp hk'
    rw [List.getElem_range] at ekk
    subst ekk
    rw [List.length_range] at hkl
    have e2 : (n - k) * (cF 2 1 + 4) = (n - (k + 1)) * (cF 2 1 + 4) + (cF 2 1 + 4) := by
      have : n - k = (n - (k + 1)) + 1 := by omega
      rw [this, Nat.add_mul, Nat.one_mul]
    rw [e2] at hd2
    generalize hF : f + (n - (k + 1)) * (cF 2 1 + 4) = F
    have hd3 : Drw (F + 1 + cF 2 1 + 3) (T ++ [.lst (cs.map clmD)]) S1 := hd2.mono (by omega)
    rw [x_gN, ev_ok]
    simp only [List.set_cons_succ, List.set_cons_zero]
    rw [x_seq, ev_bind]
    refine ev_mono (P := fun fl S4 => ∃ (a b c : Str) (o11 : Option D), a ∈ ns ∧ b ∈ ns ∧ c ∈ ns ∧ Drw (F + 1 + cF 2 1) (T ++ [.lst (cs.map clmD)]) S4 ∧ fl = .nx [some (.loc 1), some (.lst (ns.map .str)), some (.loc (T.length + 2)), some (.int (k : Int)), some (.str a), some (.str b), some (.str c), o7, o8, o9, o10, o11]) ?_ ?_
    · simp! [rng3]
      refine ev_lc (gd := none) (fun q acc S6 => Drw (F + 1 + cF 2 1 + (3 - q)) (T ++ [.lst (cs.map clmD)]) S6 ∧ ∃ ts : List Str, acc = ts.map .str ∧ ts.length = q ∧ ∀ t ∈ ts, t ∈ ns) (fun _ _ _ _ => trivial) ?_ ?_ ⟨hd3, [], rfl, rfl, by simp⟩
      · rintro q e acc S6 hq ⟨h6, ts, rfl, hts, htn⟩
        obtain ⟨q', hq', rfl⟩ := map_at hq
        obtain ⟨hql, eqq⟩ := List.getElem?_eq_some_iff.mp hq'
        rw [List.getElem_range] at eqq
        subst eqq
        rw [List.length_range] at hql
        simp! [x_yes]
        refine ev_mono (d_pick (f := F + 1 + cF 2 1 + (3 - (q + 1))) (h6.mono (by omega)) (by simpa using hne) (by rw [List.length_map]; omega)) fun v S7 ⟨h7, hv⟩ => ?_
        obtain ⟨x, hx, rfl⟩ := List.mem_map.mp hv
        refine ⟨by rw [List.length_map]; unfold lim; omega, h7, ts ++ [x], by rw [List.map_append]; rfl, by simp [hts], fun y hy => ?_⟩
        rcases List.mem_append.mp hy with z | z
        · exact htn y z
        · rw [List.mem_singleton.mp z]; exact hx
      · rintro acc S6 ⟨h6, ts, rfl, hts, htn⟩
        rw [List.length_map, List.length_range] at hts h6
        match ts, hts, htn with
        | [a, b, c], _, htn =>
          have eg : ([a, b, c].map D.str) = [.str a, .str b, .str c] := rfl
          simp! [eg, x_gLst]
          exact ⟨a, b, c, _, htn a (by simp), htn b (by simp), htn c (by simp), h6.mono (by omega), rfl⟩
    rintro fl S4 ⟨a, b, c, p11, ha, hb, hc, h4, rfl⟩
    rw [seqK_nx]
    have e1 : D.tup [.tup [.int 1, .str a, .str b]] = sumD [(1, .nm a, .nm b)] := rfl
    have e2 : D.tup [.tup [.int 1, .str b, .str c]] = sumD [(1, .nm b, .nm c)] := rfl
    have e0 : D.tup [] = sumD [] := rfl
    simp! [bPar2]
    rw [e1, e2]
    have i1 : SumIn ns [(1, .nm a, .nm b)] := ⟨by simp, fun t ht => by rw [List.mem_singleton.mp ht]; exact ⟨⟨by show 0 < 8; omega, ha⟩, ⟨by show 0 < 8; omega, hb⟩, Int.le_refl 1⟩⟩
    have i2 : SumIn ns [(1, .nm b, .nm c)] := ⟨by simp, fun t ht => by rw [List.mem_singleton.mp ht]; exact ⟨⟨by show 0 < 8; omega, hb⟩, ⟨by show 0 < 8; omega, hc⟩, Int.le_refl 1⟩⟩
    have i0 : SumIn ns [] := ⟨by simp, by simp⟩
    have k1 : SumOk [((1 : Int), Pt.nm a, Pt.nm b)] := ⟨by simp, fun t ht => by rw [List.mem_singleton.mp ht]; exact ⟨by show 0 < 8; omega, by show 0 < 8; omega⟩, fun t ht => by rw [List.mem_singleton.mp ht]; exact ⟨by show (1 : Int) ≤ 1; omega, by show (1 : Int) ≤ 2 ^ 30; omega⟩⟩
    have k2 : SumOk [((1 : Int), Pt.nm b, Pt.nm c)] := ⟨by simp, fun t ht => by rw [List.mem_singleton.mp ht]; exact ⟨by show 0 < 8; omega, by show 0 < 8; omega⟩, fun t ht => by rw [List.mem_singleton.mp ht]; exact ⟨by show (1 : Int) ≤ 1; omega, by show (1 : Int) ≤ 2 ^ 30; omega⟩⟩
    have k0 : SumOk ([] : List Term) := ⟨by simp, by simp, by simp⟩
    generalize ([(1, Pt.nm a, Pt.nm b)] : List Term) = s1 at *
    generalize ([(1, Pt.nm b, Pt.nm c)] : List Term) = s2 at *
    have dcl := d_claim (ns := ns) (most := 2) (deep := 1) (top := 2) hne hnl (by omega) (by omega) ⟨by omega, by omega⟩ h4
    have ec2 : ((2 : Nat) : Int) = 2 := rfl
    have ec1 : ((1 : Nat) : Int) = 1 := rfl
    rw [ec2, ec1] at dcl
    refine ev_mono dcl fun v S5 ⟨h5, told, hv, hti, hto⟩ => ?_
    subst hv
    try simp! []
    have em : [D.tup [.str "most", sumD s1, sumD s2], .tup [.str "less", sumD s1, sumD s2], .tup [.str "same", sumD s1, sumD s2], .tup [.str "same", sumD s1, .tup []], clmD told] = ([⟨.most, s1, s2⟩, ⟨.less, s1, s2⟩, ⟨.same, s1, s2⟩, ⟨.same, s1, []⟩, told] : List Clm).map clmD := rfl
    rw [em]
    have hat := h5.at_ (n := T.length) (c := .lst (cs.map clmD)) top_at
    have ety := tyB_loc hat
    try simp! [ety]
    refine ev_mono (d_pick h5 (by simp) (by simp)) fun v S6 ⟨h6, hv⟩ => ?_
    obtain ⟨c2, hc2, rfl⟩ := List.mem_map.mp hv
    have hc3 : ClmIn ns c2 ∧ ClmOk c2 := by
      simp only [List.mem_cons, List.not_mem_nil, or_false] at hc2
      rcases hc2 with rfl | rfl | rfl | rfl | rfl
      · exact ⟨⟨i1, i2⟩, ⟨k1, k2⟩⟩
      · exact ⟨⟨i1, i2⟩, ⟨k1, k2⟩⟩
      · exact ⟨⟨i1, i2⟩, ⟨k1, k2⟩⟩
      · exact ⟨⟨i1, i0⟩, ⟨k1, k0⟩⟩
      · exact ⟨hti, hto⟩
    try simp! []
    refine ev_mono (h6.append (U := []) (d := clmD c2) (by rw [List.length_map]; unfold lim; omega) (clean_clm _)) fun v S7 ⟨hv, h7⟩ => ?_
    try simp! []
    refine ⟨cs ++ [c2], by simp [hs], fun c hcm => ?_, ?_, _, _, _, _, _, _, _, _, _, rfl⟩
    · rcases List.mem_append.mp hcm with y | y
      · exact hall c y
      · rw [List.mem_singleton.mp y]; exact hc3
    · rw [List.map_append]
      exact h7
  · rintro L S1 ⟨cs, hs, hall, hd2, o3, o4, o5, o6, o7, o8, o9, o10, o11, rfl⟩
    rw [List.length_map, List.length_range] at hs hd2
    simp! []
    refine ev_mono ((hd2.mono (f' := f) (by omega)).gc_lst h.tl (clean_clms cs)) fun v S2 ⟨hv, h2⟩ => ?_
    exact ⟨h2, cs, hv, by omega, hall⟩
end Wk
set_option linter.all false
set_option maxRecDepth 100000
set_option maxHeartbeats 2000000
namespace Wk
open PySem PySem.Spec PyProof.Rows L2 MM
theorem x_lcC {mi : MI} {vs : List Nat} {g : MG} {c : MT} {e : ME} {L : MM.Loc} {S : Sto} : mLcC mi vs g c e L S = (mi L S).bind fun x S1 => (dry (lcF g c e (wipeL L vs) x.gd x.xs [] S1)).bind fun xs S2 => .ok (.loc S2.length) (S2 ++ [.lst xs]) := by
  show ((mi L S).bind _).bind _ = _
  cases mi L S <;> rfl
theorem items_scr {S : Sto} {is : List Int} : items S (.scr is) = some ⟨is.map .int, none⟩ := rfl
theorem x_dispC {t : List (ME × ME)} {L : MM.Loc} {S : Sto} : mDispC t L S = (pairsF t L S).bind fun ps S1 => if keysOk (ps.map (·.1)) = true then .ok (.loc S1.length) (S1 ++ [.dct (ps.map (·.1)) (ps.map (·.2))]) else .stuck := rfl
theorem x_pnil {L : MM.Loc} {S : Sto} : pairsF [] L S = .ok [] S := rfl
theorem x_pcons {a b : ME} {r : List (ME × ME)} {L : MM.Loc} {S : Sto} : pairsF ((a, b) :: r) L S = (dry (a L S)).bind fun k S1 => (dry (b L S1)).bind fun v S2 => (pairsF r L S2).bind fun ps S3 => .ok ((k, v) :: ps) S3 := rfl
theorem d_begin {is : List Int} (hl : is.length ≤ 100000) : Ev (f__law_begin [.scr is] []) fun v S2 => v = .loc 1 ∧ Drw (2 ^ 39) [] S2 := by
  unfold f__law_begin
  rw [fn_eq]
  have el : locs n__law_begin.length [.scr is] = [some (.scr is), none, none] := rfl
  rw [el]
  unfold b__law_begin
  have hp : ∀ S : Sto, oPow (.int 10) (.int 18) S = .ok (.int (10 ^ (18 : Int).toNat)) S := fun S => o_pow (by decide +kernel)
  have hab : ∀ i : Int, (if i < 0 then -i else i) = (i.natAbs : Int) := abs_nat
  have hl2 : is.length ≤ lim := by unfold lim; omega
  simp! [x_lcC, items_scr]
  rw [lc_flt (gd := none) (fun i : Int => decide ((10 : Int) ^ (18 : Int).toNat ≤ (i.natAbs : Int))) (fun i : Int => D.int ((i.natAbs : Int) - 10 ^ (18 : Int).toNat)) D.int trivial is [] (fun z hz => ⟨_, rfl, by simp! [hp, hab], fun _ => by simp! [hp, hab]⟩) (by simpa using hl2)]
  rw [List.nil_append]
  generalize hg : is.filter (fun i : Int => decide ((10 : Int) ^ (18 : Int).toNat ≤ (i.natAbs : Int))) = gs
  simp! [x_dispC, x_pnil, x_pcons, items_scr, List.nil_append]
  rw [lc_map (gd := none) (f := fun i : Int => D.int (i.natAbs : Int)) D.int trivial is (fun z hz => ⟨_, rfl, by simp! [hab]⟩) hl2]
  have hk : keysOk [.str "great", .str "rest", .str "cells", .str "turn"] = true := by decide +kernel
  simp! [List.map_cons, List.map_nil, hk]
  have e1 : (gs.map fun i : Int => D.int ((i.natAbs : Int) - 10 ^ (18 : Int).toNat)) = (gs.map fun i : Int => (i.natAbs : Int) - 10 ^ (18 : Int).toNat).map .int := by rw [List.map_map]; rfl
  have e2 : (is.map fun i : Int => D.int (i.natAbs : Int)) = (is.map fun i : Int => (i.natAbs : Int)).map .int := by rw [List.map_map]; rfl
  rw [e1, e2]
  refine ⟨rfl, ⟨⟨_, _, _, _, rfl, fun x hx => ?_, Int.le_refl 0, fun x hx => ?_, Int.le_refl 0, by decide +kernel⟩, fun c hc => ?_⟩⟩
  · obtain ⟨i, hi, rfl⟩ := List.mem_map.mp hx
    rw [← hg, List.mem_filter] at hi
    have := of_decide_eq_true hi.2
    omega
  · obtain ⟨i, _, rfl⟩ := List.mem_map.mp hx
    omega
  · simp only [List.cons_append, List.nil_append, List.mem_cons, List.not_mem_nil, or_false] at hc
    rcases hc with rfl | rfl
    · exact cleans_ints _
    · exact clean_drC (by simp) 0 _ 0
theorem o_addQ {S : Sto} {n : Nat} {xs ys : List D} (h : S[n]? = some (.lst xs)) (hl : xs.length + ys.length ≤ lim) : oAdd (.loc n) (.lst ys) S = .ok (.lst (xs ++ ys)) S := by
  have e : oAdd (.loc n) (.lst ys) S = oAddL (.loc n) (.lst ys) S := rfl
  rw [e]
  unfold oAddL
  rw [asLst_loc h]
  show (if xs.length + ys.length ≤ lim then _ else _) = _
  rw [if_pos hl]
theorem o_addR {S : Sto} {n : Nat} {xs ys : List D} (h : S[n]? = some (.lst ys)) (hl : xs.length + ys.length ≤ lim) : oAdd (.lst xs) (.loc n) S = .ok (.lst (xs ++ ys)) S := by
  have e : oAdd (.lst xs) (.loc n) S = oAddL (.lst xs) (.loc n) S := rfl
  rw [e]
  unfold oAddL
  rw [asLst_loc h]
  show (if xs.length + ys.length ≤ lim then _ else _) = _
  rw [if_pos hl]
theorem f_maxQ {S : Sto} {l : List Int} {m : Int} {d : D} (hd : asLst S d = some (l.map .int)) (h : l.max? = some m) : bMax [d] S = .ok (.int m) S := by
  unfold bMax orB
  have e1 : bMax2 [d] S = .stuck := rfl
  have e2 : bMaxL [d] S = .ok (.int m) S := by
    unfold bMaxL ofInts fn1
    simp only [hd, Option.bind_some, asInts_map, h, Option.map_some]
  rw [e1]
  exact e2
theorem PtIn.mono {ns ns2 : List Str} (h : ∀ x ∈ ns, x ∈ ns2) : ∀ {t : Pt}, PtIn ns t → PtIn ns2 t
  | .nm x, ht => h x ht
  | .fk a b c, ⟨h1, h2, h3⟩ => ⟨PtIn.mono h h1, PtIn.mono h h2, PtIn.mono h h3⟩
theorem SumIn.ord {ns : List Str} {s : List Term} (h : SumIn ns s) : SumIn (ordN ns) s := by
  have m : ∀ x ∈ ns, x ∈ ordN ns := fun x hx => srt_mem.mpr hx
  exact ⟨h.len, fun t ht => ⟨⟨(h.all t ht).a.1, PtIn.mono m (h.all t ht).a.2⟩, ⟨(h.all t ht).b.1, PtIn.mono m (h.all t ht).b.2⟩, (h.all t ht).n⟩⟩
theorem ClmIn.ord {ns : List Str} {c : Clm} (h : ClmIn ns c) : ClmIn (ordN ns) c := ⟨h.l.ord, h.r.ord⟩
theorem PrIn.ord {ns : List Str} {p : Pr} (h : PrIn ns p) : PrIn (ordN ns) p := ⟨h.l.ord, h.r.ord⟩
theorem d_mostl {S : Sto} (hS : Cl S) {ns : List Str} (hn : NamesOk ns) {cs : List Clm} {n : Nat} (hat : S[n]? = some (.lst (cs.map clmD))) (hi : ∀ c ∈ cs, ClmIn (ordN ns) c) (ho : ∀ c ∈ cs, ClmOk c) (hl : cs.length ≤ 5) {p : Pr} (hpi : PrIn (ordN ns) p) (hpo : PrOk p) :
    f__law_most_left [.lst (ns.map .str), .loc n, pairD p] S = .ok (.int (mostN (ordN ns) cs p)) S := by
  apply of_ev
  unfold f__law_most_left
  rw [fnG_eq]
  have el : locs n__law_most_left.length [.lst (ns.map .str), .loc n, pairD p] = [some (.lst (ns.map .str)), some (.loc n), some (pairD p), none, none] := rfl
  rw [el]
  unfold b__law_most_left
  have g0 : ∀ X, oIx (pairD p) (.int 0) X = .ok (sumD p.1) X := fun X => o_ixT 0 rfl
  have g1 : ∀ X, oIx (pairD p) (.int 1) X = .ok (sumD p.2) X := fun X => o_ixT 1 rfl
  simp! [Nat.zero_le, x_ix, g0, g1]
  have em : [D.tup [.str "less", sumD p.1, sumD p.2], .tup [.str "same", sumD p.1, sumD p.2], .tup [.str "less", sumD p.2, sumD p.1]] = (answers p).map clmD := rfl
  rw [em]
  have hol := ordN_ok hn
  refine ev_for (gd := none) (fun k L S1 => S1 = S ++ [.lst ((((answers p).take k).map fun a => ((lotsF (ordN ns) (cs ++ [a])).length : Int)).map .int)] ∧ ∃ o4, L = [some (.lst (ns.map .str)), some (.loc n), some (pairD p), some (.loc S.length), o4]) (fun _ _ _ _ => trivial) ?_ ?_ ⟨rfl, _, rfl⟩
  · rintro k e L S1 hk ⟨hS1, o4, rfl⟩
    obtain ⟨a, ha, rfl⟩ := map_at hk
    have ham : a ∈ answers p := List.mem_of_getElem? ha
    have hak : k < (answers p).length := (List.getElem?_eq_some_iff.mp ha).1
    have hak3 : (answers p).length = 3 := rfl
    have hcl : Cl S1 := by
      rw [hS1]
      exact hS.app fun c hc => by rw [List.mem_singleton.mp hc]; exact cleans_ints _
    have hat1 : S1[n]? = some (.lst (cs.map clmD)) := by rw [hS1]; exact low_at hat
    have ea : cs.map clmD ++ [clmD a] = (cs ++ [a]).map clmD := by rw [List.map_append]; rfl
    have eadd : oAdd (.loc n) (.lst [clmD a]) S1 = .ok (.lst ((cs ++ [a]).map clmD)) S1 := by
      rw [o_addQ hat1 (by rw [List.length_map]; simp; unfold lim; omega), ea]
    have hall : ∀ c ∈ cs ++ [a], ClmIn (ordN ns) c ∧ ClmOk c := fun c hc => by
      rcases List.mem_append.mp hc with q | q
      · exact ⟨hi c q, ho c q⟩
      · rw [List.mem_singleton.mp q]; exact ⟨hpi.clm a ham, hpo.clm a ham⟩
    have hb : mMakeF "Book" 2 f_Book_init (mCons (mVar 0) (mCons (mBin oAdd (mVar 1) (mLst (mCons (mVar 4) mNil))) mNil)) [some (.lst (ns.map .str)), some (.loc n), some (pairD p), some (.loc S.length), some (clmD a)] S1 = .ok (bookD (ordN ns) (cs ++ [a])) S1 :=
      d_mkBook hcl (ns := ns) (d := .lst ((cs ++ [a]).map clmD)) (by simp! [eadd]) hn (fun X => IsQ.lst _) (fun c hc => (hall c hc).1) (by simp; omega)
    have ety : tyB "list" S1 (.loc S.length) = true := by rw [hS1]; exact top_tyB
    have hsa : tAppend (.loc S.length) [.int ((lotsF (ordN ns) (cs ++ [a])).length : Int)] S1 = .ok .non (S ++ [.lst ((((answers p).take (k + 1)).map fun a => ((lotsF (ordN ns) (cs ++ [a])).length : Int)).map .int)]) := by
      rw [hS1, top_append, if_pos (by
        rw [List.length_map, List.length_map, List.length_take]
        unfold lim
        omega), take_succ ha, List.map_append, List.map_append]
      rfl
    simp! [ety, hb, d_lots_left hcl hol (fun c hc => (hall c hc).2) (by simp; omega), List.length_map, hsa]
    exact ⟨trivial, _, rfl⟩
  · rintro L S1 ⟨rfl, o4, rfl⟩
    rw [List.length_map, List.take_length]
    rw [show ((answers p).map fun a => ((lotsF (ordN ns) (cs ++ [a])).length : Int)) = counts (ordN ns) cs p from rfl]
    simp! [f_maxQ (asLst_loc top_at) (max_some (ns := ordN ns) (cs := cs) (p := p))]
    rw [gc_val hS rfl]
    exact ⟨rfl, rfl⟩
end Wk
set_option linter.all false
set_option maxRecDepth 100000
set_option maxHeartbeats 4000000
namespace Wk
open PySem PySem.Spec PyProof.Rows L2 MM
/-! ## plain data -/
def Pl (k : Nat) (d : D) : Prop := ∃ p, toP d = some p ∧ p.canLay0 = true ∧ p.depth ≤ k
theorem Pl.mono {k j : Nat} {d : D} (h : Pl k d) (hk : k ≤ j) : Pl j d := by
  obtain ⟨p, h1, h2, h3⟩ := h
  exact ⟨p, h1, h2, Nat.le_trans h3 hk⟩
theorem Pl.str {x : Str} (h : PyData.strOk x = true) : Pl 0 (.str x) := ⟨.str x, rfl, by unfold PyData.canLay0; exact h, by unfold PyData.depth; exact Nat.le_refl 0⟩
theorem Pl.int {i : Int} : Pl 0 (.int i) := ⟨.int i, rfl, by unfold PyData.canLay0; rfl, by unfold PyData.depth; exact Nat.le_refl 0⟩
theorem Pl.all {k : Nat} : ∀ xs : List D, (∀ x ∈ xs, Pl k x) → ∃ ps, toPs xs = some ps ∧ PyData.canLayAll0 ps = true ∧ PyData.depthAll ps ≤ k ∧ ps.length = xs.length
  | [], _ => ⟨[], rfl, by unfold PyData.canLayAll0; rfl, by unfold PyData.depthAll; omega, rfl⟩
  | x :: xs, h => by
    obtain ⟨p, h1, h2, h3⟩ := h x (by simp)
    obtain ⟨ps, e1, e2, e3, e4⟩ := Pl.all xs fun y hy => h y (by simp [hy])
    refine ⟨p :: ps, ?_, ?_, ?_, by simp [e4]⟩
    · show (match toP x, toPs xs with
        | some p, some ps => some (p :: ps)
        | _, _ => none) = _
      rw [h1, e1]
    · unfold PyData.canLayAll0
      rw [h2, e2]
      rfl
    · unfold PyData.depthAll
      omega
theorem Pl.tup {k : Nat} {xs : List D} (h : ∀ x ∈ xs, Pl k x) : Pl (k + 1) (.tup xs) := by
  obtain ⟨ps, e1, e2, e3, _⟩ := Pl.all xs h
  refine ⟨.tuple ps, ?_, ?_, ?_⟩
  · show (toPs xs).map PyData.tuple = _
    rw [e1]
    rfl
  · unfold PyData.canLay0
    exact e2
  · unfold PyData.depth
    omega
theorem Pl.pt {ns : List Str} (hn : ∀ x ∈ ns, PyData.strOk x = true) : ∀ t : Pt, PtIn ns t → Pl t.dep t.d
  | .nm x, h => Pl.str (hn x h)
  | .fk a b c, ⟨ha, hb, hc⟩ => by
    show Pl (max a.dep (max b.dep c.dep) + 1) (.tup [.str "fork", a.d, b.d, c.d])
    refine Pl.tup fun x hx => ?_
    simp only [List.mem_cons, List.not_mem_nil, or_false] at hx
    rcases hx with rfl | rfl | rfl | rfl
    · exact (Pl.str ok_fork).mono (Nat.zero_le _)
    · exact (Pl.pt hn a ha).mono (by omega)
    · exact (Pl.pt hn b hb).mono (by omega)
    · exact (Pl.pt hn c hc).mono (by omega)
theorem Pl.sum {ns : List Str} (hn : ∀ x ∈ ns, PyData.strOk x = true) {s : List Term} (h : SumIn ns s) : Pl 10 (sumD s) := by
  refine Pl.tup fun x hx => ?_
  obtain ⟨t, ht, rfl⟩ := List.mem_map.mp hx
  have hi := h.all t ht
  refine Pl.tup (k := 8) fun y hy => ?_
  simp only [List.mem_cons, List.not_mem_nil, or_false] at hy
  rcases hy with rfl | rfl | rfl
  · exact Pl.int.mono (Nat.zero_le _)
  · exact (Pl.pt hn _ hi.a.2).mono (by have := hi.a.1; omega)
  · exact (Pl.pt hn _ hi.b.2).mono (by have := hi.b.1; omega)
theorem ok_wd (w : Wd) : PyData.strOk (wdS w) = true := by cases w <;> decide +kernel
theorem Pl.clm {ns : List Str} (hn : ∀ x ∈ ns, PyData.strOk x = true) {c : Clm} (h : ClmIn ns c) : Pl 11 (clmD c) := by
  refine Pl.tup (k := 10) fun y hy => ?_
  simp only [List.mem_cons, List.not_mem_nil, or_false] at hy
  rcases hy with rfl | rfl | rfl
  · exact (Pl.str (ok_wd _)).mono (Nat.zero_le _)
  · exact Pl.sum hn h.l
  · exact Pl.sum hn h.r
theorem ne_nil {S : Sto} {n : Nat} {ns : List Str} (hn : ∀ x ∈ ns, PyData.strOk x = true) {cs : List Clm} (hat : S[n]? = some (.lst (cs.map clmD))) (h : ∀ c ∈ cs, ClmIn ns c) : oNe (.loc n) (.lst []) S = .ok (.bl (!decide (cs.length = 0))) S := by
  obtain ⟨ps, e1, e2, e3, e4⟩ := Pl.all (k := 11) (cs.map clmD) fun x hx => by
    obtain ⟨c, hc, rfl⟩ := List.mem_map.mp hx
    exact Pl.clm hn (h c hc)
  have t1 : toPS S (.loc n) = some (.list ps) := by
    show (match S[n]? with
      | some (.lst xs) => (toPs xs).map PyData.list
      | _ => none) = _
    rw [hat]
    simp only [e1, Option.map_some]
  have t2 : toPS S (.lst []) = some (.list []) := rfl
  unfold oNe eqP
  rw [t1, t2]
  simp only
  have s1 : SeqAt.shaped (.list ps) = true := by
    unfold SeqAt.shaped PyData.canLay0 PyData.depth
    rw [e2, decide_eq_true (by omega)]
    rfl
  have s2 : SeqAt.shaped (.list []) = true := rfl
  rw [s1, s2]
  have e5 : PyData.eqv (.list ps) (.list []) = decide (cs.length = 0) := by
    unfold PyData.eqv
    rw [List.length_map] at e4
    cases ps with
    | nil =>
      unfold PyData.eqvAll
      rw [← e4]
      rfl
    | cons p r =>
      unfold PyData.eqvAll
      rw [← e4]
      rfl
  rw [e5, Bool.true_xor]
  simp
/-! ## the facts six times -/
def full6 (cs : List Clm) : List Clm := (reps 6 cs).take 6
theorem reps_map {α β : Type} (f : α → β) (n : Nat) (xs : List α) : reps n (xs.map f) = (reps n xs).map f := by
  unfold reps
  rw [List.map_flatten, List.map_replicate]
theorem reps_succ {α : Type} (n : Nat) (xs : List α) : reps (n + 1) xs = xs ++ reps n xs := by
  unfold reps
  rw [List.replicate_succ, List.flatten_cons]
theorem reps_mem {α : Type} {x : α} {xs : List α} : ∀ n, x ∈ reps n xs → x ∈ xs
  | 0, h => by simp [reps] at h
  | n + 1, h => by
    rw [reps_succ] at h
    rcases List.mem_append.mp h with q | q
    · exact q
    · exact reps_mem n q
theorem full6_set {cs : List Clm} (hl : cs.length ≤ 6) : ∀ c, c ∈ full6 cs ↔ c ∈ cs := by
  intro c
  unfold full6
  constructor
  · intro h
    exact reps_mem 6 (List.mem_of_mem_take h)
  · intro h
    rw [reps_succ, List.take_append, List.take_of_length_le hl]
    exact List.mem_append.mpr (.inl h)
theorem full6_len (cs : List Clm) : (full6 cs).length ≤ 6 := by
  unfold full6
  rw [List.length_take]
  omega
theorem cut_6 (xs : List D) : cutL xs none (some 6) = xs.take 6 := by
  unfold cutL
  rw [HT.sIx_none, show (6 : Int) = ((6 : Nat) : Int) from rfl, HT.sIx_nat, List.drop_zero, Nat.sub_zero]
  by_cases h : 6 ≤ xs.length
  · rw [Nat.min_eq_left h]
  · rw [Nat.min_eq_right (by omega), List.take_of_length_le (Nat.le_refl _), List.take_of_length_le (by omega)]
theorem o_repQ {S : Sto} {n : Nat} {xs : List D} (h : S[n]? = some (.lst xs)) (hl : xs.length * 6 ≤ lim) : oMul (.loc n) (.int 6) S = .ok (.lst (reps 6 xs)) S := by
  have e1 : ∀ d, oMulI (.loc n) d S = .stuck := fun d => rfl
  have e2 := o_rep0 (S := S) (xs := xs) 6 hl (by omega)
  unfold oMul orOp
  rw [e1]
  simp only
  unfold oRep at e2 ⊢
  rw [asLst_loc h]
  exact e2
theorem permD10 (a b : D) : permD [1, 0] [a, b] = [b, a] := rfl
theorem f_lenScr {S : Sto} {is : List Int} : bLen [.scr is] S = .ok (.int (is.length : Int)) S := rfl
def roundF : Nat := 1000
end Wk
set_option linter.all false
set_option maxRecDepth 100000
set_option maxHeartbeats 4000000
namespace Wk
open PySem PySem.Spec PyProof.Rows L2 MM
theorem d_facts {f : Nat} {T S : Sto} {B : Cell} {xs : List D} (h : Drw f (T ++ [.lst [], B]) S) (hl : xs.length ≤ 100) (hc : ∀ d ∈ xs, ∀ N, clean N d = true) (a0 a1 a2 a3 a5 a6 : Option D) (rest : MM.Loc) :
    Ev (loopF (gN 6) (bDrop (mBM "list" tAppend (mVar 4) (mCons (mVar 6) mNil))) none xs (a0 :: a1 :: a2 :: a3 :: some (.loc (T.length + 2)) :: a5 :: a6 :: rest) S) fun fl S2 => ∃ o6, fl = .nx (a0 :: a1 :: a2 :: a3 :: some (.loc (T.length + 2)) :: a5 :: o6 :: rest) ∧ Drw f (T ++ [.lst xs, B]) S2 := by
  refine ev_for (gd := none) (fun k L S1 => ∃ o6, L = a0 :: a1 :: a2 :: a3 :: some (.loc (T.length + 2)) :: a5 :: o6 :: rest ∧ Drw f (T ++ [.lst (xs.take k), B]) S1) (fun _ _ _ _ => trivial) ?_ ?_ ⟨_, rfl, h⟩
  · rintro k d L S1 hk ⟨o6, rfl, h1⟩
    have hat := h1.at_ (n := T.length) (c := .lst (xs.take k)) top_at
    simp! [tyB_loc hat]
    refine ev_mono (h1.append (U := [B]) (d := d) (by rw [List.length_take]; unfold lim; omega) (hc d (List.mem_of_getElem? hk) _)) fun v S2 ⟨hv, h2⟩ => ?_
    try simp! []
    exact ⟨_, rfl, by rw [take_succ hk]; exact h2⟩
  · rintro L S1 ⟨o6, rfl, h1⟩
    rw [List.take_length] at h1
    exact ⟨_, rfl, h1⟩
theorem d_pairs {ns : List Str} (hne : ns ≠ []) (hnl : ns.length ≤ 10) {F : Nat} {T S : Sto} {A : Cell} {n : Nat} (hn4 : n ≤ 4) (h : Drw (F + n * (2 * sF 2 1 + 1)) (T ++ [A, .lst []]) S) (a0 a2 a4 a6 a7 a8 : Option D) (rest : MM.Loc) :
    Ev (loopF (gN 7) (bSeq (bAsg (mTup (mCons (mCall 5 f__law_sum (mCons (mVar 1) (mCons (mVar 3) (mCons (mC (.int 2)) (mCons (mC (.int 1)) (mCons (mC (.int 2)) mNil)))))) (mCons (mCall 5 f__law_sum (mCons (mVar 1) (mCons (mVar 3) (mCons (mC (.int 2)) (mCons (mC (.int 1)) (mCons (mC (.int 2)) mNil)))))) mNil))) (gN 8))
    (bDrop (mBM "list" tAppend (mVar 5) (mCons (mCall 2 f__law_pick (mCons (mVar 1) (mCons (mBin oAdd (mLst (mCons (mVar 8) (mCons (mVar 8) (mCons (mVar 8) mNil)))) (mVar 5)) mNil))) mNil)))) none ((List.range n).map fun (k : Nat) => .int (k : Int)) (a0 :: some (.loc 1) :: a2 :: some (.lst (ns.map .str)) :: a4 :: some (.loc (T.length + 3)) :: a6 :: a7 :: a8 :: rest) S) fun fl S2 => ∃ (ps : List Pr) (o7 o8 : Option D), fl = .nx (a0 :: some (.loc 1) :: a2 :: some (.lst (ns.map .str)) :: a4 :: some (.loc (T.length + 3)) :: a6 :: o7 :: o8 :: rest) ∧ ps.length = n ∧ (∀ p ∈ ps, PrIn ns p ∧ PrOk p) ∧ Drw F (T ++ [A, .lst (ps.map pairD)]) S2 := by
  have eT : ∀ X : Cell, T ++ [A, X] = (T ++ [A]) ++ [X] := fun X => by rw [List.append_assoc]; rfl
  have eTl : (T ++ [A]).length + 2 = T.length + 3 := by simp
  refine ev_for (gd := none) (fun k L S1 => ∃ (ps : List Pr) (o7 o8 : Option D), L = a0 :: some (.loc 1) :: a2 :: some (.lst (ns.map .str)) :: a4 :: some (.loc (T.length + 3)) :: a6 :: o7 :: o8 :: rest ∧ ps.length = k ∧ (∀ p ∈ ps, PrIn ns p ∧ PrOk p) ∧ Drw (F + (n - k) * (2 * sF 2 1 + 1)) (T ++ [A, .lst (ps.map pairD)]) S1) (fun _ _ _ _ => trivial) ?_ ?_ ⟨[], _, _, rfl, rfl, by simp, h⟩
  · rintro k d L S1 hk ⟨ps, o7, o8, rfl, hps, hall, h1⟩
    obtain ⟨k', hk', rfl⟩ := map_at hk
    obtain ⟨hkl, ekk⟩ := List.getElem?_eq_some_iff.mp hk'
    rw [List.getElem_range] at ekk
    subst ekk
    rw [List.length_range] at hkl
    have e2 : (n - k) * (2 * sF 2 1 + 1) = (n - (k + 1)) * (2 * sF 2 1 + 1) + (2 * sF 2 1 + 1) := by
      have : n - k = (n - (k + 1)) + 1 := by omega
      rw [this, Nat.add_mul, Nat.one_mul]
    rw [e2] at h1
    generalize hG : F + (n - (k + 1)) * (2 * sF 2 1 + 1) = G
    have h2 : Drw (G + 1 + sF 2 1 + sF 2 1) (T ++ [A, .lst (ps.map pairD)]) S1 := h1.mono (by omega)
    have ec2 : ((2 : Nat) : Int) = 2 := rfl
    have ec1 : ((1 : Nat) : Int) = 1 := rfl
    have ds1 := d_sum (ns := ns) (most := 2) (deep := 1) (top := 2) hne hnl (by omega) (by omega) ⟨by omega, by omega⟩ h2
    rw [ec2, ec1] at ds1
    simp! []
    refine ev_mono ds1 fun v S2 ⟨h3, s1, hv, i1, k1⟩ => ?_
    subst hv
    have ds2 := d_sum (ns := ns) (most := 2) (deep := 1) (top := 2) hne hnl (by omega) (by omega) ⟨by omega, by omega⟩ h3
    rw [ec2, ec1] at ds2
    try simp! []
    refine ev_mono ds2 fun v S3 ⟨h4, s2, hv, i2, k2⟩ => ?_
    subst hv
    rw [eT] at h4
    have hat := h4.at_ (n := (T ++ [A]).length) (c := .lst (ps.map pairD)) top_at
    rw [eTl] at hat
    have ep : D.tup [sumD s1, sumD s2] = pairD (s1, s2) := rfl
    have eadd : oAdd (.lst [pairD (s1, s2), pairD (s1, s2), pairD (s1, s2)]) (.loc (T.length + 3)) S3 = .ok (.lst (([(s1, s2), (s1, s2), (s1, s2)] ++ ps).map pairD)) S3 := by
      rw [o_addR hat (by rw [List.length_map]; simp; unfold lim; omega), List.map_append]
      rfl
    try simp! []
    rw [ep]
    simp! [tyB_loc hat, eadd]
    refine ev_mono (d_pick h4 (by simp) (by simp; omega)) fun v S4 ⟨h5, hv⟩ => ?_
    obtain ⟨p, hp, rfl⟩ := List.mem_map.mp hv
    have hp2 : PrIn ns p ∧ PrOk p := by
      rcases List.mem_append.mp hp with q | q
      · simp only [List.mem_cons, List.not_mem_nil, or_false, or_self] at q
        rw [q]
        exact ⟨⟨i1, i2⟩, ⟨k1, k2⟩⟩
      · exact hall p q
    have cp : ∀ N, clean N (pairD p) = true := fun N => by
      show (clean N (sumD p.1) && (clean N (sumD p.2) && true)) = true
      rw [clean_sum, clean_sum]
      rfl
    have ha := h5.append (U := []) (d := pairD p) (by rw [List.length_map]; unfold lim; omega) (cp _)
    rw [eTl] at ha
    try simp! []
    refine ev_mono ha fun v S5 ⟨hv, h6⟩ => ?_
    try simp! []
    refine ⟨ps ++ [p], _, _, rfl, by simp [hps], fun x hx => ?_, ?_⟩
    · rcases List.mem_append.mp hx with y | y
      · exact hall x y
      · rw [List.mem_singleton.mp y]; exact hp2
    · rw [eT, List.map_append]
      exact h6
  · rintro L S1 ⟨ps, o7, o8, rfl, hps, hall, h1⟩
    rw [List.length_map, List.length_range] at hps h1
    exact ⟨ps, _, _, rfl, hps, hall, h1.mono (by omega)⟩
end Wk
set_option linter.all false
set_option maxRecDepth 100000
set_option maxHeartbeats 4000000
namespace Wk
open PySem PySem.Spec PyProof.Rows L2 MM
theorem d_law {is : List Int} (hl : is.length ≤ 100000) : f_law [.scr is] [] = .ok (.bl true) [] := by
  apply of_ev
  unfold f_law
  rw [fnG_eq]
  have el : locs n_law.length [.scr is] = [some (.scr is), none, none, none, none, none, none, none, none, none, none, none, none, none] := rfl
  rw [el]
  unfold b_law
  rw [ev_bind, ev_bind, x_seq, ev_bind]
  refine ev_mono (P := fun fl S1 => Drw (2 ^ 39) [] S1 ∧ fl = .nx [some (.scr is), some (.loc 1), none, none, none, none, none, none, none, none, none, none, none, none]) ?_ ?_
  · simp! []
    refine ev_mono (d_begin hl) fun v S1 ⟨hv, h1⟩ => ?_
    subst hv
    try simp! []
    exact ⟨h1, trivial⟩
  rintro fl S1 ⟨h1, rfl⟩
  rw [seqK_nx, x_seq, ev_bind]
  have hmin : (if (2 : Int) < (is.length : Int) then (2 : Int) else (is.length : Int)) = ((min is.length 2 : Nat) : Int) := by split <;> omega
  have e1m : (1 : Int) + ((min is.length 2 : Nat) : Int) = ((1 + min is.length 2 : Nat) : Int) := by omega
  have hn3 : 1 + min is.length 2 ≤ 3 := by omega
  have hn62 : 1 + min is.length 2 < 2 ^ 62 := by omega
  refine ev_mono (P := fun fl S2 => ∃ L T, fl = .nx L ∧ Drw 0 T S2) ?_ ?_
  · simp! [f_lenScr, hmin, e1m, hn62]
    generalize hN : 1 + min is.length 2 = N at hn3
    refine ev_for (gd := none) (fun k L S2 => ∃ T o2 o3 o4 o5 o6 o7 o8 o9 o10 o11 o12 o13, L = [some (.scr is), some (.loc 1), o2, o3, o4, o5, o6, o7, o8, o9, o10, o11, o12, o13] ∧ Drw ((N - k) * 1000) T S2) (fun _ _ _ _ => trivial) ?_ ?_ ⟨[], _, _, _, _, _, _, _, _, _, _, _, _, rfl, h1.mono (by
      have : (N - 0) * 1000 ≤ 3000 := by omega
      exact Nat.le_trans this (by decide +kernel))⟩
    · rintro k d L S2 hk ⟨T, o2, o3, o4, o5, o6, o7, o8, o9, o10, o11, o12, o13, rfl, h2⟩
      obtain ⟨k', hk', rfl⟩ := map_at hk
      obtain ⟨hkl, ekk⟩ := List.getElem?_eq_some_iff.mp hk'
      rw [List.getElem_range] at ekk
      subst ekk
      rw [List.length_range] at hkl
      have h2 : Drw ((N - (k + 1)) * 1000 + 1000) T S2 := h2.mono (by omega)
      generalize (N - (k + 1)) * 1000 = F at h2 ⊢
      rw [x_gN, ev_ok]
      simp only [List.set_cons_succ, List.set_cons_zero]
      -- the names
      rw [x_seq, ev_bind]
      refine ev_mono (P := fun fl S3 => ∃ ns : List Str, NamesOk ns ∧ ns.length ≤ 5 ∧ Drw (F + 900) (T ++ [.lst [], .lst []]) S3 ∧ fl = .nx [some (.scr is), some (.loc 1), some (.int (k : Int)), some (.lst (ns.map .str)), some (.loc (T.length + 2)), some (.loc (T.length + 3)), o6, o7, o8, o9, o10, o11, o12, o13]) ?_ ?_
      · have e4 : [D.int 4, D.int 4, D.int 4, D.int 5] = [(4 : Int), 4, 4, 5].map .int := rfl
        simp! []
        rw [e4]
        refine ev_mono (d_pick (f := F + 980) (h2.mono (by omega)) (by simp) (by simp)) fun v S3 ⟨h3, hv⟩ => ?_
        obtain ⟨m, hm, rfl⟩ := List.mem_map.mp hv
        have hmb : 2 ≤ m ∧ m ≤ 5 := by
          simp only [List.mem_cons, List.not_mem_nil, or_false] at hm
          omega
        try simp! []
        refine ev_mono (d_towns (f := F + 900) h3 hmb) fun v S4 ⟨h4, ns, hv, hns, h5⟩ => ?_
        subst hv
        have hSl := h4.len
        have hp1 := h4.push (c := .lst []) rfl
        have hp2 := hp1.push (c := .lst []) rfl
        have eS : S4.length + 1 = T.length + 3 := by omega
        have eT : T ++ [Cell.lst []] ++ [Cell.lst []] = T ++ [.lst [], .lst []] := by rw [List.append_assoc]; rfl
        rw [eT] at hp2
        simp! [Nat.zero_le, hSl, List.length_append, eS]
        exact ⟨ns, hns, h5, hp2, rfl⟩
      rintro fl S3 ⟨ns, hns, hnl5, h3, rfl⟩
      have hne : ns ≠ [] := fun e => by
        have := hns.l2
        rw [e] at this
        simp at this
      have hnl : ns.length ≤ 10 := by omega
      have hord := ordN_ok hns
      -- the facts
      rw [seqK_nx, x_seq, ev_bind]
      refine ev_mono (P := fun fl S4 => ∃ (cs : List Clm) (o6 : Option D), cs.length ≤ 4 ∧ (∀ c ∈ cs, ClmIn ns c ∧ ClmOk c) ∧ Drw (F + 200) (T ++ [.lst (cs.map clmD), .lst []]) S4 ∧ fl = .nx [some (.scr is), some (.loc 1), some (.int (k : Int)), some (.lst (ns.map .str)), some (.loc (T.length + 2)), some (.loc (T.length + 3)), o6, o7, o8, o9, o10, o11, o12, o13]) ?_ ?_
      · simp! []
        refine ev_mono (d_near (f := F + 200) hne hnl (h3.mono (by
          have : nF = 189 := by decide
          omega))) fun v S4 ⟨h4, cs, hv, hcl, hall⟩ => ?_
        subst hv
        simp! []
        refine ev_mono (d_facts h4 (by rw [List.length_map]; omega) (fun d hd N => by
          obtain ⟨c, _, rfl⟩ := List.mem_map.mp hd
          exact clean_clm c) _ _ _ _ _ _ _) fun fl S5 ⟨p6, hfl, h5⟩ => ?_
        exact ⟨cs, p6, hcl, hall, h5, hfl⟩
      rintro fl S4 ⟨cs, p6, hcl, hcs, h4, rfl⟩
      -- the pairs
      rw [seqK_nx, x_seq, ev_bind]
      refine ev_mono (P := fun fl S5 => ∃ (ps : List Pr) (o7 o8 : Option D), (1 ≤ ps.length ∧ ps.length ≤ 4) ∧ (∀ p ∈ ps, PrIn ns p ∧ PrOk p) ∧ Drw F (T ++ [.lst (cs.map clmD), .lst (ps.map pairD)]) S5 ∧ fl = .nx [some (.scr is), some (.loc 1), some (.int (k : Int)), some (.lst (ns.map .str)), some (.loc (T.length + 2)), some (.loc (T.length + 3)), p6, o7, o8, o9, o10, o11, o12, o13]) ?_ ?_
      · simp! []
        refine ev_mono (d_take (f := F + 199) (h4.mono (by omega)) (m := 4) (by omega) (by decide +kernel)) fun v S5 ⟨h5, i, hv, hi⟩ => ?_
        subst hv
        have ei : (1 : Int) + (i : Int) = ((i + 1 : Nat) : Int) := by omega
        have hi4 : i + 1 ≤ 4 := by omega
        have hi62 : i + 1 < 2 ^ 62 := by omega
        simp! [ei, hi62]
        refine ev_mono (d_pairs hne hnl hi4 (F := F) (h5.mono (by
          have : sF 2 1 = 21 := by decide
          rw [this]
          omega)) _ _ _ _ _ _ _) fun fl S6 ⟨ps, p7, p8, hfl, hpl, hpa, h6⟩ => ?_
        exact ⟨ps, p7, p8, by omega, hpa, h6, hfl⟩
      rintro fl S5 ⟨ps, p7, p8, hpl, hps, h5, rfl⟩
      rw [seqK_nx]
      have hat1 := h5.at_ (n := T.length) (c := .lst (cs.map clmD)) top_at
      have hat2 : S5[T.length + 3]? = some (.lst (ps.map pairD)) := h5.at_ (n := T.length + 1) (c := .lst (ps.map pairD)) snd_at
      have hS := h5.cl
      have hci : ∀ c ∈ cs, ClmIn (ordN ns) c := fun c hc => (hcs c hc).1.ord
      have hco : ∀ c ∈ cs, ClmOk c := fun c hc => (hcs c hc).2
      have hpi : ∀ p ∈ ps, PrIn (ordN ns) p := fun p hp => (hps p hp).1.ord
      have hpo : ∀ p ∈ ps, PrOk p := fun p hp => (hps p hp).2
      have dm : ∀ p ∈ ps, f__law_most_left [.lst (ns.map .str), .loc (T.length + 2), pairD p] S5 = .ok (.int (mostN (ordN ns) cs p)) S5 := fun p hp => d_mostl hS hns hat1 hci hco (by omega) (hpi p hp) (hpo p hp)
      obtain ⟨m, j, hmn, hj⟩ := best_ex (l := ps.map (mostN (ordN ns) cs)) (fun e => by
        have := congrArg List.length e
        rw [List.length_map] at this
        simp at this
        rw [this] at hpl
        simp at hpl)
      have hbest : bestN (ordN ns) cs ps = .int (j : Int) := by
        unfold bestN
        rw [hmn]
        simp only
        rw [hj]
      have eb : (ps.map fun p => D.int (mostN (ordN ns) cs p)) = (ps.map (mostN (ordN ns) cs)).map .int := by rw [List.map_map]; rfl
      have hmk : ∀ (L : MM.Loc), L[3]? = some (some (.lst (ns.map .str))) → L[4]? = some (some (.loc (T.length + 2))) → mMakeF "Book" 2 f_Book_init (mCons (mVar 3) (mCons (mVar 4) mNil)) L S5 = .ok (bookD (ordN ns) cs) S5 := fun L l3 l4 =>
        d_mkBook hS (ns := ns) (d := .loc (T.length + 2)) (by simp! [l3, l4]) hns (fun X => IsQ.loc (low_at hat1)) hci (by omega)
      have hf6 := full6_set (cs := cs) (by omega)
      have hmk2 : ∀ (L : MM.Loc), L[3]? = some (some (.lst (ns.map .str))) → L[12]? = some (some (.lst ((full6 cs).map clmD))) → mMakeF "Book" 2 f_Book_init (mCons (mVar 3) (mCons (mVar 12) mNil)) L S5 = .ok (bookD (ordN ns) (full6 cs)) S5 := fun L l3 l4 =>
        d_mkBook hS (ns := ns) (d := .lst ((full6 cs).map clmD)) (by simp! [l3, l4]) hns (fun X => IsQ.lst _) (fun c hc => hci c ((hf6 c).mp hc)) (full6_len cs)
      have db1 : f_best_asked [bookD (ordN ns) cs, .loc (T.length + 3)] S5 = .ok (.int (j : Int)) S5 := by
        rw [d_best_asked hS hord hco (by omega) (IsQ.loc hat2) hpi hpo hpl.1 hpl.2, hbest]
      have db2 : f_best_asked [bookD (ordN ns) cs, .tup (ps.map pairD)] S5 = .ok (.int (j : Int)) S5 := by
        rw [d_best_asked hS hord hco (by omega) (IsQ.tupl _) hpi hpo hpl.1 hpl.2, hbest]
      have db3 : f_best_asked [bookD (ordN ns) (full6 cs), .loc (T.length + 3)] S5 = .ok (.int (j : Int)) S5 := by
        rw [d_best_asked hS hord (fun c hc => hco c ((hf6 c).mp hc)) (by have := full6_len cs; omega) (IsQ.loc hat2) hpi hpo hpl.1 hpl.2, bestN_set hf6, hbest]
      have hrep : oMul (.loc (T.length + 2)) (.int 6) S5 = .ok (.lst (reps 6 (cs.map clmD))) S5 := o_repQ hat1 (by rw [List.length_map]; unfold lim; omega)
      have hsl : oSl (.lst (reps 6 (cs.map clmD))) none (some 6) S5 = .ok (.lst ((full6 cs).map clmD)) S5 := by
        show Out.ok (D.lst (cutL (reps 6 (cs.map clmD)) none (some 6))) S5 = _
        rw [cut_6, reps_map, ← List.map_take]
        rfl
      have hnn := ne_nil (ns := ns) (fun x hx => (hns.ok x hx).str) hat1 (fun c hc => (hcs c hc).1)
      have htq : bTuple [.loc (T.length + 3)] S5 = .ok (.tup (ps.map pairD)) S5 := f_tupL (asLst_loc hat2)
      have hmq : bMin [.lst ((ps.map (mostN (ordN ns) cs)).map .int)] S5 = .ok (.int m) S5 := f_minQ rfl hmn
      have htx : tIndex (.lst ((ps.map (mostN (ordN ns) cs)).map .int)) [.int m] S5 = .ok (.int (j : Int)) S5 := t_index hj
      simp! [items_loc hat2]
      rw [lc_map (gd := some (T.length + 3, ps.map pairD)) (f := fun p => D.int (mostN (ordN ns) cs p)) pairD hat2 ps (fun p hp => ⟨_, rfl, by simp! [dm p hp]⟩) (by unfold lim; omega), eb]
      simp! [hmq, htx, hmk, db1, db2, htq, permD10, hrep, asInt_int, hsl, hnn, hmk2, db3, ite_ok, ite_self]
      exact ⟨_, _, _, _, _, _, _, _, _, _, _, _, _, rfl, h5⟩
    · rintro L S2 ⟨T, o2, o3, o4, o5, o6, o7, o8, o9, o10, o11, o12, o13, rfl, h2⟩
      exact ⟨_, T, rfl, h2.mono (Nat.zero_le _)⟩
  rintro fl S2 ⟨L, T, rfl, h2⟩
  rw [seqK_nx]
  simp! []
  have hnil : Cl ([] : Sto) := fun c hc => by simp at hc
  have := gc_val (S := []) (T := S2) (d := .bl true) hnil rfl
  rw [List.nil_append] at this
  rw [show ([] : Sto).length = 0 from rfl] at this
  rw [this]
  exact ⟨rfl, rfl⟩
end Wk
end
set_option linter.all false
set_option maxRecDepth 100000
set_option maxHeartbeats 4000000
namespace Fc
open PySem PySem.Spec PyProof.Rows L2 MM HP
abbrev cs : List Str := ["Book", "Tableau"]
theorem cls_Book (K : PySem.W.Frag) : (gamOf K cs).cls "Book" = some (He.ga K "Book") := HP.cls_of K (by decide +kernel)
theorem cls_Tableau (K : PySem.W.Frag) : (gamOf K cs).cls "Tableau" = some (He.ga K "Tableau") := HP.cls_of K (by decide +kernel)
theorem isk_ok {K : PySem.W.Frag} (hb : HP.insB K "Book" = true) (hc : Cls K (He.ga K "Book")) : IsK (gamOf K cs) Wk.kt Wk.inst where
  kt := by
    intro s t b u w h hs ht
    cases s with
    | inl a =>
      cases t with
      | inl a2 =>
        cases hs
        cases ht
        exact kit_ty h
      | inr C => cases h
    | inr C =>
      cases t with
      | inl a2 => cases h
      | inr C2 =>
        have h : (if C = C2 ∧ Wk.inst C = true then some true else none) = some b := h
        split at h
        · rename_i q
          obtain ⟨q1, q2⟩ := q
          subst q1
          have e : C = "Book" := of_decide_eq_true q2
          subst e
          cases h
          cases hs with
          | cls h1 =>
            cases ht with
            | cls h2 =>
              rw [cls_Book K] at h1 h2
              cases h1
              cases h2
              exact (HP.insB_ok hb hc).2
        · cases h
  ins := by
    intro C c hi h
    have e : C = "Book" := of_decide_eq_true hi
    subst e
    rw [cls_Book K] at h
    cases h
    exact (HP.insB_ok hb hc).1
section
variable {P : Program} {w : World} {K : PySem.W.Frag} {h base : Heap} {mg : Str → Option Value}
theorem fx (KX : K.In h) (Gm : h.Ns mainGlobals mg) (c : HP.SaysP Hd.fa Hd.fn Hd.ts Hd.pr Hd.ex w h K) : Wk.Fx P w K mg base (gamOf K cs) where
  ok := gam_ok K cs
  hK := rfl
  isk := isk_ok ((Bool.and_eq_true_iff.mp (Bool.and_eq_true_iff.mp c.ex_).2).2) (He.cls_ok (c.d.fact 0 (f := .cls "Book") rfl))
  a_Book_own_facts := ⟨_, cls_Book K, (He.cls_ok (c.d.fact 0 (f := .cls "Book") rfl)), He.noat_ok (c.d.fact 1 (f := .noat "Book" "own_facts") rfl)⟩
  a_Book_own_places := ⟨_, cls_Book K, (He.cls_ok (c.d.fact 0 (f := .cls "Book") rfl)), He.noat_ok (c.d.fact 2 (f := .noat "Book" "own_places") rfl)⟩
  a_Tableau_base := ⟨_, cls_Tableau K, (He.cls_ok (c.d.fact 3 (f := .cls "Tableau") rfl)), He.noat_ok (c.d.fact 4 (f := .noat "Tableau" "base") rfl)⟩
  a_Tableau_divisor := ⟨_, cls_Tableau K, (He.cls_ok (c.d.fact 3 (f := .cls "Tableau") rfl)), He.noat_ok (c.d.fact 5 (f := .noat "Tableau" "divisor") rfl)⟩
  a_Tableau_goal := ⟨_, cls_Tableau K, (He.cls_ok (c.d.fact 3 (f := .cls "Tableau") rfl)), He.noat_ok (c.d.fact 6 (f := .noat "Tableau" "goal") rfl)⟩
  a_Tableau_lines := ⟨_, cls_Tableau K, (He.cls_ok (c.d.fact 3 (f := .cls "Tableau") rfl)), He.noat_ok (c.d.fact 7 (f := .noat "Tableau" "lines") rfl)⟩
  a_Tableau_many := ⟨_, cls_Tableau K, (He.cls_ok (c.d.fact 3 (f := .cls "Tableau") rfl)), He.noat_ok (c.d.fact 8 (f := .noat "Tableau" "many") rfl)⟩
  a_Tableau_width := ⟨_, cls_Tableau K, (He.cls_ok (c.d.fact 3 (f := .cls "Tableau") rfl)), He.noat_ok (c.d.fact 9 (f := .noat "Tableau" "width") rfl)⟩
  d__law_begin := (by
    obtain ⟨fd, D⟩ := c.d.def_ 0 rfl
    exact ⟨_, fd, (He.glo_ok KX Gm (c.d.fact 10 (f := .glo "_law_begin") rfl)), D⟩)
  d__law_blend := (by
    obtain ⟨fd, D⟩ := c.d.def_ 1 rfl
    exact ⟨_, fd, (He.glo_ok KX Gm (c.d.fact 11 (f := .glo "_law_blend") rfl)), D⟩)
  d__law_claim := (by
    obtain ⟨fd, D⟩ := c.d.def_ 2 rfl
    exact ⟨_, fd, (He.glo_ok KX Gm (c.d.fact 12 (f := .glo "_law_claim") rfl)), D⟩)
  d__law_most_left := (by
    obtain ⟨fd, D⟩ := c.d.def_ 3 rfl
    exact ⟨_, fd, (He.glo_ok KX Gm (c.d.fact 13 (f := .glo "_law_most_left") rfl)), D⟩)
  d__law_near_facts := (by
    obtain ⟨fd, D⟩ := c.d.def_ 4 rfl
    exact ⟨_, fd, (He.glo_ok KX Gm (c.d.fact 14 (f := .glo "_law_near_facts") rfl)), D⟩)
  d__law_pick := (by
    obtain ⟨fd, D⟩ := c.d.def_ 5 rfl
    exact ⟨_, fd, (He.glo_ok KX Gm (c.d.fact 15 (f := .glo "_law_pick") rfl)), D⟩)
  d__law_point := (by
    obtain ⟨fd, D⟩ := c.d.def_ 6 rfl
    exact ⟨_, fd, (He.glo_ok KX Gm (c.d.fact 16 (f := .glo "_law_point") rfl)), D⟩)
  d__law_sum := (by
    obtain ⟨fd, D⟩ := c.d.def_ 7 rfl
    exact ⟨_, fd, (He.glo_ok KX Gm (c.d.fact 17 (f := .glo "_law_sum") rfl)), D⟩)
  d__law_take := (by
    obtain ⟨fd, D⟩ := c.d.def_ 8 rfl
    exact ⟨_, fd, (He.glo_ok KX Gm (c.d.fact 18 (f := .glo "_law_take") rfl)), D⟩)
  d__law_towns := (by
    obtain ⟨fd, D⟩ := c.d.def_ 9 rfl
    exact ⟨_, fd, (He.glo_ok KX Gm (c.d.fact 19 (f := .glo "_law_towns") rfl)), D⟩)
  d__law_words := (by
    obtain ⟨fd, D⟩ := c.d.def_ 10 rfl
    exact ⟨_, fd, (He.glo_ok KX Gm (c.d.fact 20 (f := .glo "_law_words") rfl)), D⟩)
  d_answer := (by
    obtain ⟨fd, D⟩ := c.d.def_ 11 rfl
    exact ⟨_, fd, (He.glo_ok KX Gm (c.d.fact 21 (f := .glo "answer") rfl)), D⟩)
  d_best_asked := (by
    obtain ⟨fd, D⟩ := c.d.def_ 12 rfl
    exact ⟨_, fd, (He.glo_ok KX Gm (c.d.fact 22 (f := .glo "best_asked") rfl)), D⟩)
  d_common_part := (by
    obtain ⟨fd, D⟩ := c.d.def_ 13 rfl
    exact ⟨_, fd, (He.glo_ok KX Gm (c.d.fact 23 (f := .glo "common_part") rfl)), D⟩)
  d_fullest := (by
    obtain ⟨fd, D⟩ := c.d.def_ 14 rfl
    exact ⟨_, fd, (He.glo_ok KX Gm (c.d.fact 24 (f := .glo "fullest") rfl)), D⟩)
  d_fullest_lot := (by
    obtain ⟨fd, D⟩ := c.d.def_ 15 rfl
    exact ⟨_, fd, (He.glo_ok KX Gm (c.d.fact 25 (f := .glo "fullest_lot") rfl)), D⟩)
  d_gap_of := (by
    obtain ⟨fd, D⟩ := c.d.def_ 16 rfl
    exact ⟨_, fd, (He.glo_ok KX Gm (c.d.fact 26 (f := .glo "gap_of") rfl)), D⟩)
  d_has_all := (by
    obtain ⟨fd, D⟩ := c.d.def_ 17 rfl
    exact ⟨_, fd, (He.glo_ok KX Gm (c.d.fact 27 (f := .glo "has_all") rfl)), D⟩)
  d_is_claim_of := (by
    obtain ⟨fd, D⟩ := c.d.def_ 18 rfl
    exact ⟨_, fd, (He.glo_ok KX Gm (c.d.fact 28 (f := .glo "is_claim_of") rfl)), D⟩)
  d_is_list := (by
    obtain ⟨fd, D⟩ := c.d.def_ 19 rfl
    exact ⟨_, fd, (He.glo_ok KX Gm (c.d.fact 29 (f := .glo "is_list") rfl)), D⟩)
  d_is_name := (by
    obtain ⟨fd, D⟩ := c.d.def_ 20 rfl
    exact ⟨_, fd, (He.glo_ok KX Gm (c.d.fact 30 (f := .glo "is_name") rfl)), D⟩)
  d_is_number := (by
    obtain ⟨fd, D⟩ := c.d.def_ 21 rfl
    exact ⟨_, fd, (He.glo_ok KX Gm (c.d.fact 31 (f := .glo "is_number") rfl)), D⟩)
  d_is_pair := (by
    obtain ⟨fd, D⟩ := c.d.def_ 22 rfl
    exact ⟨_, fd, (He.glo_ok KX Gm (c.d.fact 32 (f := .glo "is_pair") rfl)), D⟩)
  d_is_places := (by
    obtain ⟨fd, D⟩ := c.d.def_ 23 rfl
    exact ⟨_, fd, (He.glo_ok KX Gm (c.d.fact 33 (f := .glo "is_places") rfl)), D⟩)
  d_is_point_of := (by
    obtain ⟨fd, D⟩ := c.d.def_ 24 rfl
    exact ⟨_, fd, (He.glo_ok KX Gm (c.d.fact 34 (f := .glo "is_point_of") rfl)), D⟩)
  d_is_side := (by
    obtain ⟨fd, D⟩ := c.d.def_ 25 rfl
    exact ⟨_, fd, (He.glo_ok KX Gm (c.d.fact 35 (f := .glo "is_side") rfl)), D⟩)
  d_is_sum := (by
    obtain ⟨fd, D⟩ := c.d.def_ 26 rfl
    exact ⟨_, fd, (He.glo_ok KX Gm (c.d.fact 36 (f := .glo "is_sum") rfl)), D⟩)
  d_is_term := (by
    obtain ⟨fd, D⟩ := c.d.def_ 27 rfl
    exact ⟨_, fd, (He.glo_ok KX Gm (c.d.fact 37 (f := .glo "is_term") rfl)), D⟩)
  d_law := (by
    obtain ⟨fd, D⟩ := c.d.def_ 28 rfl
    exact ⟨_, fd, (He.glo_ok KX Gm (c.d.fact 38 (f := .glo "law") rfl)), D⟩)
  d_least_terms := (by
    obtain ⟨fd, D⟩ := c.d.def_ 29 rfl
    exact ⟨_, fd, (He.glo_ok KX Gm (c.d.fact 39 (f := .glo "least_terms") rfl)), D⟩)
  d_lots_for := (by
    obtain ⟨fd, D⟩ := c.d.def_ 30 rfl
    exact ⟨_, fd, (He.glo_ok KX Gm (c.d.fact 40 (f := .glo "lots_for") rfl)), D⟩)
  d_lots_left := (by
    obtain ⟨fd, D⟩ := c.d.def_ 31 rfl
    exact ⟨_, fd, (He.glo_ok KX Gm (c.d.fact 41 (f := .glo "lots_left") rfl)), D⟩)
  d_most_left := (by
    obtain ⟨fd, D⟩ := c.d.def_ 32 rfl
    exact ⟨_, fd, (He.glo_ok KX Gm (c.d.fact 42 (f := .glo "most_left") rfl)), D⟩)
  d_need_book := (by
    obtain ⟨fd, D⟩ := c.d.def_ 33 rfl
    exact ⟨_, fd, (He.glo_ok KX Gm (c.d.fact 43 (f := .glo "need_book") rfl)), D⟩)
  d_need_claims := (by
    obtain ⟨fd, D⟩ := c.d.def_ 34 rfl
    exact ⟨_, fd, (He.glo_ok KX Gm (c.d.fact 44 (f := .glo "need_claims") rfl)), D⟩)
  d_need_pairs := (by
    obtain ⟨fd, D⟩ := c.d.def_ 35 rfl
    exact ⟨_, fd, (He.glo_ok KX Gm (c.d.fact 45 (f := .glo "need_pairs") rfl)), D⟩)
  d_need_places := (by
    obtain ⟨fd, D⟩ := c.d.def_ 36 rfl
    exact ⟨_, fd, (He.glo_ok KX Gm (c.d.fact 46 (f := .glo "need_places") rfl)), D⟩)
  d_ordered := (by
    obtain ⟨fd, D⟩ := c.d.def_ 37 rfl
    exact ⟨_, fd, (He.glo_ok KX Gm (c.d.fact 47 (f := .glo "ordered") rfl)), D⟩)
  d_parts := (by
    obtain ⟨fd, D⟩ := c.d.def_ 38 rfl
    exact ⟨_, fd, (He.glo_ok KX Gm (c.d.fact 48 (f := .glo "parts") rfl)), D⟩)
  d_plain_rows := (by
    obtain ⟨fd, D⟩ := c.d.def_ 39 rfl
    exact ⟨_, fd, (He.glo_ok KX Gm (c.d.fact 49 (f := .glo "plain_rows") rfl)), D⟩)
  d_rows_of := (by
    obtain ⟨fd, D⟩ := c.d.def_ 40 rfl
    exact ⟨_, fd, (He.glo_ok KX Gm (c.d.fact 50 (f := .glo "rows_of") rfl)), D⟩)
  d_shapes_of := (by
    obtain ⟨fd, D⟩ := c.d.def_ 41 rfl
    exact ⟨_, fd, (He.glo_ok KX Gm (c.d.fact 51 (f := .glo "shapes_of") rfl)), D⟩)
  d_sum_at := (by
    obtain ⟨fd, D⟩ := c.d.def_ 42 rfl
    exact ⟨_, fd, (He.glo_ok KX Gm (c.d.fact 52 (f := .glo "sum_at") rfl)), D⟩)
  d_with_place := (by
    obtain ⟨fd, D⟩ := c.d.def_ 43 rfl
    exact ⟨_, fd, (He.glo_ok KX Gm (c.d.fact 53 (f := .glo "with_place") rfl)), D⟩)
  g_FORK := (by
    obtain ⟨tk, e⟩ := He.str_ok KX Gm (c.d.fact 54 (f := .str "FORK" "fork") rfl)
    exact ⟨_, .str "fork", e, ⟨tk, rfl⟩, fun _ _ => .str _⟩)
  g_LEAST_PLACES := (by
    obtain ⟨tk, e⟩ := He.int_ok KX Gm (c.d.fact 55 (f := .int "LEAST_PLACES" 2) rfl)
    exact ⟨_, .int 2, e, ⟨tk, rfl⟩, fun _ _ => .int _⟩)
  g_LETTERS := (by
    obtain ⟨tk, e⟩ := He.str_ok KX Gm (c.d.fact 56 (f := .str "LETTERS" "abcdefghijklmnopqrstuvwxyz") rfl)
    exact ⟨_, .str "abcdefghijklmnopqrstuvwxyz", e, ⟨tk, rfl⟩, fun _ _ => .str _⟩)
  g_MOST_FACTS := (by
    obtain ⟨tk, e⟩ := He.int_ok KX Gm (c.d.fact 57 (f := .int "MOST_FACTS" 6) rfl)
    exact ⟨_, .int 6, e, ⟨tk, rfl⟩, fun _ _ => .int _⟩)
  g_MOST_LETTERS := (by
    obtain ⟨tk, e⟩ := He.int_ok KX Gm (c.d.fact 58 (f := .int "MOST_LETTERS" 8) rfl)
    exact ⟨_, .int 8, e, ⟨tk, rfl⟩, fun _ _ => .int _⟩)
  g_MOST_PAIRS := (by
    obtain ⟨tk, e⟩ := He.int_ok KX Gm (c.d.fact 59 (f := .int "MOST_PAIRS" 4) rfl)
    exact ⟨_, .int 4, e, ⟨tk, rfl⟩, fun _ _ => .int _⟩)
  g_MOST_PLACES := (by
    obtain ⟨tk, e⟩ := He.int_ok KX Gm (c.d.fact 60 (f := .int "MOST_PLACES" 6) rfl)
    exact ⟨_, .int 6, e, ⟨tk, rfl⟩, fun _ _ => .int _⟩)
  g_MOST_TERMS := (by
    obtain ⟨tk, e⟩ := He.int_ok KX Gm (c.d.fact 61 (f := .int "MOST_TERMS" 4) rfl)
    exact ⟨_, .int 4, e, ⟨tk, rfl⟩, fun _ _ => .int _⟩)
  g_WORDS := glob_tup (xs := ["most", "less", "same"]) (He.glo_ok KX Gm (c.d.fact 62 (f := .glo "WORDS") rfl)) ((Bool.and_eq_true_iff.mp c.ex_).1)
  i_Book := (by
    obtain ⟨fd, D⟩ := c.d.def_ 44 rfl
    exact ⟨_, _, fd, cls_Book K, (He.glo_ok KX Gm (c.d.fact 63 (f := .glo "Book") rfl)), He.mkr_ok (c.d.fact 64 (f := .mkr "Book") rfl), D⟩)
  i_Tableau := (by
    obtain ⟨fd, D⟩ := c.d.def_ 45 rfl
    exact ⟨_, _, fd, cls_Tableau K, (He.glo_ok KX Gm (c.d.fact 65 (f := .glo "Tableau") rfl)), He.mkr_ok (c.d.fact 66 (f := .mkr "Tableau") rfl), D⟩)
  k_Book := ⟨_, .ref _, (He.glo_ok KX Gm (c.d.fact 63 (f := .glo "Book") rfl)), rfl, fun _ _ => .cls (cls_Book K)⟩
  m_Tableau_entering := (by
    obtain ⟨fd, D⟩ := c.d.def_ 46 rfl
    exact ⟨_, _, fd, cls_Tableau K, (He.cls_ok (c.d.fact 3 (f := .cls "Tableau") rfl)), He.meth_ok (c.d.fact 67 (f := .meth "Tableau" "entering") rfl), D⟩)
  m_Tableau_exchange := (by
    obtain ⟨fd, D⟩ := c.d.def_ 47 rfl
    exact ⟨_, _, fd, cls_Tableau K, (He.cls_ok (c.d.fact 3 (f := .cls "Tableau") rfl)), He.meth_ok (c.d.fact 68 (f := .meth "Tableau" "exchange") rfl), D⟩)
  m_Tableau_leaving := (by
    obtain ⟨fd, D⟩ := c.d.def_ 48 rfl
    exact ⟨_, _, fd, cls_Tableau K, (He.cls_ok (c.d.fact 3 (f := .cls "Tableau") rfl)), He.meth_ok (c.d.fact 69 (f := .meth "Tableau" "leaving") rfl), D⟩)
  m_Tableau_led := (by
    obtain ⟨fd, D⟩ := c.d.def_ 49 rfl
    exact ⟨_, _, fd, cls_Tableau K, (He.cls_ok (c.d.fact 3 (f := .cls "Tableau") rfl)), He.meth_ok (c.d.fact 70 (f := .meth "Tableau" "led") rfl), D⟩)
  m_Tableau_numbers := (by
    obtain ⟨fd, D⟩ := c.d.def_ 50 rfl
    exact ⟨_, _, fd, cls_Tableau K, (He.cls_ok (c.d.fact 3 (f := .cls "Tableau") rfl)), He.meth_ok (c.d.fact 71 (f := .meth "Tableau" "numbers") rfl), D⟩)
  m_Tableau_solve := (by
    obtain ⟨fd, D⟩ := c.d.def_ 51 rfl
    exact ⟨_, _, fd, cls_Tableau K, (He.cls_ok (c.d.fact 3 (f := .cls "Tableau") rfl)), He.meth_ok (c.d.fact 72 (f := .meth "Tableau" "solve") rfl), D⟩)
  n_abs := He.free_ok KX Gm (c.d.fact 73 (f := .free "abs") rfl)
  n_all := He.free_ok KX Gm (c.d.fact 74 (f := .free "all") rfl)
  n_any := He.free_ok KX Gm (c.d.fact 75 (f := .free "any") rfl)
  n_bool := He.free_ok KX Gm (c.d.fact 76 (f := .free "bool") rfl)
  n_enumerate := He.free_ok KX Gm (c.d.fact 77 (f := .free "enumerate") rfl)
  n_int := He.free_ok KX Gm (c.d.fact 78 (f := .free "int") rfl)
  n_isinstance := He.free_ok KX Gm (c.d.fact 79 (f := .free "isinstance") rfl)
  n_len := He.free_ok KX Gm (c.d.fact 80 (f := .free "len") rfl)
  n_list := He.free_ok KX Gm (c.d.fact 81 (f := .free "list") rfl)
  n_max := He.free_ok KX Gm (c.d.fact 82 (f := .free "max") rfl)
  n_min := He.free_ok KX Gm (c.d.fact 83 (f := .free "min") rfl)
  n_range := He.free_ok KX Gm (c.d.fact 84 (f := .free "range") rfl)
  n_set := He.free_ok KX Gm (c.d.fact 85 (f := .free "set") rfl)
  n_sorted := He.free_ok KX Gm (c.d.fact 86 (f := .free "sorted") rfl)
  n_str := He.free_ok KX Gm (c.d.fact 87 (f := .free "str") rfl)
  n_sum := He.free_ok KX Gm (c.d.fact 88 (f := .free "sum") rfl)
  n_tuple := He.free_ok KX Gm (c.d.fact 89 (f := .free "tuple") rfl)
  n_zip := He.free_ok KX Gm (c.d.fact 90 (f := .free "zip") rfl)
  r_Book_facts := (by
    obtain ⟨h1, fd, D⟩ := c.pr 0 rfl
    exact ⟨_, _, _, fd, cls_Book K, (He.cls_ok (c.d.fact 0 (f := .cls "Book") rfl)), h1, D⟩)
  r_Book_places := (by
    obtain ⟨h1, fd, D⟩ := c.pr 1 rfl
    exact ⟨_, _, _, fd, cls_Book K, (He.cls_ok (c.d.fact 0 (f := .cls "Book") rfl)), h1, D⟩)
  t_KINDS := ktab_of (tab := [(("most" : Str), ("weak" : Str)), (("less" : Str), ("strict" : Str)), (("same" : Str), ("even" : Str))]) (He.glo_ok KX Gm (c.d.fact 91 (f := .glo "KINDS") rfl)) (c.x.t.tab 0 rfl) ((Bool.and_eq_true_iff.mp (Bool.and_eq_true_iff.mp c.ex_).2).1)
end
end Fc
open PySem PySem.W PySem.Calls PyProof.Rows
theorem PySem.Challenge.cw_forkways_k67_what_is_best_asked_holds : PySem.Challenge.rw_forkways_k67_what_is_best_asked.Holds := by
  w_on; o_law
  refine HandSHeadRun.head_any (r := OpenLaw.row PySem.Challenge.rw_forkways_k67_what_is_best_asked) (q := view (OpenLaw.row PySem.Challenge.rw_forkways_k67_what_is_best_asked).prog [75]) (H := Hd.hk) (ob := Hd.ob) (M := 20000) (loose := Hd.names) (d := HandSHeadRun.topDef (OpenLaw.row PySem.Challenge.rw_forkways_k67_what_is_best_asked).prog 75) (kwd := []) Hd.ob_eq
    (by kernel_rfl) (fun s => by kernel_rfl) Hd.run (by kernel_rfl) (by kernel_rfl) (by kernel_rfl) (by rfl) (by first | assumption | decide +kernel) (by decide +kernel) ⟨rfl, rfl, rfl, rfl, rfl, by decide +kernel⟩ ?hw ?hc
  case hw => w_witness2
  case hc =>
    refine HP.walk_end (l := PySem.Challenge.rw_forkways_k67_what_is_best_asked) (n := 63) (k := 18) (x := "_law_script") (C := fun w => L2.CX (PySem.Challenge.rw_forkways_k67_what_is_best_asked).prog w) rfl (by decide) (by kernel_rfl) ⟨rfl, by decide, by decide⟩ ?F ?X
    case F =>
      intro w mg z h Y Gm hz0
      obtain ⟨K, KX, c⟩ := Y
      have hz : mg ("law" : PySem.Str) = some (.ref z) := by
        have e : (HandSHeadRun.topDef (OpenLaw.row PySem.Challenge.rw_forkways_k67_what_is_best_asked).prog 75).name = ("law" : PySem.Str) := by kernel_rfl
        rw [← e]
        exact hz0
      obtain ⟨fd, D⟩ := c.d.def_ 28 rfl
      have e := hz.symm.trans (He.glo_ok KX Gm (c.d.fact 38 (f := .glo "law") rfl))
      cases e
      have b := L2.FunD.bindsA (ps := ["_law_script"]) D fun _ _ _ _ _ _ us hl => match us, hl with | [_], _ => rfl
      refine ⟨K, fd, MM.spM (HP.gamOf K Fc.cs) 1 Wk.f_law, KX, fun s v => b s [v] rfl, fun H a ns hl _ hS => HP.spM_true hS (Wk.d_law (Nat.le_trans hl (by decide))), fun base _ _ => ?_⟩
      exact Wk.okf_law (Fc.fx KX Gm c) D
    case X =>
      intro w H s e s2 q
      obtain ⟨_, _, _, _, _, _, _, _, _, _, _, _, f⟩ := q
      exact f
