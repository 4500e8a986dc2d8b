import PyProof.Rows.All
import Wide.All
import OpenK.AllK
import Wide.FinOn
import HandS.ForMost
import HandS.Flow
import HandS.Star
import HandS.Style
import HandS.More
import HandS.TupAny
import HandS.TupMul
import HandS.Deep
import HandS.SortInts
import HandS.NoneIn
import PyProof.ReprRoads
import KE.GoesEnum
import HandS.HeadEnd
import HandS.Head0
import HandS.Head1
import HandS.Head2
import HandS.HeadHook1
import HandS.HeadHook2
import HandS.HeadHook3
import KE.KDictWalk
import HandS.ListItems
import HandS.Finally
import PySem.Challenge.RW_allpowers_k04_wrong_polynomials_and_lots
set_option Elab.async false
set_option linter.all false
set_option maxRecDepth 100000
set_option maxHeartbeats 2000000
/-! Plain data over the hand layer: data D, worlds, what stands for what, mirror monad. -/
namespace DP
open PySem L2

/-- the written part, and the world that it stands in -/
structure KW where
  K : PySem.W.Frag
  w : World
instance : Coe KW PySem.W.Frag := ⟨KW.K⟩
abbrev kwOf (X : Cx) : KW := ⟨X.K, X.w⟩
/-- where a class of the module lies -/
def clsA (K : KW) (c : Str) : Addr := match PySem.W.nsIn K.K mainGlobals c with
  | some (some (.ref a)) => a
  | _ => 0
/-- plain data: lists that nobody changes any more are data; .loc n, .own n are the objects of the shared and of the frame's own store -/
inductive D where
  | non | bl (b : Bool) | int (i : Int) | str (x : Str) | tup (xs : List D) | lst (xs : List D) | loc (n : Nat) | own (n : Nat) | ty (n : String)
  | gd (ks : List Str) (ds : List D)
  | scr (ns : List Int)
  deriving Inhabited

inductive SO where
  | gone
  | lst (xs : List D)
  | dK (kvs : List (Key × D))
  | lk (kvs : List (Key × D))
  | ins (C : Str) (fs : List (Str × D))
  deriving Inhabited

structure Wd where
  s : List SO
  l : List SO

def Wd.get (w : Wd) : D → Option SO
  | .loc n => w.s[n]?
  | .own n => w.l[n]?
  | _ => none
def Wd.put (w : Wd) (d : D) (o : SO) : Wd := match d with
  | .loc n => { w with s := w.s.set n o }
  | .own n => { w with l := w.l.set n o }
  | _ => w

/-- results: a value and the world behind it; an exception (its class's name, what it keeps); stuck: nothing is said -/
inductive Res (α : Type) where
  | ok (a : α) (w : Wd)
  | exc (c : Str) (as : List D) (s : List SO)
  | stuck
def Res.bind {α β : Type} (r : Res α) (f : α → Wd → Res β) : Res β := match r with
  | .ok a w => f a w
  | .exc c as s => .exc c as s
  | .stuck => .stuck
def Res.post {α : Type} (r : Res α) (P : α → Wd → Prop) (E : Str → List D → List SO → Prop) : Prop := match r with
  | .ok a w => P a w
  | .exc c as s => E c as s
  | .stuck => False
theorem Res.post_mono {α : Type} {r : Res α} {P P' : α → Wd → Prop} {E E' : Str → List D → List SO → Prop} (h : r.post P E) (hp : ∀ a w, P a w → P' a w) (he : ∀ c as s, E c as s → E' c as s) : r.post P' E' := by
  cases r with
  | ok a w => exact hp a w h
  | exc c as s => exact he c as s h
  | stuck => exact h
theorem Res.post_bind {α β : Type} {r : Res α} {f : α → Wd → Res β} {P : β → Wd → Prop} {E : Str → List D → List SO → Prop} (h : (r.bind f).post P E) : r.post (fun a w => (f a w).post P E) E := by
  cases r with
  | ok a w => exact h
  | exc c as s => exact h
  | stuck => exact h

/-- where the stores' objects lie -/
structure Ad where
  M : List Addr
  N : List Addr
def Ad.at (A : Ad) : D → Option Addr
  | .loc n => A.M[n]?
  | .own n => A.N[n]?
  | _ => none
def Ad.le (A A' : Ad) : Prop := A.M <+: A'.M ∧ A.N <+: A'.N
theorem pre_get {α : Type} {l l' : List α} (h : l <+: l') {n : Nat} {a : α} (e : l[n]? = some a) : l'[n]? = some a := by
  obtain ⟨r, rfl⟩ := h
  rw [List.getElem?_append_left (List.getElem?_eq_some_iff.mp e).1]
  exact e
theorem Ad.le.at {A A' : Ad} (h : A.le A') {d : D} {a : Addr} (e : A.at d = some a) : A'.at d = some a := by
  cases d with
  | loc n => exact pre_get h.1 e
  | own n => exact pre_get h.2 e
  | _ => cases e
theorem Ad.le.refl (A : Ad) : A.le A := ⟨List.prefix_refl _, List.prefix_refl _⟩
theorem Ad.le.trans {A B C : Ad} (h : A.le B) (k : B.le C) : A.le C := ⟨h.1.trans k.1, h.2.trans k.2⟩

/-- B ⊆ H -/
def Ex (H H' : Hp) : Prop := ∀ a o, H a = some o → H' a = some o
theorem Ex.refl (H : Hp) : Ex H H := fun _ _ h => h
theorem Ex.trans {H H1 H2 : Hp} (a : Ex H H1) (b : Ex H1 H2) : Ex H H2 := fun x o h => b x o (a x o h)
theorem Ex.new {H : Hp} {p : Addr} {o : HO} (h : H p = none) : Ex H (upd H p o) := fun a u e => by
  rw [upd_ne (ne_of_none e h)]
  exact e
theorem ex_rd {H H' : Hp} {a : Addr} {u : HO} (e : Ex H H') (h : Rd H a u) : Rd H' a u := by
  rcases h with h | ⟨o, h⟩
  · exact Or.inl (e a _ h)
  · exact Or.inr ⟨o, e a _ h⟩
theorem ex_l {K : KW} {H H' : Hp} {a : Addr} {xs : List V} (e : Ex H H') (h : SqL K H a xs) : SqL K H' a xs := by
  rcases h with h | h
  · exact Or.inl (ex_rd e h)
  · exact Or.inr h
theorem ex_t {K : KW} {H H' : Hp} {a : Addr} {xs : List V} (e : Ex H H') (h : SqT K H a xs) : SqT K H' a xs := by
  rcases h with h | h
  · exact Or.inl (ex_rd e h)
  · exact Or.inr h

def keyS (e : DictEntry) : Option Str := match e.key with
  | .str x _ => some x
  | _ => none
/-- a dict of the written part at a: the texts ks, the values us -/
structure KD (K : KW) (a : Addr) (ks : List Str) (us : List Value) : Prop where
  dt : ∃ es n, KDict K.K K.w a es n
  it : ∃ (es : Array DictEntry) (n : Nat), K.K.lookup a = some ⟨.type "dict", none, .dict es n, #[]⟩ ∧ es.toList.map keyS = ks.map some ∧ es.toList.map (·.val) = us ∧ (a == sysModules) = false
  ln : ks.length = us.length
  at_ : ∀ z : Str, PySem.W.nsIn K.K a z = some ((ks.zip us).lookup z)
mutual
/-- the value v is the datum d -/
inductive At (K : KW) (B : Hp) (A : Ad) : V → D → Prop
  | non : At K B A .non .non
  | bl (b : Bool) : At K B A (.bl b) (.bl b)
  | int (i : Int) : At K B A (.int i) (.int i)
  | str (x : Str) : At K B A (.str x) (.str x)
  | ty (n : String) : At K B A (.ty n) (.ty n)
  | tup {a : Addr} {xs : List V} {ds : List D} : SqT K B a xs → AtL K B A xs ds → At K B A (.ref a) (.tup ds)
  | lst {a : Addr} {xs : List V} {ds : List D} : B a = some (.lst xs) → AtL K B A xs ds → At K B A (.ref a) (.lst ds)
  | scr {a : Addr} {ns : List Int} : SqL K B a (ns.map V.int) → At K B A (.ref a) (.scr ns)
  | ref {a : Addr} {d : D} : A.at d = some a → At K B A (.ref a) d
  | gd {a : Addr} {ks : List Str} {us : List Value} {vs : List V} {ds : List D} : KD K a ks us → Vals vs us → AtL K B A vs ds → At K B A (.ref a) (.gd ks ds)
inductive AtL (K : KW) (B : Hp) (A : Ad) : List V → List D → Prop
  | nil : AtL K B A [] []
  | cons {v : V} {d : D} {vs : List V} {ds : List D} : At K B A v d → AtL K B A vs ds → AtL K B A (v :: vs) (d :: ds)
end

section
variable {K : KW} {B B' : Hp} {A A' : Ad} {v : V} {d : D} {vs : List V} {ds : List D}
mutual
theorem At.mono (hB : Ex B B') (hA : A.le A') : ∀ {v : V} {d : D}, At K B A v d → At K B' A' v d
  | _, _, .non => .non
  | _, _, .bl b => .bl b
  | _, _, .int i => .int i
  | _, _, .str x => .str x
  | _, _, .ty n => .ty n
  | _, _, .tup h t => .tup (ex_t hB h) (AtL.mono hB hA t)
  | _, _, .lst h t => .lst (hB _ _ h) (AtL.mono hB hA t)
  | _, _, .scr h => .scr (ex_l hB h)
  | _, _, .ref h => .ref (hA.at h)
  | _, _, .gd h r t => .gd h r (AtL.mono hB hA t)
theorem AtL.mono (hB : Ex B B') (hA : A.le A') : ∀ {vs : List V} {ds : List D}, AtL K B A vs ds → AtL K B' A' vs ds
  | _, _, .nil => .nil
  | _, _, .cons h t => .cons (At.mono hB hA h) (AtL.mono hB hA t)
end
theorem AtL.length : ∀ {vs : List V} {ds : List D}, AtL K B A vs ds → vs.length = ds.length
  | _, _, .nil => rfl
  | _, _, .cons _ t => by rw [List.length_cons, List.length_cons, AtL.length t]
theorem AtL.get : ∀ {vs : List V} {ds : List D} {i : Nat} {d : D}, AtL K B A vs ds → ds[i]? = some d → ∃ v, vs[i]? = some v ∧ At K B A v d
  | _, _, _, _, .nil, e => by simp at e
  | _, _, 0, _, .cons h _, e => by
    rw [List.getElem?_cons_zero] at e
    cases e
    exact ⟨_, rfl, h⟩
  | _, _, i + 1, _, .cons _ t, e => by
    rw [List.getElem?_cons_succ] at e
    obtain ⟨u, h1, h2⟩ := AtL.get t e
    exact ⟨u, by rw [List.getElem?_cons_succ]; exact h1, h2⟩
theorem AtL.getV : ∀ {vs : List V} {ds : List D} {i : Nat} {v : V}, AtL K B A vs ds → vs[i]? = some v → ∃ d, ds[i]? = some d ∧ At K B A v d
  | _, _, _, _, .nil, e => by simp at e
  | _, _, 0, _, .cons h _, e => by
    rw [List.getElem?_cons_zero] at e
    cases e
    exact ⟨_, rfl, h⟩
  | _, _, i + 1, _, .cons _ t, e => by
    rw [List.getElem?_cons_succ] at e
    obtain ⟨u, h1, h2⟩ := AtL.getV t e
    exact ⟨u, by rw [List.getElem?_cons_succ]; exact h1, h2⟩
theorem AtL.append : ∀ {vs us : List V} {ds es : List D}, AtL K B A vs ds → AtL K B A us es → AtL K B A (vs ++ us) (ds ++ es)
  | _, _, _, _, .nil, s => s
  | _, _, _, _, .cons h t, s => .cons h (AtL.append t s)
theorem AtL.take : ∀ {vs : List V} {ds : List D} (n : Nat), AtL K B A vs ds → AtL K B A (vs.take n) (ds.take n)
  | _, _, 0, _ => .nil
  | _, _, _ + 1, .nil => .nil
  | _, _, n + 1, .cons h t => .cons h (AtL.take n t)
theorem AtL.drop : ∀ {vs : List V} {ds : List D} (n : Nat), AtL K B A vs ds → AtL K B A (vs.drop n) (ds.drop n)
  | _, _, 0, r => r
  | _, _, _ + 1, .nil => .nil
  | _, _, n + 1, .cons _ t => AtL.drop n t
theorem AtL.set {v : V} {d : D} (h : At K B A v d) : ∀ {vs : List V} {ds : List D} (n : Nat), AtL K B A vs ds → AtL K B A (vs.set n v) (ds.set n d)
  | _, _, _, .nil => .nil
  | _, _, 0, .cons _ t => .cons h t
  | _, _, n + 1, .cons q t => .cons q (AtL.set h n t)
theorem AtL.dropLast {vs : List V} {ds : List D} (h : AtL K B A vs ds) : AtL K B A vs.dropLast ds.dropLast := by
  rw [List.dropLast_eq_take, List.dropLast_eq_take, h.length]
  exact h.take _
theorem AtL.reverse : ∀ {vs : List V} {ds : List D}, AtL K B A vs ds → AtL K B A vs.reverse ds.reverse
  | _, _, .nil => .nil
  | _, _, .cons h t => by
    rw [List.reverse_cons, List.reverse_cons]
    exact AtL.append (AtL.reverse t) (.cons h .nil)
theorem AtL.replicate {v : V} {d : D} (h : At K B A v d) : ∀ n : Nat, AtL K B A (List.replicate n v) (List.replicate n d)
  | 0 => .nil
  | n + 1 => .cons h (AtL.replicate h n)
end

/-- a dict's pairs -/
def AtK (K : KW) (B : Hp) (A : Ad) {κ : Type} : List (κ × V) → List (κ × D) → Prop := Paired fun p q => p.1 = q.1 ∧ At K B A p.2 q.2
theorem AtK.mono {K : KW} {B B' : Hp} {A A' : Ad} {κ : Type} (hB : Ex B B') (hA : A.le A') {x : List (κ × V)} {y : List (κ × D)} (h : AtK K B A x y) : AtK K B' A' x y :=
  Paired.mapP h fun _ _ q => ⟨q.1, At.mono hB hA q.2⟩

/-- what lies at an address of a store -/
def SOAt (K : KW) (B : Hp) (A : Ad) (H : Hp) (a : Addr) : SO → Prop
  | .gone => False
  | .lst ds => ∃ xs, H a = some (.lst xs) ∧ AtL K B A xs ds
  | .dK kvs => ∃ vs, H a = some (.dK vs) ∧ AtK K B A vs kvs
  | .lk kvs => ∃ od vs, H a = some (.frz od (.dK vs)) ∧ AtK K B A vs kvs
  | .ins C fs => ∃ dx vs, H a = some (.ins (clsA K C) dx vs) ∧ H dx = some (.own a) ∧ B dx = none ∧ AtK K B A vs fs

mutual
/-- no object of the frame's own within -/
def D.cl : D → Bool
  | .own _ => false
  | .tup xs => D.clL xs
  | .lst xs => D.clL xs
  | .gd _ ds => D.clL ds
  | .non => true
  | .bl _ => true
  | .int _ => true
  | .str _ => true
  | .loc _ => true
  | .ty _ => true
  | .scr _ => true
def D.clL : List D → Bool
  | [] => true
  | d :: ds => d.cl && D.clL ds
end
/-- of the shared store no object names one of the frame's own -/
def SO.cl : SO → Bool
  | .gone => true
  | .lst ds => D.clL ds
  | .dK kvs => kvs.all fun p => p.2.cl
  | .lk kvs => kvs.all fun p => p.2.cl
  | .ins _ fs => fs.all fun p => p.2.cl

structure Rep (K : KW) (B : Hp) (A : Ad) (w : Wd) (H : Hp) : Prop where
  ext : Ex B H
  lm : A.M.length = w.s.length
  ln : A.N.length = w.l.length
  nd : (A.M ++ A.N).Nodup
  th : ∀ a ∈ A.M ++ A.N, H a ≠ none
  cs : ∀ o ∈ w.s, o.cl = true
  ob : ∀ d o a, w.get d = some o → A.at d = some a → (o = .gone ∧ B a ≠ none) ∨ (B a = none ∧ SOAt K B A H a o)

/-- what a run may do to what was there: the stores' objects may change, all else stays as it is and stays outside -/
structure Gr (B : Hp) (A : Ad) (H : Hp) (B' : Hp) (A' : Ad) (H' : Hp) : Prop where
  ad : A.le A'
  ex : Ex B B'
  th : ∀ a, H a ≠ none → H' a ≠ none
  fz : ∀ a o u, H a = some (.frz o u) → H' a = some (.frz o u)
  fr : ∀ a o, H a = some o → a ∉ A.M → a ∉ A.N → H' a = some o ∧ B' a = B a ∧ a ∉ A'.M ∧ a ∉ A'.N
theorem Gr.refl {B : Hp} {A : Ad} {H : Hp} : Gr B A H B A H := ⟨.refl _, .refl _, fun _ h => h, fun _ _ _ h => h, fun _ _ h h1 h2 => ⟨h, rfl, h1, h2⟩⟩
theorem Gr.trans {B B1 B2 : Hp} {A A1 A2 : Ad} {H H1 H2 : Hp} (g : Gr B A H B1 A1 H1) (k : Gr B1 A1 H1 B2 A2 H2) : Gr B A H B2 A2 H2 :=
  ⟨g.ad.trans k.ad, g.ex.trans k.ex, fun a h => k.th a (g.th a h), fun a o u h => k.fz a o u (g.fz a o u h), fun a o h h1 h2 => by
    obtain ⟨q1, q2, q3, q4⟩ := g.fr a o h h1 h2
    obtain ⟨r1, r2, r3, r4⟩ := k.fr a o q1 q3 q4
    exact ⟨r1, r2.trans q2, r3, r4⟩⟩
/-- a new object, frozen -/
theorem Gr.frozen {B : Hp} {A : Ad} {H : Hp} {p : Addr} {o : HO} (hp : H p = none) (hB : B p = none) : Gr B A H (upd B p o) A (upd H p o) :=
  ⟨.refl _, Ex.new hB, fun a h => by
      by_cases e : a = p
      · rw [e, upd_same]; exact fun z => by cases z
      · rw [upd_ne e]; exact h,
    fun a o' u h => by rw [upd_ne (ne_of_none h hp)]; exact h,
    fun a u h h1 h2 => by
      have ne := ne_of_none h hp
      exact ⟨by rw [upd_ne ne]; exact h, by rw [upd_ne ne], h1, h2⟩⟩
section
variable {K : KW} {B : Hp} {A : Ad} {w : Wd} {H : Hp}
theorem Rep.bnone (R : Rep K B A w H) {p : Addr} (hp : H p = none) : B p = none := by
  cases e : B p with
  | none => rfl
  | some o =>
    have q := R.ext p o e
    rw [hp] at q
    cases q
theorem Rep.notin (R : Rep K B A w H) {p : Addr} (hp : H p = none) : p ∉ A.M ∧ p ∉ A.N :=
  ⟨fun h => R.th p (List.mem_append_left _ h) hp, fun h => R.th p (List.mem_append_right _ h) hp⟩
theorem Ad.mem {A : Ad} {d : D} {a : Addr} (e : A.at d = some a) : a ∈ A.M ++ A.N := by
  cases d with
  | loc n => exact List.mem_append_left _ (List.mem_of_getElem? e)
  | own n => exact List.mem_append_right _ (List.mem_of_getElem? e)
  | _ => cases e
/-- objects stay where B and the addresses grow, the heap being the same at their places -/
theorem SOAt.mono {B' : Hp} {A' : Ad} {H' : Hp} {a : Addr} {o : SO} (hB : Ex B B') (hA : A.le A') (h : SOAt K B A H a o) (hH : H' a = H a)
    (hd : ∀ dx, H dx = some (.own a) → B dx = none → H' dx = some (.own a) ∧ B' dx = none) : SOAt K B' A' H' a o := by
  cases o with
  | gone => exact h
  | lst ds =>
    obtain ⟨xs, e, t⟩ := h
    exact ⟨xs, hH.trans e, t.mono hB hA⟩
  | dK kvs =>
    obtain ⟨xs, e, t⟩ := h
    exact ⟨xs, hH.trans e, t.mono hB hA⟩
  | lk kvs =>
    obtain ⟨od, xs, e, t⟩ := h
    exact ⟨od, xs, hH.trans e, t.mono hB hA⟩
  | ins C fs =>
    obtain ⟨dx, vs, e, e2, e3, t⟩ := h
    obtain ⟨q1, q2⟩ := hd dx e2 e3
    exact ⟨dx, vs, hH.trans e, q1, q2, t.mono hB hA⟩
/-- a new frozen object -/
theorem Rep.frozen (R : Rep K B A w H) {p : Addr} {o : HO} (hp : H p = none) : Rep K (upd B p o) A w (upd H p o) := by
  have hB := R.bnone hp
  refine ⟨fun a u e => ?_, R.lm, R.ln, R.nd, fun a ha => ?_, R.cs, fun d so a h1 h2 => ?_⟩
  · by_cases z : a = p
    · rw [z, upd_same] at e ⊢
      exact e
    · rw [upd_ne z] at e ⊢
      exact R.ext a u e
  · by_cases z : a = p
    · rw [z, upd_same]
      exact fun q => by cases q
    · rw [upd_ne z]
      exact R.th a ha
  · have hne : a ≠ p := fun z => R.th a (Ad.mem h2) (by rw [z]; exact hp)
    rcases R.ob d so a h1 h2 with ⟨q1, q2⟩ | ⟨q1, q2⟩
    · exact .inl ⟨q1, by rw [upd_ne hne]; exact q2⟩
    · refine .inr ⟨by rw [upd_ne hne]; exact q1, q2.mono (Ex.new hB) (.refl _) (by rw [upd_ne hne]) fun dx e1 e2 => ?_⟩
      have hn2 : dx ≠ p := ne_of_none e1 hp
      exact ⟨by rw [upd_ne hn2]; exact e1, by rw [upd_ne hn2]; exact e2⟩
end

/-- the frame's names: data by slot -/
abbrev Env := List (Option D)
def EnvAt (K : KW) (B : Hp) (A : Ad) (σ : L2.St) (δ : Env) : Prop := σ.length = δ.length ∧ ∀ (i : Nat) (d : D), δ[i]? = some (some d) → ∃ v, σ[i]? = some (some v) ∧ At K B A v d
theorem EnvAt.mono {K : KW} {B B' : Hp} {A A' : Ad} {σ : L2.St} {δ : Env} (hB : Ex B B') (hA : A.le A') (h : EnvAt K B A σ δ) : EnvAt K B' A' σ δ :=
  ⟨h.1, fun i d e => let ⟨v, h1, h2⟩ := h.2 i d e; ⟨v, h1, h2.mono hB hA⟩⟩
theorem EnvAt.set {K : KW} {B : Hp} {A : Ad} {σ : L2.St} {δ : Env} {v : V} {d : D} (h : EnvAt K B A σ δ) (hv : At K B A v d) (i : Nat) : EnvAt K B A (σ.set i (some v)) (δ.set i (some d)) := by
  refine ⟨by rw [List.length_set, List.length_set, h.1], fun j e hj => ?_⟩
  by_cases z : i = j
  · rw [z] at hj ⊢
    have hl : j < δ.length := by
      have q := (List.getElem?_eq_some_iff.mp hj).1
      rw [List.length_set] at q
      exact q
    rw [List.getElem?_set_self hl] at hj
    cases hj
    exact ⟨v, List.getElem?_set_self (by rw [h.1]; exact hl), hv⟩
  · rw [List.getElem?_set_ne z] at hj ⊢
    exact h.2 j e hj

/-- what is wanted of an exception -/
structure XW where
  P : Hp → Ad → Hp → Str → List D → List SO → Prop
  mono : ∀ {B B' : Hp} {A A' : Ad} {H H' : Hp} {c : Str} {as : List D} {s : List SO}, Gr B A H B' A' H' → P B A H c as s → P B' A' H' c as s
/-- nothing is raised -/
def X0 : XW := ⟨fun _ _ _ _ _ _ => False, fun _ h => h⟩

abbrev ME := Env → Wd → Res D
/-- the reading of an expression that does as m -/
def tE (K : KW) (W : XW) (m : ME) : TE := fun σ H Q => ∃ B A w δ, Rep K B A w H ∧ EnvAt K B A σ δ ∧
  (m δ w).post (fun d w' => ∀ v B' A' H', Gr B A H B' A' H' → Rep K B' A' w' H' → At K B' A' v d → Q v H') (W.P B A H)
theorem Gr.at {K : KW} {B B' : Hp} {A A' : Ad} {H H' : Hp} {v : V} {d : D} (g : Gr B A H B' A' H') (h : At K B A v d) : At K B' A' v d := h.mono g.ex g.ad
theorem Gr.env {K : KW} {B B' : Hp} {A A' : Ad} {H H' : Hp} {σ : L2.St} {δ : Env} (g : Gr B A H B' A' H') (h : EnvAt K B A σ δ) : EnvAt K B' A' σ δ := h.mono g.ex g.ad

theorem PE.weaken {X : Cx} {e : Expr} {t t' : TE} (h : PE X e t) (k : ∀ σ H Q, t' σ H Q → t σ H Q) : PE X e t' := ⟨fun pins s σ H Q I q => h.run pins s σ H Q I (k σ H Q q)⟩
theorem PT.weaken {X : Cx} {e : Expr} {t t' : TT} (h : PT X e t) (k : ∀ σ H Q, t' σ H Q → t σ H Q) : PT X e t' := ⟨fun pins s σ H Q I q => h.run pins s σ H Q I (k σ H Q q)⟩
theorem PA.weaken {X : Cx} {e : List Expr} {t t' : TA} (h : PA X e t) (k : ∀ σ H Q, t' σ H Q → t σ H Q) : PA X e t' := ⟨fun pos pins s σ H Q I q => h.run pos pins s σ H Q I (k σ H Q q)⟩
theorem PS.weaken {X : Cx} {e : Stmt} {t t' : TS} (h : PS X e t) (k : ∀ D σ H, t' D σ H → t D σ H) : PS X e t' := ⟨fun pins s σ H D I q => h.run pins s σ H D I (k D σ H q)⟩
theorem PSs.weaken {X : Cx} {e : List Stmt} {t t' : TS} (h : PSs X e t) (k : ∀ D σ H, t' D σ H → t D σ H) : PSs X e t' := ⟨fun pins s σ H D I q => h.run pins s σ H D I (k D σ H q)⟩

/-- the reading of an argument list -/
abbrev MA := Env → Wd → Res (List D)
def tAr (K : KW) (W : XW) (m : MA) : TA := fun σ H Q => ∃ B A w δ, Rep K B A w H ∧ EnvAt K B A σ δ ∧
  (m δ w).post (fun ds w' => ∀ vs B' A' H', Gr B A H B' A' H' → Rep K B' A' w' H' → AtL K B' A' vs ds → Q vs H') (W.P B A H)
/-- of a test -/
abbrev MT := Env → Wd → Res Bool
def tTt (K : KW) (W : XW) (m : MT) : TT := fun σ H Q => ∃ B A w δ, Rep K B A w H ∧ EnvAt K B A σ δ ∧
  (m δ w).post (fun b w' => ∀ B' A' H', Gr B A H B' A' H' → Rep K B' A' w' H' → Q b H') (W.P B A H)
/-- how a statement ends -/
inductive Fl where
  | nx | br | ct | rt (d : D)
abbrev MS := Env → Wd → Res (Fl × Env)
def Fl.to (K : KW) (B : Hp) (A : Ad) (D : Ends) (σ : L2.St) (H : Hp) : Fl → Prop
  | .nx => D.nx σ H
  | .br => D.bk σ H
  | .ct => D.ct σ H
  | .rt d => ∀ v, At K B A v d → D.rt v H
def tSt (K : KW) (W : XW) (m : MS) : TS := fun D σ H => ∃ B A w δ, Rep K B A w H ∧ EnvAt K B A σ δ ∧
  (m δ w).post (fun r w' => ∀ σ' B' A' H', Gr B A H B' A' H' → Rep K B' A' w' H' → EnvAt K B' A' σ' r.2 → r.1.to K B' A' D σ' H') (W.P B A H)
end DP

set_option Elab.async false
set_option linter.all false
set_option maxRecDepth 100000
set_option maxHeartbeats 2000000
/-! Stores: changed, allocated, frozen; what a call sees. -/
namespace DP
open PySem L2
section
variable {K : KW} {B : Hp} {A : Ad} {w : Wd} {H : Hp}
theorem Rep.adr (R : Rep K B A w H) {d : D} {o : SO} (h : w.get d = some o) : ∃ a, A.at d = some a := by
  cases d with
  | loc n =>
    have h' : w.s[n]? = some o := h
    have hl := (List.getElem?_eq_some_iff.mp h').1
    rw [← R.lm] at hl
    exact ⟨_, List.getElem?_eq_getElem hl⟩
  | own n =>
    have h' : w.l[n]? = some o := h
    have hl := (List.getElem?_eq_some_iff.mp h').1
    rw [← R.ln] at hl
    exact ⟨_, List.getElem?_eq_getElem hl⟩
  | _ => cases h
theorem Rep.obj (R : Rep K B A w H) {a : Addr} (h : a ∈ A.M ++ A.N) : ∃ d o, w.get d = some o ∧ A.at d = some a := by
  rcases List.mem_append.mp h with h | h
  · obtain ⟨n, hn, e⟩ := List.getElem_of_mem h
    have hl : n < w.s.length := by rw [← R.lm]; exact hn
    exact ⟨.loc n, w.s[n], List.getElem?_eq_getElem hl, by rw [← e]; exact List.getElem?_eq_getElem hn⟩
  · obtain ⟨n, hn, e⟩ := List.getElem_of_mem h
    have hl : n < w.l.length := by rw [← R.ln]; exact hn
    exact ⟨.own n, w.l[n], List.getElem?_eq_getElem hl, by rw [← e]; exact List.getElem?_eq_getElem hn⟩
/-- an instance's own dict is no store's object -/
theorem Rep.dxout (R : Rep K B A w H) {dx x : Addr} (h : H dx = some (.own x)) (hB : B dx = none) : dx ∉ A.M ++ A.N := fun hm => by
  obtain ⟨d, o, h1, h2⟩ := R.obj hm
  rcases R.ob d o dx h1 h2 with ⟨_, q⟩ | ⟨_, q⟩
  · exact q hB
  · cases o with
    | gone => exact q
    | lst ds =>
      obtain ⟨xs, e, _⟩ := q
      rw [h] at e; cases e
    | dK kvs =>
      obtain ⟨xs, e, _⟩ := q
      rw [h] at e; cases e
    | lk kvs =>
      obtain ⟨od, xs, e, _⟩ := q
      rw [h] at e; cases e
    | ins C fs =>
      obtain ⟨dx, vs, e, _⟩ := q
      rw [h] at e; cases e
theorem Rep.same (R : Rep K B A w H) {d d' : D} {a : Addr} (h : A.at d = some a) (h' : A.at d' = some a) : d = d' := by
  have nd := List.nodup_append.mp R.nd
  cases d with
  | loc n =>
    cases d' with
    | loc m =>
      have e1 : A.M[n]? = some a := h
      have e2 : A.M[m]? = some a := h'
      obtain ⟨l1, q1⟩ := List.getElem?_eq_some_iff.mp e1
      obtain ⟨l2, q2⟩ := List.getElem?_eq_some_iff.mp e2
      rw [(List.getElem_inj nd.1).mp (q1.trans q2.symm)]
    | own m =>
      have e1 : A.M[n]? = some a := h
      have e2 : A.N[m]? = some a := h'
      exact absurd rfl (nd.2.2 a (List.mem_of_getElem? e1) a (List.mem_of_getElem? e2))
    | _ => cases h'
  | own n =>
    cases d' with
    | own m =>
      have e1 : A.N[n]? = some a := h
      have e2 : A.N[m]? = some a := h'
      obtain ⟨l1, q1⟩ := List.getElem?_eq_some_iff.mp e1
      obtain ⟨l2, q2⟩ := List.getElem?_eq_some_iff.mp e2
      rw [(List.getElem_inj nd.2.1).mp (q1.trans q2.symm)]
    | loc m =>
      have e1 : A.N[n]? = some a := h
      have e2 : A.M[m]? = some a := h'
      exact absurd rfl (nd.2.2 a (List.mem_of_getElem? e2) a (List.mem_of_getElem? e1))
    | _ => cases h'
  | _ => cases h
theorem Wd.put_same {w : Wd} {d : D} {o o' : SO} (h : w.get d = some o) : (w.put d o').get d = some o' := by
  cases d with
  | loc n =>
    have h' : w.s[n]? = some o := h
    exact List.getElem?_set_self (List.getElem?_eq_some_iff.mp h').1
  | own n =>
    have h' : w.l[n]? = some o := h
    exact List.getElem?_set_self (List.getElem?_eq_some_iff.mp h').1
  | _ => cases h
theorem Wd.put_ne {w : Wd} {d d' : D} {o' : SO} (h : d ≠ d') : (w.put d o').get d' = w.get d' := by
  cases d with
  | loc n =>
    cases d' with
    | loc m => exact List.getElem?_set_ne (fun z => h (by rw [z]))
    | _ => rfl
  | own n =>
    cases d' with
    | own m => exact List.getElem?_set_ne (fun z => h (by rw [z]))
    | _ => rfl
  | _ => rfl
theorem Wd.put_len {w : Wd} {d : D} {o' : SO} : (w.put d o').s.length = w.s.length ∧ (w.put d o').l.length = w.l.length := by
  cases d with
  | loc n => exact ⟨List.length_set, rfl⟩
  | own n => exact ⟨rfl, List.length_set⟩
  | _ => exact ⟨rfl, rfl⟩
theorem Rep.cs_put (R : Rep K B A w H) {d : D} {o' : SO} (hc : ∀ n, d = .loc n → o'.cl = true) : ∀ o ∈ (w.put d o').s, o.cl = true := by
  cases d with
  | loc n =>
    intro o ho
    rcases List.mem_or_eq_of_mem_set (show o ∈ w.s.set n o' from ho) with q | q
    · exact R.cs o q
    · rw [q]; exact hc n rfl
  | _ => exact R.cs
/-- a store's object is changed -/
theorem Rep.upd (R : Rep K B A w H) {d : D} {o o' : SO} {a : Addr} {h h' : HO} (hg : w.get d = some o) (ha : A.at d = some a) (hH : H a = some h) (hown : ∀ x, h ≠ .own x) (hfz : ∀ ob u, h ≠ .frz ob u) (hB : B a = none)
    (hn : SOAt K B A (L2.upd H a h') a o') (hc : ∀ n, d = .loc n → o'.cl = true) : Rep K B A (w.put d o') (L2.upd H a h') ∧ Gr B A H B A (L2.upd H a h') := by
  refine ⟨⟨fun b u e => ?_, by rw [Wd.put_len.1]; exact R.lm, by rw [Wd.put_len.2]; exact R.ln, R.nd, fun b hb => ?_, R.cs_put hc, fun d2 o2 b h1 h2 => ?_⟩, .refl _, .refl _, fun b hb => ?_, fun b ob u e => by rw [upd_ne (fun z => by rw [z, hH] at e; exact hfz _ _ (Option.some.inj e))]; exact e, fun b u e h1 h2 => ?_⟩
  · have ne : b ≠ a := fun z => by rw [z, hB] at e; cases e
    rw [upd_ne ne]
    exact R.ext b u e
  · by_cases z : b = a
    · rw [z, upd_same]; exact fun q => by cases q
    · rw [upd_ne z]; exact R.th b hb
  · by_cases z : d = d2
    · subst z
      rw [Wd.put_same hg] at h1
      cases h1
      rw [ha] at h2
      cases h2
      exact .inr ⟨hB, hn⟩
    · rw [Wd.put_ne z] at h1
      have ne : b ≠ a := fun q => z (R.same (by rw [q] at h2; exact ha) (by rw [q] at h2; exact h2))
      rcases R.ob d2 o2 b h1 h2 with ⟨q1, q2⟩ | ⟨q1, q2⟩
      · exact .inl ⟨q1, q2⟩
      · refine .inr ⟨q1, q2.mono (.refl _) (.refl _) (upd_ne ne) fun dx e1 e2 => ⟨?_, e2⟩⟩
        have ne2 : dx ≠ a := fun q => by
          rw [q, hH] at e1
          exact hown _ (Option.some.inj e1)
        rw [upd_ne ne2]
        exact e1
  · by_cases z : b = a
    · rw [z, upd_same]; exact fun q => by cases q
    · rw [upd_ne z]; exact hb
  · have ne : b ≠ a := fun z => by
      rcases List.mem_append.mp (Ad.mem ha) with q | q
      · exact h1 (by rw [z]; exact q)
      · exact h2 (by rw [z]; exact q)
    exact ⟨by rw [upd_ne ne]; exact e, rfl, h1, h2⟩
/-- a new object of the frame's own -/
theorem Rep.alloc (R : Rep K B A w H) {p : Addr} {h : HO} {o : SO} (hp : H p = none) (hown : ∀ x, h ≠ .own x)
    (hn : SOAt K B ⟨A.M, A.N ++ [p]⟩ (L2.upd H p h) p o) : Rep K B ⟨A.M, A.N ++ [p]⟩ ⟨w.s, w.l ++ [o]⟩ (L2.upd H p h) ∧ Gr B A H B ⟨A.M, A.N ++ [p]⟩ (L2.upd H p h) := by
  have hB := R.bnone hp
  have hin := R.notin hp
  have le : A.le ⟨A.M, A.N ++ [p]⟩ := ⟨List.prefix_refl _, List.prefix_append _ _⟩
  refine ⟨⟨fun b u e => ?_, R.lm, ?_, ?_, fun b hb => ?_, R.cs, fun d2 o2 b h1 h2 => ?_⟩, le, .refl _, fun b hb => ?_, fun b ob u e => by rw [upd_ne (ne_of_none e hp)]; exact e, fun b u e h1 h2 => ?_⟩
  · have ne : b ≠ p := fun z => by rw [z, hB] at e; cases e
    rw [upd_ne ne]
    exact R.ext b u e
  · show (A.N ++ [p]).length = (w.l ++ [o]).length
    rw [List.length_append, List.length_append, R.ln, List.length_singleton, List.length_singleton]
  · show (A.M ++ (A.N ++ [p])).Nodup
    rw [← List.append_assoc]
    refine List.nodup_append.mpr ⟨R.nd, by simp, fun x hx y hy z => ?_⟩
    have ey : y = p := by simpa using hy
    rw [z, ey] at hx
    rcases List.mem_append.mp hx with q | q
    · exact hin.1 q
    · exact hin.2 q
  · by_cases z : b = p
    · rw [z, upd_same]; exact fun q => by cases q
    · rw [upd_ne z]
      have hb' : b ∈ A.M ++ (A.N ++ [p]) := hb
      rw [← List.append_assoc] at hb'
      rcases List.mem_append.mp hb' with q | q
      · exact R.th b q
      · exact absurd (by simpa using q) z
  · have old : w.get d2 = some o2 → A.at d2 = some b → (o2 = .gone ∧ B b ≠ none) ∨ (B b = none ∧ SOAt K B ⟨A.M, A.N ++ [p]⟩ (L2.upd H p h) b o2) := fun h1 h2 => by
      have ne : b ≠ p := fun z => R.th b (Ad.mem h2) (by rw [z]; exact hp)
      rcases R.ob d2 o2 b h1 h2 with ⟨q1, q2⟩ | ⟨q1, q2⟩
      · exact .inl ⟨q1, q2⟩
      · exact .inr ⟨q1, q2.mono (.refl _) le (upd_ne ne) fun dx e1 e2 => ⟨by rw [upd_ne (ne_of_none e1 hp)]; exact e1, e2⟩⟩
    cases d2 with
    | loc n => exact old h1 h2
    | own n =>
      have h1' : (w.l ++ [o])[n]? = some o2 := h1
      have h2' : (A.N ++ [p])[n]? = some b := h2
      by_cases hl : n < w.l.length
      · rw [List.getElem?_append_left hl] at h1'
        rw [List.getElem?_append_left (by rw [R.ln]; exact hl)] at h2'
        exact old h1' h2'
      · have en : n = w.l.length := by
          have := (List.getElem?_eq_some_iff.mp h1').1
          rw [List.length_append, List.length_singleton] at this
          omega
        subst en
        rw [List.getElem?_append_right (Nat.le_refl _), Nat.sub_self] at h1'
        rw [← R.ln, List.getElem?_append_right (Nat.le_refl _), Nat.sub_self] at h2'
        have e1 : o = o2 := Option.some.inj h1'
        have e2 : p = b := Option.some.inj h2'
        subst e1 e2
        exact .inr ⟨hB, hn⟩
    | _ => cases h1
  · by_cases z : b = p
    · rw [z, upd_same]; exact fun q => by cases q
    · rw [upd_ne z]; exact hb
  · have ne := ne_of_none e hp
    refine ⟨by rw [upd_ne ne]; exact e, rfl, h1, fun z => ?_⟩
    rcases List.mem_append.mp (show b ∈ A.N ++ [p] from z) with q | q
    · exact h2 q
    · exact ne (by simpa using q)
/-- a list of a store becomes plain data -/
theorem Rep.freeze (R : Rep K B A w H) {d : D} {ds : List D} {a : Addr} (hg : w.get d = some (.lst ds)) (ha : A.at d = some a) :
    ∃ xs, B a = none ∧ H a = some (.lst xs) ∧ Rep K (L2.upd B a (.lst xs)) A (w.put d .gone) H ∧ Gr B A H (L2.upd B a (.lst xs)) A H ∧ At K (L2.upd B a (.lst xs)) A (.ref a) (.lst ds) := by
  rcases R.ob d _ a hg ha with ⟨q, _⟩ | ⟨hB, xs, hH, t⟩
  · cases q
  have ex : Ex B (L2.upd B a (.lst xs)) := Ex.new hB
  refine ⟨xs, hB, hH, ⟨fun b u e => ?_, by rw [Wd.put_len.1]; exact R.lm, by rw [Wd.put_len.2]; exact R.ln, R.nd, R.th, R.cs_put (fun _ _ => rfl), fun d2 o2 b h1 h2 => ?_⟩, ⟨.refl _, ex, fun _ h => h, fun _ _ _ h => h, fun b u e h1 h2 => ⟨e, ?_, h1, h2⟩⟩, .lst upd_same (t.mono ex (.refl _))⟩
  · by_cases z : b = a
    · rw [z, upd_same] at e
      rw [z, hH]
      exact e
    · rw [upd_ne z] at e
      exact R.ext b u e
  · by_cases z : d = d2
    · subst z
      rw [Wd.put_same hg] at h1
      cases h1
      rw [ha] at h2
      cases h2
      exact .inl ⟨rfl, by rw [upd_same]; exact fun q => by cases q⟩
    · rw [Wd.put_ne z] at h1
      have ne : b ≠ a := fun q => z (R.same (by rw [q] at h2; exact ha) (by rw [q] at h2; exact h2))
      rcases R.ob d2 o2 b h1 h2 with ⟨q1, q2⟩ | ⟨q1, q2⟩
      · exact .inl ⟨q1, by rw [upd_ne ne]; exact q2⟩
      · refine .inr ⟨by rw [upd_ne ne]; exact q1, q2.mono ex (.refl _) rfl fun dx e1 e2 => ⟨e1, ?_⟩⟩
        have ne2 : dx ≠ a := fun q => by rw [q, hH] at e1; cases e1
        rw [upd_ne ne2]
        exact e2
  · have ne : b ≠ a := fun z => by
      rcases List.mem_append.mp (Ad.mem ha) with q | q
      · exact h1 (by rw [z]; exact q)
      · exact h2 (by rw [z]; exact q)
    rw [upd_ne ne]
end

/-! ### what a call sees: the shared store alone -/
section
variable {K : KW} {B : Hp} {M N N' : List Addr}
mutual
theorem At.clean : ∀ {v : V} {d : D}, At K B ⟨M, N⟩ v d → d.cl = true → At K B ⟨M, N'⟩ v d
  | _, _, .non, _ => .non
  | _, _, .bl b, _ => .bl b
  | _, _, .int i, _ => .int i
  | _, _, .str x, _ => .str x
  | _, _, .ty n, _ => .ty n
  | _, _, .tup h t, c => .tup h (AtL.clean t (by rw [D.cl] at c; exact c))
  | _, _, .scr h, _ => .scr h
  | _, _, .lst h t, c => .lst h (AtL.clean t (by rw [D.cl] at c; exact c))
  | _, _, .gd h r t, c => .gd h r (AtL.clean t (by rw [D.cl] at c; exact c))
  | _, .loc n, .ref h, _ => .ref (d := .loc n) (show M[n]? = _ from h)
  | _, .own n, .ref h, c => by rw [D.cl] at c; cases c
  | _, .non, .ref h, _ => by cases h
  | _, .bl _, .ref h, _ => by cases h
  | _, .int _, .ref h, _ => by cases h
  | _, .str _, .ref h, _ => by cases h
  | _, .ty _, .ref h, _ => by cases h
  | _, .tup _, .ref h, _ => by cases h
  | _, .lst _, .ref h, _ => by cases h
  | _, .gd _ _, .ref h, _ => by cases h
  | _, .scr _, .ref h, _ => by cases h
theorem AtL.clean : ∀ {vs : List V} {ds : List D}, AtL K B ⟨M, N⟩ vs ds → D.clL ds = true → AtL K B ⟨M, N'⟩ vs ds
  | _, _, .nil, _ => .nil
  | _, _, .cons h t, c => by
    rw [D.clL, Bool.and_eq_true] at c
    exact .cons (At.clean h c.1) (AtL.clean t c.2)
end
mutual
theorem At.widen : ∀ {v : V} {d : D}, At K B ⟨M, []⟩ v d → At K B ⟨M, N⟩ v d
  | _, _, .non => .non
  | _, _, .bl b => .bl b
  | _, _, .int i => .int i
  | _, _, .str x => .str x
  | _, _, .ty n => .ty n
  | _, _, .tup h t => .tup h (AtL.widen t)
  | _, _, .scr h => .scr h
  | _, _, .lst h t => .lst h (AtL.widen t)
  | _, _, .gd h r t => .gd h r (AtL.widen t)
  | _, .loc n, .ref h => .ref (d := .loc n) (show M[n]? = _ from h)
  | _, .own n, .ref h => by
    have h' : ([] : List Addr)[n]? = some _ := h
    simp at h'
  | _, .non, .ref h => by cases h
  | _, .bl _, .ref h => by cases h
  | _, .int _, .ref h => by cases h
  | _, .str _, .ref h => by cases h
  | _, .ty _, .ref h => by cases h
  | _, .tup _, .ref h => by cases h
  | _, .lst _, .ref h => by cases h
  | _, .gd _ _, .ref h => by cases h
  | _, .scr _, .ref h => by cases h
theorem AtL.widen : ∀ {vs : List V} {ds : List D}, AtL K B ⟨M, []⟩ vs ds → AtL K B ⟨M, N⟩ vs ds
  | _, _, .nil => .nil
  | _, _, .cons h t => .cons (At.widen h) (AtL.widen t)
end

theorem AtK.clean {κ : Type} : ∀ {vs : List (κ × V)} {ds : List (κ × D)}, AtK K B ⟨M, N⟩ vs ds → (ds.all fun p => p.2.cl) = true → AtK K B ⟨M, N'⟩ vs ds
  | _, _, .nil, _ => .nil
  | _, _, .cons h t, c => by
    rw [List.all_cons, Bool.and_eq_true] at c
    exact .cons ⟨h.1, h.2.clean c.1⟩ (AtK.clean t c.2)
theorem AtK.widen {κ : Type} {vs : List (κ × V)} {ds : List (κ × D)} (h : AtK K B ⟨M, []⟩ vs ds) : AtK K B ⟨M, N⟩ vs ds := Paired.mapP h fun _ _ q => ⟨q.1, q.2.widen⟩
theorem SOAt.clean {H : Hp} {a : Addr} {o : SO} (h : SOAt K B ⟨M, N⟩ H a o) (c : o.cl = true) : SOAt K B ⟨M, N'⟩ H a o := by
  cases o with
  | gone => exact h
  | lst ds =>
    obtain ⟨xs, e, t⟩ := h
    exact ⟨xs, e, t.clean c⟩
  | dK kvs =>
    obtain ⟨xs, e, t⟩ := h
    exact ⟨xs, e, t.clean c⟩
  | lk kvs =>
    obtain ⟨od, xs, e, t⟩ := h
    exact ⟨od, xs, e, t.clean c⟩
  | ins C fs =>
    obtain ⟨dx, vs, e, e2, e3, t⟩ := h
    exact ⟨dx, vs, e, e2, e3, t.clean c⟩
theorem SOAt.widen {H : Hp} {a : Addr} {o : SO} (h : SOAt K B ⟨M, []⟩ H a o) : SOAt K B ⟨M, N⟩ H a o := by
  cases o with
  | gone => exact h
  | lst ds =>
    obtain ⟨xs, e, t⟩ := h
    exact ⟨xs, e, t.widen⟩
  | dK kvs =>
    obtain ⟨xs, e, t⟩ := h
    exact ⟨xs, e, t.widen⟩
  | lk kvs =>
    obtain ⟨od, xs, e, t⟩ := h
    exact ⟨od, xs, e, t.widen⟩
  | ins C fs =>
    obtain ⟨dx, vs, e, e2, e3, t⟩ := h
    exact ⟨dx, vs, e, e2, e3, t.widen⟩
/-- the shared store alone -/
theorem Rep.shared {s l : List SO} {H : Hp} (R : Rep K B ⟨M, N⟩ ⟨s, l⟩ H) : Rep K B ⟨M, []⟩ ⟨s, []⟩ H := by
  refine ⟨R.ext, R.lm, rfl, ?_, fun a ha => ?_, R.cs, fun d o a h1 h2 => ?_⟩
  · show (M ++ []).Nodup
    rw [List.append_nil]
    exact (List.nodup_append.mp R.nd).1
  · rw [show (M ++ [] : List Addr) = M from List.append_nil M] at ha
    exact R.th a (List.mem_append_left _ ha)
  · cases d with
    | loc n =>
      have h1' : s[n]? = some o := h1
      rcases R.ob (.loc n) o a h1 h2 with q | ⟨q1, q2⟩
      · exact .inl q
      · exact .inr ⟨q1, q2.clean (R.cs o (List.mem_of_getElem? h1'))⟩
    | own n =>
      have h1' : ([] : List SO)[n]? = some o := h1
      simp at h1'
    | _ => cases h1
/-- behind a call: the frame's own store is as it was -/
theorem Rep.back {s s' l : List SO} {B' : Hp} {M' : List Addr} {H H' : Hp} (R : Rep K B ⟨M, N⟩ ⟨s, l⟩ H) (g : Gr B ⟨M, []⟩ H B' ⟨M', []⟩ H') (R' : Rep K B' ⟨M', []⟩ ⟨s', []⟩ H') :
    Rep K B' ⟨M', N⟩ ⟨s', l⟩ H' ∧ Gr B ⟨M, N⟩ H B' ⟨M', N⟩ H' := by
  have nd := List.nodup_append.mp R.nd
  have keep : ∀ a ∈ N, ∃ o, H a = some o ∧ H' a = some o ∧ B' a = B a ∧ a ∉ M' := fun a ha => by
    cases e : H a with
    | none => exact absurd e (R.th a (List.mem_append_right _ ha))
    | some o =>
      obtain ⟨q1, q2, q3, _⟩ := g.fr a o e (fun z => nd.2.2 a z a ha rfl) (by simp)
      exact ⟨o, rfl, q1, q2, q3⟩
  have le : Ad.le ⟨M, N⟩ ⟨M', N⟩ := ⟨g.ad.1, List.prefix_refl _⟩
  refine ⟨⟨R'.ext, R'.lm, R.ln, ?_, fun a ha => ?_, R'.cs, fun d o a h1 h2 => ?_⟩, le, g.ex, g.th, g.fz, fun a o e h1 h2 => ?_⟩
  · have n1 : (M' ++ []).Nodup := R'.nd
    rw [List.append_nil] at n1
    refine List.nodup_append.mpr ⟨n1, nd.2.1, fun x hx y hy z => ?_⟩
    obtain ⟨_, _, _, _, q⟩ := keep y hy
    rw [z] at hx
    exact q hx
  · rcases List.mem_append.mp (show a ∈ M' ++ N from ha) with q | q
    · exact R'.th a (List.mem_append_left _ q)
    · obtain ⟨_, _, e, _⟩ := keep a q
      rw [e]; exact fun z => by cases z
  · cases d with
    | loc n =>
      rcases R'.ob (.loc n) o a h1 h2 with q | ⟨q1, q2⟩
      · exact .inl q
      · exact .inr ⟨q1, q2.widen⟩
    | own n =>
      have hm : a ∈ N := List.mem_of_getElem? (show N[n]? = some a from h2)
      obtain ⟨u, e1, e2, e3, _⟩ := keep a hm
      rcases R.ob (.own n) o a h1 h2 with ⟨q1, q2⟩ | ⟨q1, q2⟩
      · exact .inl ⟨q1, by rw [e3]; exact q2⟩
      · refine .inr ⟨by rw [e3]; exact q1, q2.mono g.ex le (e2.trans e1.symm) fun dx f1 f2 => ?_⟩
        have hout := R.dxout f1 f2
        obtain ⟨r1, r2, _, _⟩ := g.fr dx _ f1 (fun z => hout (List.mem_append_left _ z)) (by simp)
        exact ⟨r1, r2.trans f2⟩
    | _ => cases h1
  · obtain ⟨q1, q2, q3, _⟩ := g.fr a o e h1 (by simp)
    exact ⟨q1, q2, q3, h2⟩
end
end DP

set_option Elab.async false
set_option linter.all false
set_option maxRecDepth 100000
set_option maxHeartbeats 2000000
/-! Defs by their mirrors: promise, call. -/
namespace DP
open PySem L2 PySem.Spec PyProof.Rows

/-- room, and nothing is being shown -/
structure RoomG (k : Nat) (A : Around) : Prop where
  rm : Room k A
  gd : A.guards = some []
theorem RoomG.mono {j k : Nat} {A : Around} (r : RoomG k A) (h : j ≤ k) : RoomG j A := ⟨r.rm.mono h, r.gd⟩
theorem RoomG.deeper {k : Nat} {A : Around} (r : RoomG (k + 1) A) (env : PySem.Env) : RoomG k (A.deeper env) := ⟨r.rm.deeper env, by
  first
    | exact r.gd
    | (simp only [Around.deeper]; exact r.gd)⟩

structure FnG (P : Program) (w : World) (K : PySem.W.Frag) (mg : Str → Option Value) (base : Heap) (CX : CXT) (k : Nat) (f : Addr) (fd : FuncData) (ps : List Str) (sp : Sp) : Prop where
  len : ∀ vs H Q E, sp vs H Q E → vs.length = ps.length
  run : ∀ (A : Around) (outer : List PySem.Env) (s : Shared) (H : Hp) (args : Args) (us : List Value) (vs : List V) (Q : VK) (E : XK), RoomG k A →
    Env0 P w K mg base A outer s H → BindsTo s fd args (ps.zip us) → Vals vs us → sp vs H Q E → codeAny (model P w) A (.call (.ref f) args) (CR CX outer P w H s Q E) s

section
variable {P : Program} {w : World} {K : PySem.W.Frag} {mg : Str → Option Value} {base : Heap}
theorem FnG.up {CX : CXT} {j k : Nat} {f : Addr} {fd : FuncData} {ps : List Str} {sp : Sp} (F : FnG P w K mg base CX j f fd ps sp) (h : j ≤ k) : FnG P w K mg base CX k f fd ps sp :=
  ⟨F.len, fun A outer s H args us vs Q E hr => F.run A outer s H args us vs Q E (hr.mono h)⟩
/-- a def of the text by its body -/
theorem fnG_of {CX : CXT} {k : Nat} {x qual : Str} {st : Stmt} {f : Addr} {fd : FuncData} {N ps : List Str} {sp : Sp} (F : Fun K x qual st f fd) (S : FnScope N ps (defScope st)) (len : ∀ vs H Q E, sp vs H Q E → vs.length = ps.length)
    (hb : ∀ (cdv : Value) (A : Around) (outer : List PySem.Env) (s : Shared) (H : Hp) (vs : List V) (Q : VK) (E : XK), RoomG k (A.deeper (envOfC qual (defScope st) s.heap.objs.size f cdv)) → sp vs H Q E →
      ∃ t, PSs (cxOf CX P w K mg base N qual (defScope st) f cdv A outer s H E) (defBody st) t ∧ t { nx := fun _ H' => Q .non H', rt := Q } (start N vs) H) : FnG P w K mg base CX (k + 1) f fd ps sp := by
  obtain ⟨oc, od, kV, doc, pm, an, cdv, ct, osl, rfl, lk, hcd⟩ := F.ex
  refine ⟨len, fun A outer s H args us vs Q E hr e0 hbd rv hsp => ?_⟩
  have hl := len _ _ _ _ hsp
  have KX : K.In s.heap := e0.mod.kin.keeps fun b o e => (e0.bs b o e).1
  have lim : s.heap.NoLimit := e0.mod.nolimit.keeps fun b o e => (e0.bs b o e).1
  have hk : ∀ y ∈ ps.zip us, (defScope st).names.lookup y.1 = some .local ∨ ((defScope st).names.lookup y.1 = some .cell ∧ ((cellsFrom (s.heap.objs.size + 1) (defScope st).names []).lookup y.1).isSome = true) := fun y hy => by
    obtain ⟨n, v⟩ := y
    rcases S.par n (List.of_mem_zip hy).1 with q | q
    · exact Or.inl q
    · exact Or.inr ⟨q, PySem.W.cellsFrom_some _ _ _ (Or.inl q)⟩
  refine codeAny_call_function hr.rm.depth (KX _ _ lk) rfl S.co S.gen rfl (PySem.W.codeRec_of KX hcd) (hbd _ _ _ _ ?_)
  refine wpAny_newFunctionEnv_cells S.kind hk fun env he s1 y => ?_
  subst he
  refine ⟨lim.keeps y.toInCall.keep, codeAny_func ?_⟩
  obtain ⟨t, ht, q0⟩ := hb cdv A outer s H vs Q E (hr.deeper _) hsp
  have J0 : Inv (cxOf CX P w K mg base N qual (defScope st) f cdv A outer s H E) [] (start N vs) H s1 := inv_start S hr.rm.hd e0 hl rv y
  refine wpAny_mono (ht.run [] s1 (start N vs) H _ J0 q0) (fun fl s' hs => ?_) fun e s' hs => hs
  cases fl with
  | ret u =>
    obtain ⟨v, σ', H', J, rr, q⟩ := hs
    exact ⟨v, H', J.os, J.bare, J.base, J.hok, rr, q⟩
  | next =>
    obtain ⟨σ', H', J, q⟩ := hs
    exact ⟨V.non, H', J.os, J.bare, J.base, J.hok, rfl, q⟩
  | brk =>
    obtain ⟨_, _, _, q⟩ := hs
    exact q.elim
  | cont =>
    obtain ⟨_, _, _, q⟩ := hs
    exact q.elim
end

section
variable {X : Cx} {CX : CXT} {k : Nat} {f : Addr} {fd : FuncData} {ps : List Str} {sp : Sp} {E : XK} {x : Str} {p pos : Pos} {e : Expr} {es : List Expr} {t : TA}
theorem run_fnG {pins : List (Addr × Obj)} {σ : L2.St} {H : Hp} {s : Shared} {Q : VK} {us : List Value} {vs : List V} (F : FnG X.prog X.w X.K X.mg X.base CX k f fd ps sp) (hr : RoomG k X.A) (hb : Binds X.K fd ps []) (hx : Passes CX X E)
    (I : Inv X pins σ H s) (r : Vals vs us) (h : sp vs H Q E) : wpAny (model X.prog X.w) X.A (call (.ref f) us) (EP X pins σ Q) X.xe s := by
  have hl : (us ++ []).length = ps.length := by
    rw [List.append_nil, ← r.length]
    exact F.len _ _ _ _ h
  have hbd := hb s us I.kIn hl
  rw [List.append_nil] at hbd
  refine wpAny_call (codeAny_mono (F.run X.A X.stack s H ⟨us, []⟩ us vs Q E hr I.env0 hbd r h) fun z s' hz => ?_)
  cases z with
  | error e => exact hx pins σ H s e s' I hz
  | ok fl =>
    cases fl with
    | ret u => exact I.after hz
    | next => exact False.elim hz
    | brk => exact False.elim hz
    | cont => exact False.elim hz
/-- f(e, ..) -/
theorem pe_callG (F : FnG X.prog X.w X.K X.mg X.base CX k f fd ps sp) (hr : RoomG k X.A) (hg : Gl X x) (hm : X.mg x = some (.ref f)) (hk : PySem.W.keepIn X.K (.ref f) = true) (hb : Binds X.K fd ps []) (hx : Passes CX X E) (ha : PA X (e :: es) t)
    (hdb : (x == ("__debug__" : Str)) = false := by decide) (he : starEach (e :: es) X.env = (false, eval e X.env) :: starEach es X.env := by rfl) (hpl : (backTo pos (starEach es X.env)).any (·.1) = false := by rfl) :
    PE X (.Call (.Name x p) (e :: es) [] pos) (fun σ H Q => t σ H fun vs H1 => sp vs H1 Q E) := by
  refine ⟨fun pins s σ H Q I h => ?_⟩
  refine wpAny_Call_Name_kw (ld_glob I hg hm ?_ hdb)
  refine PySem.W.callWith_K (h₀ := X.base) I.ok.mod.kin hk (thn (ha.run pos pins s σ H _ I h) fun us s1 hq => ?_) he hpl
  obtain ⟨vs, H1, I1, r1, q1⟩ := hq
  exact ⟨I1.kIn, run_fnG F hr hb hx I1 r1 q1⟩
theorem pe_callG0 (F : FnG X.prog X.w X.K X.mg X.base CX k f fd ps sp) (hr : RoomG k X.A) (hg : Gl X x) (hm : X.mg x = some (.ref f)) (hk : PySem.W.keepIn X.K (.ref f) = true) (hb : Binds X.K fd ps []) (hx : Passes CX X E)
    (hdb : (x == ("__debug__" : Str)) = false := by decide) : PE X (.Call (.Name x p) [] [] pos) (fun σ H Q => sp [] H Q E) := by
  refine ⟨fun pins s σ H Q I h => ?_⟩
  refine wpAny_Call_Name_kw (ld_glob I hg hm ?_ hdb)
  exact PySem.W.callWith_K0 I.kIn hk (run_fnG (us := []) F hr hb hx I .nil h)
end

/-! ### mirrors of defs -/
abbrev FN := List D → List SO → Res D
/-- the promise: it does as F -/
def spD (K : KW) (n : Nat) (F : FN) : Sp := fun vs H Q E => vs.length = n ∧ ∃ B M s ds, Rep K B ⟨M, []⟩ ⟨s, []⟩ H ∧ AtL K B ⟨M, []⟩ vs ds ∧
  (F ds s).post (fun d w' => ∀ v B' M' H', Gr B ⟨M, []⟩ H B' ⟨M', []⟩ H' → Rep K B' ⟨M', []⟩ ⟨w'.s, []⟩ H' → At K B' ⟨M', []⟩ v d → Q v H') (fun _ _ _ => False)
/-- a call, from within a frame -/
def callM (F : FN) (ds : List D) (w : Wd) : Res D :=
  if w.l = [] ∨ D.clL ds = true then (match F ds w.s with
    | .ok d w' => .ok d ⟨w'.s, w.l⟩
    | .exc c as s => .exc c as s
    | .stuck => .stuck) else .stuck
instance (l : List SO) : Decidable (l = []) := match l with
  | [] => isTrue rfl
  | _ :: _ => isFalse (fun h => nomatch h)
theorem callM_nil {F : FN} {ds : List D} {s : List SO} : callM F ds ⟨s, []⟩ = (match F ds s with
    | .ok d w' => .ok d ⟨w'.s, []⟩
    | .exc c as s => .exc c as s
    | .stuck => .stuck) := by unfold callM; rw [if_pos (Or.inl rfl)]
/-- what a frame sees of a callee -/
theorem call_ok {K : KW} {n : Nat} {F : FN} {B : Hp} {A : Ad} {w : Wd} {H : Hp} {vs : List V} {ds : List D} {Q : VK} {E : XK} (hn : vs.length = n) (R : Rep K B A w H) (h : AtL K B A vs ds)
    (q : (callM F ds w).post (fun d w' => ∀ v B' A' H', Gr B A H B' A' H' → Rep K B' A' w' H' → At K B' A' v d → Q v H') (fun _ _ _ => False)) : spD K n F vs H Q E := by
  obtain ⟨M, N⟩ := A
  obtain ⟨s, l⟩ := w
  unfold callM at q
  split at q
  case isFalse => exact q.elim
  case isTrue hc =>
    have h' : AtL K B ⟨M, []⟩ vs ds := by
      rcases hc with e | e
      · have e' : l = [] := e
        have hN : N = [] := by
          have := R.ln
          rw [e'] at this
          exact List.length_eq_zero_iff.mp this
        rw [hN] at h
        exact h
      · exact h.clean e
    refine ⟨hn, B, M, s, ds, R.shared, h', ?_⟩
    have q2 : (match F ds s with
      | .ok d w' => Res.ok d ⟨w'.s, l⟩
      | .exc c as s => .exc c as s
      | .stuck => .stuck).post (fun d w' => ∀ v B' A' H', Gr B ⟨M, N⟩ H B' A' H' → Rep K B' A' w' H' → At K B' A' v d → Q v H') (fun _ _ _ => False) := q
    cases e : F ds s with
    | ok d w' =>
      rw [e] at q2
      intro v B' M' H' g R' a
      obtain ⟨R2, g2⟩ := R.back g R'
      exact q2 v B' ⟨M', N⟩ H' g2 R2 a.widen
    | exc c as s' =>
      rw [e] at q2
      exact q2
    | stuck =>
      rw [e] at q2
      exact q2
end DP

set_option Elab.async false
set_option linter.all false
set_option maxRecDepth 100000
set_option maxHeartbeats 2000000
/-! Operators by plain data. -/
namespace DP
open PySem L2 PySem.Spec PyProof.Rows

/-- what is wanted of a value behind a run -/
abbrev FinD (K : KW) (B : Hp) (A : Ad) (H : Hp) (Q : VK) : D → Wd → Prop := fun d w' => ∀ v B' A' H', Gr B A H B' A' H' → Rep K B' A' w' H' → At K B' A' v d → Q v H'
section
variable {K : KW} {B : Hp} {A : Ad} {w : Wd} {H : Hp} {Q : VK}
theorem FinD.ret {d : D} {v : V} (k : FinD K B A H Q d w) (R : Rep K B A w H) (h : At K B A v d) : Q v H := k v B A H Gr.refl R h
theorem FinD.newT {ds : List D} {xs : List V} {p : Addr} (k : FinD K B A H Q (.tup ds) w) (R : Rep K B A w H) (h : AtL K B A xs ds) (hp : H p = none) : Q (.ref p) (L2.upd H p (.tup xs)) :=
  k _ _ _ _ (Gr.frozen hp (R.bnone hp)) (R.frozen hp) (.tup (Or.inl (Or.inl upd_same)) (h.mono (Ex.new (R.bnone hp)) (.refl _)))
theorem FinD.newL {ds : List D} {xs : List V} {p : Addr} (k : FinD K B A H Q (.lst ds) w) (R : Rep K B A w H) (h : AtL K B A xs ds) (hp : H p = none) : Q (.ref p) (L2.upd H p (.lst xs)) :=
  k _ _ _ _ (Gr.frozen hp (R.bnone hp)) (R.frozen hp) (.lst upd_same (h.mono (Ex.new (R.bnone hp)) (.refl _)))
theorem FinD.shift {B1 : Hp} {A1 : Ad} {H1 : Hp} {d : D} {w' : Wd} (k : FinD K B A H Q d w') (g : Gr B A H B1 A1 H1) : FinD K B1 A1 H1 Q d w' := fun v B' A' H' g' R' a => k v B' A' H' (g.trans g') R' a
end

def soL : Option SO → Option (List D)
  | some (.lst ds) => some ds
  | _ => none
theorem soL_some {o : Option SO} {ds : List D} (h : soL o = some ds) : o = some (.lst ds) := by
  cases o with
  | none => cases h
  | some x =>
    cases x with
    | lst xs => cases h; rfl
    | _ => cases h
def lstOf (w : Wd) : D → Option (List D)
  | .lst ds => some ds
  | .loc n => soL w.s[n]?
  | .own n => soL w.l[n]?
  | _ => none
def seqOf (w : Wd) : D → Option (List D)
  | .tup ds => some ds
  | d => lstOf w d
section
variable {K : KW} {B : Hp} {A : Ad} {w : Wd} {H : Hp} {v : V} {d : D} {ds : List D}
theorem Rep.lstAt (R : Rep K B A w H) (h : At K B A v d) (e : lstOf w d = some ds) : ∃ a xs, v = .ref a ∧ H a = some (.lst xs) ∧ AtL K B A xs ds := by
  have stored : ∀ d : D, w.get d = some (.lst ds) → At K B A v d → (∀ xs, d ≠ .tup xs) → (∀ xs, d ≠ .lst xs) → ∃ a xs, v = .ref a ∧ H a = some (.lst xs) ∧ AtL K B A xs ds := by
    intro d e h n1 n2
    cases h with
    | ref ha =>
      rcases R.ob _ _ _ e ha with ⟨q, _⟩ | ⟨_, xs, q1, q2⟩
      · cases q
      · exact ⟨_, xs, rfl, q1, q2⟩
    | tup _ _ => exact absurd rfl (n1 _)
    | lst _ _ => exact absurd rfl (n2 _)
    | _ => cases e
  cases d with
  | lst xs =>
    cases e
    cases h with
    | lst hb t => exact ⟨_, _, rfl, R.ext _ _ hb, t⟩
    | ref ha => cases ha
  | loc n =>
    exact stored (.loc n) (soL_some (o := w.s[n]?) e) h (fun _ z => by cases z) (fun _ z => by cases z)
  | own n =>
    exact stored (.own n) (soL_some (o := w.l[n]?) e) h (fun _ z => by cases z) (fun _ z => by cases z)
  | _ => cases e
theorem Rep.tupAt (R : Rep K B A w H) (h : At K B A v (.tup ds)) : ∃ a xs, v = .ref a ∧ SqT K H a xs ∧ AtL K B A xs ds := by
  cases h with
  | tup hb t => exact ⟨_, _, rfl, ex_t R.ext hb, t⟩
  | ref ha => cases ha
theorem Rep.seqAt (R : Rep K B A w H) (h : At K B A v d) (e : seqOf w d = some ds) : ∃ a xs, v = .ref a ∧ (SqL K H a xs ∨ SqT K H a xs) ∧ AtL K B A xs ds := by
  by_cases ht : ∃ xs, d = .tup xs
  · obtain ⟨xs, rfl⟩ := ht
    cases e
    obtain ⟨a, vs, e1, e2, e3⟩ := R.tupAt h
    exact ⟨a, vs, e1, .inr e2, e3⟩
  · have e' : lstOf w d = some ds := by
      cases d with
      | tup xs => exact absurd ⟨xs, rfl⟩ ht
      | _ => exact e
    obtain ⟨a, vs, e1, e2, e3⟩ := R.lstAt h e'
    exact ⟨a, vs, e1, .inl (SqL.of e2), e3⟩
end

/-- an operator that does as op -/
def OpD (K : KW) (r : R2) (op : D → D → Wd → Res D) : Prop := ∀ {B : Hp} {A : Ad} {w : Wd} {H : Hp} {x y : V} {dx dy : D} {Q : VK} {Ee : Str → List D → List SO → Prop},
  Rep K B A w H → At K B A x dx → At K B A y dy → (op dx dy w).post (FinD K B A H Q) Ee → r x y H Q
def okI (i : Int) (w : Wd) : Res D := .ok (.int i) w

section
variable {K : KW}
theorem At.int_inv {B : Hp} {A : Ad} {v : V} {i : Int} (h : At K B A v (.int i)) : v = .int i := by
  cases h with
  | int => rfl
  | ref ha => cases ha
theorem At.bl_inv {B : Hp} {A : Ad} {v : V} {b : Bool} (h : At K B A v (.bl b)) : v = .bl b := by
  cases h with
  | bl => rfl
  | ref ha => cases ha
theorem At.str_inv {B : Hp} {A : Ad} {v : V} {x : Str} (h : At K B A v (.str x)) : v = .str x := by
  cases h with
  | str => rfl
  | ref ha => cases ha
theorem At.non_inv {B : Hp} {A : Ad} {v : V} (h : At K B A v .non) : v = .non := by
  cases h with
  | non => rfl
  | ref ha => cases ha
theorem At.ty_inv {B : Hp} {A : Ad} {v : V} {n : String} (h : At K B A v (.ty n)) : v = .ty n := by
  cases h with
  | ty => rfl
  | ref ha => cases ha
end

/-! ### + -/
def opAddL (dx dy : D) (w : Wd) : Res D := match lstOf w dx, lstOf w dy with
  | some xs, some ys => if xs.length + ys.length ≤ sizeLine then .ok (.lst (xs ++ ys)) w else .stuck
  | _, _ => .stuck
def opAdd (dx dy : D) (w : Wd) : Res D := match dx, dy with
  | .int i, .int j => .ok (.int (i + j)) w
  | .int i, .bl k => .ok (.int (i + b2i k)) w
  | .str x, .str y => if x.length + y.length ≤ sizeLine then .ok (.str (x ++ y)) w else .stuck
  | .tup xs, .tup ys => if xs.length + ys.length ≤ sizeLine then .ok (.tup (xs ++ ys)) w else .stuck
  | dx, dy => opAddL dx dy w
def rAddD (K : KW) : R2 := fun x y H Q => rI0 (fun i j => .int (i + j)) x y H Q ∨ (∃ i k, x = .int i ∧ y = .bl k ∧ Q (.int (i + b2i k)) H) ∨
  (∃ i j, x = .str i ∧ y = .str j ∧ i.length + j.length ≤ sizeLine ∧ Q (.str (i ++ j)) H) ∨ rCatA K x y H Q ∨ rCat x y H Q
theorem op_addD {X : Cx} : OpR X (binaryOp .Add) (rAddD (kwOf X)) := fun pins s σ H x y v u Q I rx ry h => by
  rcases h with h | h | h | h | h
  · exact op_add pins s σ H x y v u Q I rx ry h
  · exact op_add_ib pins s σ H x y v u Q I rx ry h
  · exact op_add_str pins s σ H x y v u Q I rx ry h
  · exact op_catA pins s σ H x y v u Q I rx ry h
  · exact op_cat pins s σ H x y v u Q I rx ry h
theorem od_addL {K : KW} : OpD K rCat opAddL := by
  intro B A w H x y dx dy Q Ee R hx hy h
  unfold opAddL at h
  split at h
  case h_2 => exact h.elim
  case h_1 xs ys e1 e2 =>
    split at h
    case isFalse => exact h.elim
    case isTrue hz =>
      obtain ⟨a, us, rfl, q1, t1⟩ := R.lstAt hx e1
      obtain ⟨b, ws, rfl, q2, t2⟩ := R.lstAt hy e2
      exact ⟨a, b, us, ws, rfl, rfl, q1, q2, by rw [t1.length, t2.length]; exact hz, fun p hp => FinD.newL h R (t1.append t2) hp⟩
theorem od_add {K : KW} : OpD K (rAddD K) opAdd := by
  intro B A w H x y dx dy Q Ee R hx hy h
  unfold opAdd at h
  split at h
  · cases hx.int_inv
    cases hy.int_inv
    exact .inl ⟨_, _, rfl, rfl, FinD.ret h R (.int _)⟩
  · cases hx.int_inv
    cases hy.bl_inv
    exact .inr (.inl ⟨_, _, rfl, rfl, FinD.ret h R (.int _)⟩)
  · cases hx.str_inv
    cases hy.str_inv
    split at h
    case isFalse => exact h.elim
    case isTrue hz => exact .inr (.inr (.inl ⟨_, _, rfl, rfl, hz, FinD.ret h R (.str _)⟩))
  · split at h
    case isFalse => exact h.elim
    case isTrue hz =>
      obtain ⟨a, us, rfl, q1, t1⟩ := R.tupAt hx
      obtain ⟨b, ws, rfl, q2, t2⟩ := R.tupAt hy
      refine .inr (.inr (.inr (.inl ⟨a, b, us, ws, rfl, rfl, q1, q2, by rw [t1.length, t2.length]; exact hz, fun e => ?_, fun _ e => ?_, fun _ _ p hp => FinD.newT h R (t1.append t2) hp⟩)))
      · subst e
        cases t1
        exact FinD.ret h R hy
      · subst e
        cases t2
        rw [List.append_nil] at h
        exact FinD.ret h R hx
  · exact .inr (.inr (.inr (.inr (od_addL R hx hy h))))

/-! ### -, *, //, % -/
def opSub (dx dy : D) (w : Wd) : Res D := match dx, dy with
  | .int i, .int j => .ok (.int (i - j)) w
  | _, _ => .stuck
theorem od_sub {K : KW} : OpD K (rI0 fun i j => .int (i - j)) opSub := by
  intro B A w H x y dx dy Q Ee R hx hy h
  unfold opSub at h
  split at h
  · cases hx.int_inv
    cases hy.int_inv
    exact ⟨_, _, rfl, rfl, FinD.ret h R (.int _)⟩
  · exact h.elim
/-- a factor below 2 ^ 64, or both together short -/
def mulOk (i j : Int) : Bool := decide (i.natAbs < 2 ^ 64) || decide (j.natAbs < 2 ^ 64) || decide (i.natAbs.log2 + j.natAbs.log2 < 900000)
def opMul (dx dy : D) (w : Wd) : Res D := match dx, dy with
  | .int i, .int j => if (decide (i.natAbs < 2 ^ 64) || decide (j.natAbs < 2 ^ 64)) = true then .ok (.int (i * j)) w else .stuck
  | .tup xs, .int k => if xs ≠ [] ∧ 2 ≤ k ∧ k ≤ 1000 ∧ xs.length ≤ 1000 then .ok (.tup (List.replicate k.toNat xs).flatten) w else .stuck
  | dx, .int k => match lstOf w dx with
    | some xs => if -(2 ^ 63) ≤ k ∧ k < 2 ^ 63 ∧ xs.length * k.toNat ≤ sizeLine then .ok (.lst (List.replicate k.toNat xs).flatten) w else .stuck
    | none => .stuck
  | _, _ => .stuck
def rMulD (K : KW) : R2 := fun x y H Q => rI CMul (fun i j => .int (i * j)) x y H Q ∨ rRepT K x y H Q ∨ rRep x y H Q
theorem op_mulD {X : Cx} : OpR X (binaryOp .Mult) (rMulD (kwOf X)) := fun pins s σ H x y v u Q I rx ry h => by
  rcases h with h | h | h
  · exact op_mul pins s σ H x y v u Q I rx ry h
  · exact op_repT pins s σ H x y v u Q I rx ry h
  · exact op_rep pins s σ H x y v u Q I rx ry h
theorem AtL.rep {K : KW} {B : Hp} {A : Ad} {xs : List V} {ds : List D} (h : AtL K B A xs ds) : ∀ n : Nat, AtL K B A (List.replicate n xs).flatten (List.replicate n ds).flatten
  | 0 => .nil
  | n + 1 => by
    rw [List.replicate_succ, List.replicate_succ, List.flatten_cons, List.flatten_cons]
    exact h.append (AtL.rep h n)
theorem od_mul {K : KW} : OpD K (rMulD K) opMul := by
  intro B A w H x y dx dy Q Ee R hx hy h
  unfold opMul at h
  split at h
  · cases hx.int_inv
    cases hy.int_inv
    split at h
    case isFalse => exact h.elim
    case isTrue hc =>
      refine .inl ⟨_, _, rfl, rfl, ?_, FinD.ret h R (.int _)⟩
      rw [Bool.or_eq_true, decide_eq_true_iff, decide_eq_true_iff] at hc
      rcases hc with q | q
      · exact .inl ⟨by omega, by omega⟩
      · exact .inr ⟨by omega, by omega⟩
  · cases hy.int_inv
    split at h
    case isFalse => exact h.elim
    case isTrue hc =>
      obtain ⟨a, us, rfl, q1, t1⟩ := R.tupAt hx
      refine .inr (.inl ⟨a, _, us, rfl, rfl, q1, fun e => hc.1 ?_, hc.2.1, hc.2.2.1, by rw [t1.length]; exact hc.2.2.2, fun p hp => FinD.newT h R (t1.rep _) hp⟩)
      rw [e] at t1
      cases t1
      rfl
  · cases hy.int_inv
    split at h
    · rename_i xs e1
      split at h
      case isFalse => exact h.elim
      case isTrue hc =>
        obtain ⟨a, us, rfl, q1, t1⟩ := R.lstAt hx e1
        exact .inr (.inr ⟨a, _, us, rfl, rfl, q1, hc.1, hc.2.1, by rw [t1.length]; exact hc.2.2, fun p hp => FinD.newL h R (t1.rep _) hp⟩)
    · exact h.elim
  · exact h.elim
def opFdiv (dx dy : D) (w : Wd) : Res D := match dx, dy with
  | .int i, .int j => if j ≠ 0 ∧ j.natAbs < 1073741824 then .ok (.int (i.fdiv j)) w else .stuck
  | _, _ => .stuck
theorem od_fdiv {K : KW} : OpD K (rI CDivN fun i j => .int (i.fdiv j)) opFdiv := by
  intro B A w H x y dx dy Q Ee R hx hy h
  unfold opFdiv at h
  split at h
  · cases hx.int_inv
    cases hy.int_inv
    split at h
    case isFalse => exact h.elim
    case isTrue hc => exact ⟨_, _, rfl, rfl, hc, FinD.ret h R (.int _)⟩
  · exact h.elim
def opMod (dx dy : D) (w : Wd) : Res D := match dx, dy with
  | .int i, .int j => if j ≠ 0 then .ok (.int (i.fmod j)) w else .stuck
  | _, _ => .stuck
theorem od_mod {K : KW} : OpD K (rI (fun _ j => j ≠ 0) fun i j => .int (i.fmod j)) opMod := by
  intro B A w H x y dx dy Q Ee R hx hy h
  unfold opMod at h
  split at h
  · cases hx.int_inv
    cases hy.int_inv
    split at h
    case isFalse => exact h.elim
    case isTrue hc => exact ⟨_, _, rfl, rfl, hc, FinD.ret h R (.int _)⟩
  · exact h.elim
def opPow (dx dy : D) (w : Wd) : Res D := match dx, dy with
  | .int i, .int j => if 0 ≤ j ∧ j ≤ 1000000 ∧ i.natAbs < 2 ^ 64 then .ok (.int (i ^ j.toNat)) w else .stuck
  | _, _ => .stuck
theorem od_pow {K : KW} : OpD K (rI CPow fun i j => .int (i ^ j.toNat)) opPow := by
  intro B A w H x y dx dy Q Ee R hx hy h
  unfold opPow at h
  split at h
  · cases hx.int_inv
    cases hy.int_inv
    split at h
    case isFalse => exact h.elim
    case isTrue hc => exact ⟨_, _, rfl, rfl, hc, FinD.ret h R (.int _)⟩
  · exact h.elim

/-! ### order of numbers -/
def opCmp (p : Int → Int → Bool) (dx dy : D) (w : Wd) : Res D := match dx, dy with
  | .int i, .int j => .ok (.bl (p i j)) w
  | _, _ => .stuck
theorem od_cmp {K : KW} {p : Int → Int → Bool} : OpD K (rI0 fun i j => .bl (p i j)) (opCmp p) := by
  intro B A w H x y dx dy Q Ee R hx hy h
  unfold opCmp at h
  split at h
  · cases hx.int_inv
    cases hy.int_inv
    exact ⟨_, _, rfl, rfl, FinD.ret h R (.bl _)⟩
  · exact h.elim
abbrev opLt := opCmp fun i j => decide (i < j)
abbrev opLe := opCmp fun i j => decide (i ≤ j)
abbrev opGt := opCmp fun i j => decide (j < i)
abbrev opGe := opCmp fun i j => decide (j ≤ i)

/-! ### data as the model has it -/
mutual
/-- plain data without store -/
def D.py0 : D → Option PyData
  | .non => some .none
  | .bl b => some (.bool b)
  | .int i => some (.int i)
  | .str x => some (.str x)
  | .tup xs => (D.py0L xs).map .tuple
  | .lst xs => (D.py0L xs).map .list
  | .loc _ => none
  | .own _ => none
  | .ty _ => none
  | .gd _ _ => none
  | .scr _ => none
def D.py0L : List D → Option (List PyData)
  | [] => some []
  | d :: ds => match d.py0, D.py0L ds with
    | some p, some ps => some (p :: ps)
    | _, _ => none
end
mutual
/-- with the store's lists (one level deep) -/
def D.py (w : Wd) : D → Option PyData
  | .non => some .none
  | .bl b => some (.bool b)
  | .int i => some (.int i)
  | .str x => some (.str x)
  | .tup xs => (D.pyL w xs).map .tuple
  | .lst xs => (D.pyL w xs).map .list
  | .loc n => ((soL w.s[n]?).bind D.py0L).map .list
  | .own n => ((soL w.l[n]?).bind D.py0L).map .list
  | .ty _ => none
  | .gd _ _ => none
  | .scr _ => none
def D.pyL (w : Wd) : List D → Option (List PyData)
  | [] => some []
  | d :: ds => match d.py w, D.pyL w ds with
    | some p, some ps => some (p :: ps)
    | _, _ => none
end
section
variable {K : KW} {B : Hp} {A : Ad} {w : Wd} {H : Hp}
mutual
theorem At.dp0 (hB : Ex B H) : ∀ {v : V} {d : D} {p : PyData}, At K B A v d → d.py0 = some p → Dp K H v p
  | _, _, _, .non, e => by rw [D.py0] at e; cases e; exact .non
  | _, _, _, .bl b, e => by rw [D.py0] at e; cases e; exact .bl b
  | _, _, _, .int i, e => by rw [D.py0] at e; cases e; exact .int i
  | _, _, _, .str x, e => by rw [D.py0] at e; cases e; exact .str x
  | _, _, _, .ty n, e => by rw [D.py0] at e; cases e
  | _, _, _, .tup (ds := ds) h t, e => by
    rw [D.py0] at e
    cases q : D.py0L ds with
    | none => rw [q] at e; cases e
    | some ps =>
      rw [q] at e
      cases e
      exact .tup (ex_t hB h) (AtL.dp0 hB t q)
  | _, _, _, .lst (ds := ds) h t, e => by
    rw [D.py0] at e
    cases q : D.py0L ds with
    | none => rw [q] at e; cases e
    | some ps =>
      rw [q] at e
      cases e
      exact .lst (SqL.of (hB _ _ h)) (AtL.dp0 hB t q)
  | _, _, _, .gd _ _ _, e => by rw [D.py0] at e; cases e
  | _, _, _, .scr _, e => by rw [D.py0] at e; cases e
  | _, d, _, .ref ha, e => by
    cases d with
    | loc n => rw [D.py0] at e; cases e
    | own n => rw [D.py0] at e; cases e
    | _ => cases ha
theorem AtL.dp0 (hB : Ex B H) : ∀ {vs : List V} {ds : List D} {ps : List PyData}, AtL K B A vs ds → D.py0L ds = some ps → DpAll K H vs ps
  | _, _, _, .nil, e => by rw [D.py0L] at e; cases e; exact .nil
  | _, _, _, .cons (d := d) (ds := ds) h t, e => by
    rw [D.py0L] at e
    cases q1 : d.py0 with
    | none => rw [q1] at e; cases e
    | some p =>
      cases q2 : D.py0L ds with
      | none => rw [q1, q2] at e; cases e
      | some ps =>
        rw [q1, q2] at e
        cases e
        exact .cons (At.dp0 hB h q1) (AtL.dp0 hB t q2)
end
mutual
theorem Rep.dp (R : Rep K B A w H) : ∀ {v : V} {d : D} {p : PyData}, At K B A v d → d.py w = some p → Dp K H v p
  | _, _, _, .non, e => by rw [D.py] at e; cases e; exact .non
  | _, _, _, .bl b, e => by rw [D.py] at e; cases e; exact .bl b
  | _, _, _, .int i, e => by rw [D.py] at e; cases e; exact .int i
  | _, _, _, .str x, e => by rw [D.py] at e; cases e; exact .str x
  | _, _, _, .ty n, e => by rw [D.py] at e; cases e
  | _, _, _, .tup (ds := ds) h t, e => by
    rw [D.py] at e
    cases q : D.pyL w ds with
    | none => rw [q] at e; cases e
    | some ps =>
      rw [q] at e
      cases e
      exact .tup (ex_t R.ext h) (Rep.dpL R t q)
  | _, _, _, .lst (ds := ds) h t, e => by
    rw [D.py] at e
    cases q : D.pyL w ds with
    | none => rw [q] at e; cases e
    | some ps =>
      rw [q] at e
      cases e
      exact .lst (SqL.of (R.ext _ _ h)) (Rep.dpL R t q)
  | _, _, _, .gd _ _ _, e => by rw [D.py] at e; cases e
  | _, _, _, .scr _, e => by rw [D.py] at e; cases e
  | _, d, _, .ref ha, e => by
    cases d with
    | loc n =>
      rw [D.py] at e
      cases q : soL w.s[n]? with
      | none => rw [q] at e; cases e
      | some ds =>
        rw [q] at e
        have e1 : Option.map PyData.list (D.py0L ds) = some _ := e
        cases q2 : D.py0L ds with
        | none => rw [q2] at e1; cases e1
        | some ps =>
          rw [q2] at e1
          cases e1
          rcases R.ob (.loc n) _ _ (soL_some q) ha with ⟨z, _⟩ | ⟨_, xs, z1, z2⟩
          · cases z
          · exact .lst (SqL.of z1) (AtL.dp0 R.ext z2 q2)
    | own n =>
      rw [D.py] at e
      cases q : soL w.l[n]? with
      | none => rw [q] at e; cases e
      | some ds =>
        rw [q] at e
        have e1 : Option.map PyData.list (D.py0L ds) = some _ := e
        cases q2 : D.py0L ds with
        | none => rw [q2] at e1; cases e1
        | some ps =>
          rw [q2] at e1
          cases e1
          rcases R.ob (.own n) _ _ (soL_some q) ha with ⟨z, _⟩ | ⟨_, xs, z1, z2⟩
          · cases z
          · exact .lst (SqL.of z1) (AtL.dp0 R.ext z2 q2)
    | _ => cases ha
theorem Rep.dpL (R : Rep K B A w H) : ∀ {vs : List V} {ds : List D} {ps : List PyData}, AtL K B A vs ds → D.pyL w ds = some ps → DpAll K H vs ps
  | _, _, _, .nil, e => by rw [D.pyL] at e; cases e; exact .nil
  | _, _, _, .cons (d := d) (ds := ds) h t, e => by
    rw [D.pyL] at e
    cases q1 : d.py w with
    | none => rw [q1] at e; cases e
    | some p =>
      cases q2 : D.pyL w ds with
      | none => rw [q1, q2] at e; cases e
      | some ps =>
        rw [q1, q2] at e
        cases e
        exact .cons (Rep.dp R h q1) (Rep.dpL R t q2)
end
end
end DP

set_option Elab.async false
set_option linter.all false
set_option maxRecDepth 100000
set_option maxHeartbeats 2000000
/-! Expressions by their mirrors. -/
namespace DP
open PySem L2 PySem.Spec PyProof.Rows

section
variable {K : KW} {W : XW} {B : Hp} {A : Ad} {w : Wd} {δ : Env} {σ : L2.St} {H : Hp}
/-- one part of an expression, then the rest -/
theorem part {β : Type} {m : ME} {f : D → Wd → Res β} {P : β → Wd → Prop} {Q' : VK} (R : Rep K B A w H) (E : EnvAt K B A σ δ) (h : ((m δ w).bind f).post P (W.P B A H))
    (k : ∀ d w1 v B1 A1 H1, Gr B A H B1 A1 H1 → Rep K B1 A1 w1 H1 → At K B1 A1 v d → (f d w1).post P (W.P B1 A1 H1) → Q' v H1) : tE K W m σ H Q' :=
  ⟨B, A, w, δ, R, E, Res.post_mono (Res.post_bind h) (fun d w1 h1 v B1 A1 H1 g R1 a => k d w1 v B1 A1 H1 g R1 a (Res.post_mono h1 (fun _ _ z => z) fun _ _ _ z => W.mono g z)) fun _ _ _ z => z⟩
theorem partA {β : Type} {m : MA} {f : List D → Wd → Res β} {P : β → Wd → Prop} {Q' : List V → Hp → Prop} (R : Rep K B A w H) (E : EnvAt K B A σ δ) (h : ((m δ w).bind f).post P (W.P B A H))
    (k : ∀ ds w1 vs B1 A1 H1, Gr B A H B1 A1 H1 → Rep K B1 A1 w1 H1 → AtL K B1 A1 vs ds → (f ds w1).post P (W.P B1 A1 H1) → Q' vs H1) : tAr K W m σ H Q' :=
  ⟨B, A, w, δ, R, E, Res.post_mono (Res.post_bind h) (fun d w1 h1 v B1 A1 H1 g R1 a => k d w1 v B1 A1 H1 g R1 a (Res.post_mono h1 (fun _ _ z => z) fun _ _ _ z => W.mono g z)) fun _ _ _ z => z⟩
theorem partT {β : Type} {m : MT} {f : Bool → Wd → Res β} {P : β → Wd → Prop} {Q' : Bool → Hp → Prop} (R : Rep K B A w H) (E : EnvAt K B A σ δ) (h : ((m δ w).bind f).post P (W.P B A H))
    (k : ∀ b w1 B1 A1 H1, Gr B A H B1 A1 H1 → Rep K B1 A1 w1 H1 → (f b w1).post P (W.P B1 A1 H1) → Q' b H1) : tTt K W m σ H Q' :=
  ⟨B, A, w, δ, R, E, Res.post_mono (Res.post_bind h) (fun d w1 h1 B1 A1 H1 g R1 => k d w1 B1 A1 H1 g R1 (Res.post_mono h1 (fun _ _ z => z) fun _ _ _ z => W.mono g z)) fun _ _ _ z => z⟩
/-- the whole at a later place -/
theorem tE.of {m : ME} {Q : VK} (R : Rep K B A w H) (E : EnvAt K B A σ δ) (h : (m δ w).post (FinD K B A H Q) (W.P B A H)) : tE K W m σ H Q := ⟨B, A, w, δ, R, E, h⟩
end
theorem post_shift {K : KW} {B : Hp} {A : Ad} {H : Hp} {B1 : Hp} {A1 : Ad} {H1 : Hp} {Q : VK} {r : Res D} {E : Str → List D → List SO → Prop} (h : r.post (FinD K B A H Q) E) (g : Gr B A H B1 A1 H1) : r.post (FinD K B1 A1 H1 Q) E :=
  Res.post_mono h (fun _ _ z => FinD.shift z g) fun _ _ _ z => z

/-! ### names, constants -/
def eVar (i : Nat) : ME := fun δ w => match δ[i]? with
  | some (some d) => .ok d w
  | _ => .stuck
def eC (d : D) : ME := fun _ w => .ok d w
section
variable {X : Cx} {W : XW} {pos : Pos}
theorem de_var (i : Nat) {x : Str} (hN : X.N[i]? = some x := by rfl) (hv : Vis X.env.scope x := by first | exact Or.inl rfl | exact Or.inr (Or.inl rfl) | exact Or.inr (Or.inr rfl))
    (hd : (x == ("__debug__" : Str)) = false := by decide) (hc : (x == ("__classdict__" : Str)) = false := by decide) : PE X (.Name x pos) (tE (kwOf X) W (eVar i)) := by
  refine PE.weaken (pe_var hN hv hd hc) fun σ H Q h => ?_
  obtain ⟨B, A, w, δ, R, E, h⟩ := h
  unfold eVar at h
  cases e : δ[i]? with
  | none => rw [e] at h; exact h.elim
  | some o =>
    cases o with
    | none => rw [e] at h; exact h.elim
    | some d =>
      rw [e] at h
      obtain ⟨v, h1, h2⟩ := E.2 i d e
      exact ⟨v, h1, FinD.ret h R h2⟩
theorem de_at {e : Expr} {v : V} {d : D} (h : PE X e (tC v)) (a : ∀ B A, At (kwOf X) B A v d) : PE X e (tE (kwOf X) W (eC d)) := by
  refine PE.weaken h fun σ H Q h => ?_
  obtain ⟨B, A, w, δ, R, E, h⟩ := h
  exact FinD.ret h R (a B A)
theorem de_int {i : Int} {j : Nat} : PE X (.Constant (.int i) j pos) (tE (kwOf X) W (eC (.int i))) := de_at pe_int fun _ _ => .int i
theorem de_bl {b : Bool} {j : Nat} : PE X (.Constant (.bool b) j pos) (tE (kwOf X) W (eC (.bl b))) := de_at pe_bl fun _ _ => .bl b
theorem de_non {j : Nat} : PE X (.Constant .none j pos) (tE (kwOf X) W (eC .non)) := de_at pe_non fun _ _ => .non
theorem de_str {x : Str} {j : Nat} : PE X (.Constant (.str x) j pos) (tE (kwOf X) W (eC (.str x))) := de_at pe_str fun _ _ => .str x
/-- a module's constant -/
structure Glo (K : KW) (mg : Str → Option Value) (x : Str) (d : D) : Prop where
  ex : ∃ u v, mg x = some u ∧ RelV v u ∧ ∀ B A, At K B A v d
theorem de_glo {x : Str} {d : D} (h : Glo (kwOf X) X.mg x d) (hg : Gl X x := by rfl) (hd : (x == ("__debug__" : Str)) = false := by decide) : PE X (.Name x pos) (tE (kwOf X) W (eC d)) := by
  obtain ⟨u, v, hm, r, a⟩ := h.ex
  exact de_at (pe_glob hg hm r hd) a

/-! ### operators -/
def eOp (op : D → D → Wd → Res D) (ma mb : ME) : ME := fun δ w => (ma δ w).bind fun x w1 => (mb δ w1).bind fun y w2 => op x y w2
variable {a b : Expr} {ma mb : ME}
theorem tE_op {K : KW} {r : R2} {op : D → D → Wd → Res D} (ho : OpD K r op) {σ : L2.St} {H : Hp} {Q : VK} (h : tE K W (eOp op ma mb) σ H Q) : tOp r (tE K W ma) (tE K W mb) σ H Q := by
  obtain ⟨B, A, w, δ, R, E, h⟩ := h
  refine part R E h fun dx w1 x B1 A1 H1 g1 R1 a1 h1 => ?_
  refine part R1 (g1.env E) h1 fun dy w2 y B2 A2 H2 g2 R2 a2 h2 => ?_
  exact ho R2 (g2.at a1) a2 (post_shift h2 (g1.trans g2))
theorem de_bin {op : Operator} {r : R2} {f : D → D → Wd → Res D} (hr : OpR X (binaryOp op) r) (ho : OpD (kwOf X) r f) (ha : PE X a (tE (kwOf X) W ma)) (hb : PE X b (tE (kwOf X) W mb)) : PE X (.BinOp a op b pos) (tE (kwOf X) W (eOp f ma mb)) :=
  PE.weaken (pe_op hr ha hb) fun σ H Q h => tE_op ho h
theorem de_add (ha : PE X a (tE (kwOf X) W ma)) (hb : PE X b (tE (kwOf X) W mb)) : PE X (.BinOp a .Add b pos) (tE (kwOf X) W (eOp opAdd ma mb)) := de_bin op_addD od_add ha hb
theorem de_sub (ha : PE X a (tE (kwOf X) W ma)) (hb : PE X b (tE (kwOf X) W mb)) : PE X (.BinOp a .Sub b pos) (tE (kwOf X) W (eOp opSub ma mb)) := de_bin op_sub od_sub ha hb
theorem de_mul (ha : PE X a (tE (kwOf X) W ma)) (hb : PE X b (tE (kwOf X) W mb)) : PE X (.BinOp a .Mult b pos) (tE (kwOf X) W (eOp opMul ma mb)) := de_bin op_mulD od_mul ha hb
theorem de_fdiv (ha : PE X a (tE (kwOf X) W ma)) (hb : PE X b (tE (kwOf X) W mb)) : PE X (.BinOp a .FloorDiv b pos) (tE (kwOf X) W (eOp opFdiv ma mb)) := de_bin op_fdivN od_fdiv ha hb
theorem de_mod (ha : PE X a (tE (kwOf X) W ma)) (hb : PE X b (tE (kwOf X) W mb)) : PE X (.BinOp a .Mod b pos) (tE (kwOf X) W (eOp opMod ma mb)) := de_bin op_modN od_mod ha hb
theorem de_pow (ha : PE X a (tE (kwOf X) W ma)) (hb : PE X b (tE (kwOf X) W mb)) : PE X (.BinOp a .Pow b pos) (tE (kwOf X) W (eOp opPow ma mb)) := de_bin op_pow od_pow ha hb
def opNeg (dx : D) (w : Wd) : Res D := match dx with
  | .int i => .ok (.int (-i)) w
  | _ => .stuck
def eUn (op : D → Wd → Res D) (ma : ME) : ME := fun δ w => (ma δ w).bind fun x w1 => op x w1
theorem de_neg (ha : PE X a (tE (kwOf X) W ma)) : PE X (.UnaryOp .USub a pos) (tE (kwOf X) W (eUn opNeg ma)) := by
  refine PE.weaken (pe_un un_neg ha) fun σ H Q h => ?_
  obtain ⟨B, A, w, δ, R, E, h⟩ := h
  refine part R E h fun dx w1 x B1 A1 H1 g1 R1 a1 h1 => ?_
  unfold opNeg at h1
  split at h1
  · cases a1.int_inv
    exact ⟨_, rfl, FinD.ret (FinD.shift h1 g1) R1 (.int _)⟩
  · exact h1.elim

/-! ### comparisons -/
/-- == by plain data -/
def opEqC (neg : Bool) (dx dy : D) (w : Wd) : Res D := match dx.py w, dy.py w with
  | some p, some q => if (SeqAt.shaped p && SeqAt.shaped q) = true then .ok (.bl (if neg then !PyData.eqv p q else PyData.eqv p q)) w else .stuck
  | _, _ => .stuck
def opEqB (neg : Bool) (dx dy : D) (w : Wd) : Res D := match dx, dy with
  | .str x, .str y => .ok (.bl (if neg then !decide (x = y) else decide (x = y))) w
  | dx, dy => opEqC neg dx dy w
abbrev opEq := opEqB false
abbrev opNe := opEqB true
def rEqA (K : KW) : R2 := fun x y H Q => (∃ i j, x = .str i ∧ y = .str j ∧ Q (.bl (decide (i = j))) H) ∨ rEqD K x y H Q
def rNeA (K : KW) : R2 := fun x y H Q => (∃ i j, x = .str i ∧ y = .str j ∧ Q (.bl (!decide (i = j))) H) ∨ rNeD K x y H Q
theorem str_dec {i j : Str} : decide (V.str i = V.str j) = decide (i = j) := by
  rw [Bool.eq_iff_iff]
  simp
theorem op_eqA {X : Cx} (hu : X.A.units + 64 < cLine) : OpR X (compareOp .Eq) (rEqA (kwOf X)) := fun pins s σ H x y v u Q I rx ry h => by
  rcases h with ⟨i, j, rfl, rfl, q⟩ | h
  · exact op_eq pins s σ H _ _ v u Q I rx ry ⟨rfl, by rw [str_dec]; exact q⟩
  · exact op_eqD hu pins s σ H x y v u Q I rx ry h
theorem op_neA {X : Cx} (hu : X.A.units + 64 < cLine) : OpR X (compareOp .NotEq) (rNeA (kwOf X)) := fun pins s σ H x y v u Q I rx ry h => by
  rcases h with ⟨i, j, rfl, rfl, q⟩ | h
  · exact op_ne pins s σ H _ _ v u Q I rx ry ⟨rfl, by rw [str_dec]; exact q⟩
  · exact op_neD hu pins s σ H x y v u Q I rx ry h
theorem od_eq {K : KW} : OpD K (rEqA K) opEq := by
  intro B A w H x y dx dy Q Ee R hx hy h
  unfold opEq opEqB at h
  split at h
  · cases hx.str_inv
    cases hy.str_inv
    exact .inl ⟨_, _, rfl, rfl, FinD.ret h R (.bl _)⟩
  · unfold opEqC at h
    split at h
    case h_2 => exact h.elim
    case h_1 p q e1 e2 =>
      split at h
      case isFalse => exact h.elim
      case isTrue hc =>
        rw [Bool.and_eq_true] at hc
        exact .inr ⟨p, q, R.dp hx e1, R.dp hy e2, hc.1, hc.2, FinD.ret h R (.bl _)⟩
theorem od_ne {K : KW} : OpD K (rNeA K) opNe := by
  intro B A w H x y dx dy Q Ee R hx hy h
  unfold opNe opEqB at h
  split at h
  · cases hx.str_inv
    cases hy.str_inv
    exact .inl ⟨_, _, rfl, rfl, FinD.ret h R (.bl _)⟩
  · unfold opEqC at h
    split at h
    case h_2 => exact h.elim
    case h_1 p q e1 e2 =>
      split at h
      case isFalse => exact h.elim
      case isTrue hc =>
        rw [Bool.and_eq_true] at hc
        exact .inr ⟨p, q, R.dp hx e1, R.dp hy e2, hc.1, hc.2, FinD.ret h R (.bl _)⟩
def D.isNon : D → Bool
  | .non => true
  | _ => false
theorem At.isNon {K : KW} {B : Hp} {A : Ad} {v : V} {d : D} (h : At K B A v d) : decide (v = .non) = d.isNon := by
  cases h with
  | non => rfl
  | ref ha => cases ‹D› <;> first | rfl | cases ha
  | _ => rfl
def opIs (neg : Bool) (dx dy : D) (w : Wd) : Res D := match dy with
  | .non => .ok (.bl (if neg then !dx.isNon else dx.isNon)) w
  | _ => .stuck
theorem od_is {K : KW} : OpD K (fun x y H Q => y = .non ∧ Q (.bl (decide (x = .non))) H) (opIs false) := by
  intro B A w H x y dx dy Q Ee R hx hy h
  unfold opIs at h
  split at h
  · exact ⟨hy.non_inv, by rw [hx.isNon]; exact FinD.ret h R (.bl _)⟩
  · exact h.elim
theorem od_isnot {K : KW} : OpD K (fun x y H Q => y = .non ∧ Q (.bl (!decide (x = .non))) H) (opIs true) := by
  intro B A w H x y dx dy Q Ee R hx hy h
  unfold opIs at h
  split at h
  · exact ⟨hy.non_inv, by rw [hx.isNon]; exact FinD.ret h R (.bl _)⟩
  · exact h.elim
theorem de_cmp {op : CmpOp} {r : R2} {f : D → D → Wd → Res D} (hr : OpR X (compareOp op) r) (ho : OpD (kwOf X) r f) (ha : PE X a (tE (kwOf X) W ma)) (hb : PE X b (tE (kwOf X) W mb)) (hm : behindInMarks op b = false := by first | exact nobehind _ (by decide) (by decide) | rfl) :
    PE X (.Compare a [op] [b] pos) (tE (kwOf X) W (eOp f ma mb)) := PE.weaken (pe_cmpR hr ha hb hm) fun σ H Q h => tE_op ho h

/-! ### tests -/
/-- a value that is True or False -/
def tB_ (m : ME) : MT := fun δ w => (m δ w).bind fun d w1 => match d with
  | .bl b => .ok b w1
  | _ => .stuck
theorem tE_bool {K : KW} {m : ME} {σ : L2.St} {H : Hp} {Q : Bool → Hp → Prop} (h : tTt K W (tB_ m) σ H Q) : tE K W m σ H fun x H' => ∃ k, x = .bl k ∧ Q k H' := by
  obtain ⟨B, A, w, δ, R, E, h⟩ := h
  refine part R E h fun d w1 v B1 A1 H1 g R1 a h1 => ?_
  cases d with
  | bl b =>
    cases a.bl_inv
    exact ⟨b, rfl, h1 B1 A1 H1 g R1⟩
  | _ => exact h1.elim
theorem dt_cmp {op : CmpOp} {r : R2} {f : D → D → Wd → Res D} (hr : OpR X (compareOp op) r) (ho : OpD (kwOf X) r f) (ha : PE X a (tE (kwOf X) W ma)) (hb : PE X b (tE (kwOf X) W mb)) (hm : behindInMarks op b = false := by first | exact nobehind _ (by decide) (by decide) | rfl) :
    PT X (.Compare a [op] [b] pos) (tTt (kwOf X) W (tB_ (eOp f ma mb))) := by
  refine PT.weaken (pt_cmpR hr ha hb hm) fun σ H Q h => ?_
  exact tE_op ho (tE_bool h)
/-- truth of any value -/
def D.tru (w : Wd) : D → Option Bool
  | .non => some false
  | .bl b => some b
  | .int i => some (i != 0)
  | .str x => if x.length ≤ sizeLine then some ((x.length : Int) != 0) else none
  | .tup xs => some (!xs.isEmpty)
  | .lst xs => some (!xs.isEmpty)
  | .loc n => match w.s[n]? with
    | some (.lst ds) => some (!ds.isEmpty)
    | some (.dK kvs) => some (!kvs.isEmpty)
    | _ => none
  | .own n => match w.l[n]? with
    | some (.lst ds) => some (!ds.isEmpty)
    | some (.dK kvs) => some (!kvs.isEmpty)
    | _ => none
  | .ty _ => none
  | .gd _ _ => none
  | .scr _ => none
theorem AtL.emp {K : KW} {B : Hp} {A : Ad} {vs : List V} {ds : List D} (h : AtL K B A vs ds) : (!ds.isEmpty) = !vs.isEmpty := by cases h <;> rfl
theorem AtK.emp {K : KW} {B : Hp} {A : Ad} {κ : Type} {vs : List (κ × V)} {ds : List (κ × D)} (h : AtK K B A vs ds) : (!ds.isEmpty) = !vs.isEmpty := by cases h <;> rfl
theorem Rep.tru {K : KW} {B : Hp} {A : Ad} {w : Wd} {H : Hp} {v : V} {d : D} {b : Bool} (R : Rep K B A w H) (h : At K B A v d) (e : d.tru w = some b) : TruV K v H b := by
  have stored : ∀ (d : D) (o : SO), w.get d = some o → A.at d ≠ none → (∀ a, A.at d = some a → v = .ref a) → (match o with | .lst ds => some (!ds.isEmpty) | .dK kvs => some (!kvs.isEmpty) | _ => none) = some b → TruV K v H b := by
    intro d o hg _ hv hb
    obtain ⟨a, ha⟩ := R.adr hg
    cases hv a ha
    rcases R.ob d o a hg ha with ⟨q, _⟩ | ⟨_, q⟩
    · subst q; cases hb
    · cases o with
      | lst ds =>
        obtain ⟨xs, q1, q2⟩ := q
        cases hb
        exact .inl ⟨xs, SqL.of q1, q2.emp⟩
      | dK kvs =>
        obtain ⟨xs, q1, q2⟩ := q
        cases hb
        exact .inr (.inr ⟨xs, q1, q2.emp⟩)
      | _ => cases hb
  cases h with
  | non => cases e; rfl
  | bl b => cases e; rfl
  | int i => cases e; rfl
  | str x =>
    have e' : (if x.length ≤ sizeLine then some ((x.length : Int) != 0) else none) = some b := e
    split at e'
    · rename_i hz
      cases e'
      exact ⟨hz, rfl⟩
    · cases e'
  | ty n => cases e
  | gd _ _ _ => cases e
  | scr _ => cases e
  | tup hs t => cases e; exact .inr (.inl ⟨_, ex_t R.ext hs, t.emp⟩)
  | lst hs t => cases e; exact .inl ⟨_, SqL.of (R.ext _ _ hs), t.emp⟩
  | ref ha =>
    cases d with
    | loc n =>
      have e' : (match w.s[n]? with | some (.lst ds) => some (!ds.isEmpty) | some (.dK kvs) => some (!kvs.isEmpty) | _ => none) = some b := e
      cases q : w.s[n]? with
      | none => rw [q] at e'; cases e'
      | some o =>
        rw [q] at e'
        refine stored (.loc n) o q (by rw [ha]; exact fun z => by cases z) (fun a2 h2 => by rw [ha] at h2; cases h2; rfl) ?_
        cases o <;> exact e'
    | own n =>
      have e' : (match w.l[n]? with | some (.lst ds) => some (!ds.isEmpty) | some (.dK kvs) => some (!kvs.isEmpty) | _ => none) = some b := e
      cases q : w.l[n]? with
      | none => rw [q] at e'; cases e'
      | some o =>
        rw [q] at e'
        refine stored (.own n) o q (by rw [ha]; exact fun z => by cases z) (fun a2 h2 => by rw [ha] at h2; cases h2; rfl) ?_
        cases o <;> exact e'
    | _ => cases ha
def tTr_ (m : ME) : MT := fun δ w => (m δ w).bind fun d w1 => match d.tru w1 with
  | some b => .ok b w1
  | none => .stuck
theorem tE_tru {K : KW} {m : ME} {σ : L2.St} {H : Hp} {Q : Bool → Hp → Prop} (h : tTt K W (tTr_ m) σ H Q) : tE K W m σ H fun x H' => ∃ k, TruV K x H' k ∧ Q k H' := by
  obtain ⟨B, A, w, δ, R, E, h⟩ := h
  refine part R E h fun d w1 v B1 A1 H1 g R1 a h1 => ?_
  cases e : d.tru w1 with
  | none => rw [e] at h1; exact h1.elim
  | some b =>
    rw [e] at h1
    exact ⟨b, R1.tru a e, h1 B1 A1 H1 g R1⟩
theorem dt_tru (ha : PE X a (tE (kwOf X) W ma)) (he : ∀ whole, isTrue a X.env whole = (do let v ← whole; standAt a.pos; holding [v] (truthy v)) := by intro _; rfl) : PT X a (tTt (kwOf X) W (tTr_ ma)) :=
  PT.weaken (pt_truth ha he) fun σ H Q h => tE_tru h
def tNot_ (m : MT) : MT := fun δ w => (m δ w).bind fun b w1 => .ok (!b) w1
theorem dt_not {m : MT} (ha : PT X a (tTt (kwOf X) W m)) : PT X (.UnaryOp .Not a pos) (tTt (kwOf X) W (tNot_ m)) := by
  refine PT.weaken (pt_not ha) fun σ H Q h => ?_
  obtain ⟨B, A, w, δ, R, E, h⟩ := h
  exact partT R E h fun b w1 B1 A1 H1 g R1 h1 => h1 B1 A1 H1 g R1
def tAnd_ (m n : MT) : MT := fun δ w => (m δ w).bind fun b w1 => if b = true then n δ w1 else .ok false w1
def tOr_ (m n : MT) : MT := fun δ w => (m δ w).bind fun b w1 => if b = true then .ok true w1 else n δ w1
theorem PW.weaken {e : Expr} {t t' : TT} (h : PW X e t) (k : ∀ σ H Q, t' σ H Q → t σ H Q) : PW X e t' := ⟨fun wh pins s σ H Q I q => h.run wh pins s σ H Q I (k σ H Q q)⟩
theorem dw_one {op : BoolOp} {m : MT} (hop : op = .And ∨ op = .Or) (ha : PT X a (tTt (kwOf X) W m)) : PW X (.BoolOp op [a] pos) (tTt (kwOf X) W m) := by
  rcases hop with rfl | rfl
  · exact pw_and1 ha
  · exact pw_or1 ha
theorem tTt_more {K : KW} {B : Hp} {A : Ad} {H : Hp} {B1 : Hp} {A1 : Ad} {H1 : Hp} {Q : Bool → Hp → Prop} {r : Res Bool} {E : Str → List D → List SO → Prop} (g : Gr B A H B1 A1 H1)
    (h : r.post (fun b w' => ∀ B' A' H', Gr B A H B' A' H' → Rep K B' A' w' H' → Q b H') E) : r.post (fun b w' => ∀ B' A' H', Gr B1 A1 H1 B' A' H' → Rep K B' A' w' H' → Q b H') E :=
  Res.post_mono h (fun _ _ z B' A' H' g' R' => z B' A' H' (g.trans g') R') fun _ _ _ z => z
theorem dw_and {rest : List Expr} {m n : MT} (ha : PT X a (tTt (kwOf X) W m)) (hb : PW X (.BoolOp .And (b :: rest) pos) (tTt (kwOf X) W n)) : PW X (.BoolOp .And (a :: b :: rest) pos) (tTt (kwOf X) W (tAnd_ m n)) := by
  refine PW.weaken (pw_and ha hb) fun σ H Q h => ?_
  obtain ⟨B, A, w, δ, R, E, h⟩ := h
  refine partT R E h fun b w1 B1 A1 H1 g R1 h1 => ?_
  cases b with
  | true => exact ⟨B1, A1, w1, δ, R1, g.env E, tTt_more g h1⟩
  | false => exact h1 B1 A1 H1 g R1
theorem dw_or {rest : List Expr} {m n : MT} (ha : PT X a (tTt (kwOf X) W m)) (hb : PW X (.BoolOp .Or (b :: rest) pos) (tTt (kwOf X) W n)) : PW X (.BoolOp .Or (a :: b :: rest) pos) (tTt (kwOf X) W (tOr_ m n)) := by
  refine PW.weaken (pw_or ha hb) fun σ H Q h => ?_
  obtain ⟨B, A, w, δ, R, E, h⟩ := h
  refine partT R E h fun b w1 B1 A1 H1 g R1 h1 => ?_
  cases b with
  | true => exact h1 B1 A1 H1 g R1
  | false => exact ⟨B1, A1, w1, δ, R1, g.env E, tTt_more g h1⟩
/-- and, or, not as values -/
def eAnd (ma mb : ME) : ME := fun δ w => (ma δ w).bind fun d w1 => match d.tru w1 with
  | some true => mb δ w1
  | some false => .ok d w1
  | none => .stuck
def eOr (ma mb : ME) : ME := fun δ w => (ma δ w).bind fun d w1 => match d.tru w1 with
  | some true => .ok d w1
  | some false => mb δ w1
  | none => .stuck
def opNot (d : D) (w : Wd) : Res D := match d.tru w with
  | some b => .ok (.bl (!b)) w
  | none => .stuck
theorem de_and {rest : List Expr} (ha : PE X a (tE (kwOf X) W ma)) (hb : PE X (.BoolOp .And (b :: rest) pos) (tE (kwOf X) W mb)) : PE X (.BoolOp .And (a :: b :: rest) pos) (tE (kwOf X) W (eAnd ma mb)) := by
  refine PE.weaken (pe_andT ha hb) fun σ H Q h => ?_
  obtain ⟨B, A, w, δ, R, E, h⟩ := h
  refine part R E h fun d w1 v B1 A1 H1 g R1 a h1 => ?_
  cases e : d.tru w1 with
  | none => rw [e] at h1; exact h1.elim
  | some b =>
    rw [e] at h1
    refine ⟨b, R1.tru a e, ?_⟩
    cases b with
    | true => exact tE.of R1 (g.env E) (post_shift h1 g)
    | false => exact FinD.ret (FinD.shift h1 g) R1 a
theorem de_or {rest : List Expr} (ha : PE X a (tE (kwOf X) W ma)) (hb : PE X (.BoolOp .Or (b :: rest) pos) (tE (kwOf X) W mb)) : PE X (.BoolOp .Or (a :: b :: rest) pos) (tE (kwOf X) W (eOr ma mb)) := by
  refine PE.weaken (pe_orT ha hb) fun σ H Q h => ?_
  obtain ⟨B, A, w, δ, R, E, h⟩ := h
  refine part R E h fun d w1 v B1 A1 H1 g R1 a h1 => ?_
  cases e : d.tru w1 with
  | none => rw [e] at h1; exact h1.elim
  | some b =>
    rw [e] at h1
    refine ⟨b, R1.tru a e, ?_⟩
    cases b with
    | true => exact FinD.ret (FinD.shift h1 g) R1 a
    | false => exact tE.of R1 (g.env E) (post_shift h1 g)
theorem de_one {op : BoolOp} (ha : PE X a (tE (kwOf X) W ma)) : PE X (.BoolOp op [a] pos) (tE (kwOf X) W ma) := pe_one ha
theorem de_not (ha : PE X a (tE (kwOf X) W ma)) : PE X (.UnaryOp .Not a pos) (tE (kwOf X) W (eUn opNot ma)) := by
  refine PE.weaken (pe_notT ha) fun σ H Q h => ?_
  obtain ⟨B, A, w, δ, R, E, h⟩ := h
  refine part R E h fun d w1 v B1 A1 H1 g R1 a h1 => ?_
  unfold opNot at h1
  cases e : d.tru w1 with
  | none => rw [e] at h1; exact h1.elim
  | some b =>
    rw [e] at h1
    exact ⟨b, R1.tru a e, FinD.ret (FinD.shift h1 g) R1 (.bl _)⟩
/-- a if t else b -/
def eIf (mt : MT) (ma mb : ME) : ME := fun δ w => (mt δ w).bind fun c w1 => if c = true then ma δ w1 else mb δ w1
theorem de_if {c : Expr} {mt : MT} (hc : PT X c (tTt (kwOf X) W mt)) (ha : PE X a (tE (kwOf X) W ma)) (hb : PE X b (tE (kwOf X) W mb)) : PE X (.IfExp c a b pos) (tE (kwOf X) W (eIf mt ma mb)) := by
  refine PE.weaken (pe_ifExp hc ha hb) fun σ H Q h => ?_
  obtain ⟨B, A, w, δ, R, E, h⟩ := h
  refine partT R E h fun c w1 B1 A1 H1 g R1 h1 => ?_
  cases c with
  | true => exact tE.of R1 (g.env E) (post_shift h1 g)
  | false => exact tE.of R1 (g.env E) (post_shift h1 g)

/-! ### argument lists, displays -/
def aNil : MA := fun _ w => .ok [] w
def aCons (m : ME) (r : MA) : MA := fun δ w => (m δ w).bind fun d w1 => (r δ w1).bind fun ds w2 => .ok (d :: ds) w2
def aStar (m : ME) (r : MA) : MA := fun δ w => (m δ w).bind fun d w1 => match seqOf w1 d with
  | some xs => (r δ w1).bind fun ds w2 => .ok (xs ++ ds) w2
  | none => .stuck
variable {e : Expr} {es : List Expr} {me : ME} {mr : MA}
theorem da_nil : PA X [] (tAr (kwOf X) W aNil) := PA.weaken pa_nil fun σ H Q h => by
  obtain ⟨B, A, w, δ, R, E, h⟩ := h
  exact h [] B A H Gr.refl R .nil
theorem da_cons (he : PE X e (tE (kwOf X) W me)) (hr : PA X es (tAr (kwOf X) W mr)) (hs : starEach (e :: es) X.env = (false, eval e X.env) :: starEach es X.env := by rfl) : PA X (e :: es) (tAr (kwOf X) W (aCons me mr)) := by
  refine PA.weaken (pa_cons he hr hs) fun σ H Q h => ?_
  obtain ⟨B, A, w, δ, R, E, h⟩ := h
  refine part R E h fun d w1 v B1 A1 H1 g R1 a h1 => ?_
  refine partA R1 (g.env E) h1 fun ds w2 vs B2 A2 H2 g2 R2 a2 h2 => ?_
  exact h2 (v :: vs) B2 A2 H2 (g.trans g2) R2 (.cons (g2.at a) a2)
theorem da_star {p : Pos} (he : PE X e (tE (kwOf X) W me)) (hr : PA X es (tAr (kwOf X) W mr)) (hs : starEach (.Starred e p :: es) X.env = (true, eval e X.env) :: starEach es X.env := by rfl) : PA X (.Starred e p :: es) (tAr (kwOf X) W (aStar me mr)) := by
  refine PA.weaken (StX.pa_star he hr hs) fun σ H Q h => ?_
  obtain ⟨B, A, w, δ, R, E, h⟩ := h
  refine part R E h fun d w1 v B1 A1 H1 g R1 a h1 => ?_
  cases q : seqOf w1 d with
  | none => rw [q] at h1; exact h1.elim
  | some xs =>
    rw [q] at h1
    obtain ⟨p, us, rfl, hs, t⟩ := R1.seqAt a q
    refine ⟨p, us, rfl, hs.symm, ?_⟩
    refine partA R1 (g.env E) h1 fun ds w2 vs B2 A2 H2 g2 R2 a2 h2 => ?_
    exact h2 (us ++ vs) B2 A2 H2 (g.trans g2) R2 ((t.mono g2.ex g2.ad).append a2)
def eTup (m : MA) : ME := fun δ w => (m δ w).bind fun ds w1 => if ds.length ≤ sizeLine then .ok (.tup ds) w1 else .stuck
def eLst (m : MA) : ME := fun δ w => (m δ w).bind fun ds w1 => if ds.length ≤ sizeLine then .ok (.lst ds) w1 else .stuck
theorem de_tup {x1} (h : PA X es (tAr (kwOf X) W mr)) : PE X (.Tuple es x1 pos) (tE (kwOf X) W (eTup mr)) := by
  refine PE.weaken (pe_tup h) fun σ H Q h => ?_
  obtain ⟨B, A, w, δ, R, E, h⟩ := h
  refine partA R E h fun ds w1 vs B1 A1 H1 g R1 a h1 => ?_
  split at h1
  case isFalse => exact h1.elim
  case isTrue hz => exact ⟨by rw [a.length]; exact hz, fun p hp => FinD.newT (FinD.shift h1 g) R1 a hp⟩
theorem de_lst (h : PA X es (tAr (kwOf X) W mr)) : PE X (.List es pos) (tE (kwOf X) W (eLst mr)) := by
  refine PE.weaken (pe_lst h) fun σ H Q h => ?_
  obtain ⟨B, A, w, δ, R, E, h⟩ := h
  refine partA R E h fun ds w1 vs B1 A1 H1 g R1 a h1 => ?_
  split at h1
  case isFalse => exact h1.elim
  case isTrue hz => exact ⟨by rw [a.length]; exact hz, fun p hp => FinD.newL (FinD.shift h1 g) R1 a hp⟩

/-- how many arguments there are -/
def LenA (m : MA) (n : Nat) : Prop := ∀ δ w ds w1, m δ w = .ok ds w1 → ds.length = n
theorem la_nil : LenA aNil 0 := fun _ _ _ _ h => by cases h; rfl
theorem la_cons {m : ME} {r : MA} {n : Nat} (h : LenA r n) : LenA (aCons m r) (n + 1) := fun δ w ds w1 e => by
  unfold aCons at e
  cases q : m δ w with
  | ok d w2 =>
    rw [q] at e
    have e2 : ((r δ w2).bind fun ds w2 => Res.ok (d :: ds) w2) = .ok ds w1 := e
    cases q2 : r δ w2 with
    | ok es w3 =>
      rw [q2] at e2
      cases e2
      rw [List.length_cons, h _ _ _ _ q2]
    | exc c as s => rw [q2] at e2; cases e2
    | stuck => rw [q2] at e2; cases e2
  | exc c as s => rw [q] at e; cases e
  | stuck => rw [q] at e; cases e
/-! ### calls -/
theorem X0_false {B : Hp} {A : Ad} {H : Hp} {c : Str} {as : List D} {s : List SO} (h : X0.P B A H c as s) : False := h
def eCall (F : FN) (m : MA) : ME := fun δ w => (m δ w).bind fun ds w1 => callM F ds w1
theorem de_call {k : Nat} {f : Addr} {fd : FuncData} {ps : List Str} {n : Nat} {F : FN} {x : Str} {p : Pos} (G : FnG X.prog X.w X.K X.mg X.base CX0 k f fd ps (spD (kwOf X) n F)) (hr : RoomG k X.A) (hm : X.mg x = some (.ref f)) (hk : PySem.W.keepIn X.K (.ref f) = true)
    (hb : Binds X.K fd ps []) (ha : PA X (e :: es) (tAr (kwOf X) X0 mr)) (hg : Gl X x := by rfl) (hn : (e :: es).length = n := by rfl) (hlen : LenA mr n)
    (hdb : (x == ("__debug__" : Str)) = false := by decide) (he : starEach (e :: es) X.env = (false, eval e X.env) :: starEach es X.env := by rfl) (hpl : (backTo pos (starEach es X.env)).any (·.1) = false := by rfl) :
    PE X (.Call (.Name x p) (e :: es) [] pos) (tE (kwOf X) X0 (eCall F mr)) := by
  refine PE.weaken (pe_callG (E := E0) G hr hg hm hk hb pass0 ha hdb he hpl) fun σ H Q h => ?_
  obtain ⟨B, A, w, δ, R, E, h⟩ := h
  cases q : mr δ w with
  | ok ds w1 =>
    have hl := hlen δ w ds w1 q
    refine ⟨B, A, w, δ, R, E, ?_⟩
    have h' : (callM F ds w1).post (FinD (kwOf X) B A H Q) (X0.P B A H) := by
      unfold eCall at h
      rw [q] at h
      exact h
    rw [q]
    intro vs B1 A1 H1 g R1 a1
    exact call_ok (by rw [a1.length]; exact hl) R1 a1 (post_shift h' g)
  | exc c as s =>
    unfold eCall at h
    rw [q] at h
    exact h.elim
  | stuck =>
    unfold eCall at h
    rw [q] at h
    exact h.elim
theorem de_call0 {k : Nat} {f : Addr} {fd : FuncData} {ps : List Str} {F : FN} {x : Str} {p : Pos} (G : FnG X.prog X.w X.K X.mg X.base CX0 k f fd ps (spD (kwOf X) 0 F)) (hr : RoomG k X.A) (hm : X.mg x = some (.ref f)) (hk : PySem.W.keepIn X.K (.ref f) = true)
    (hb : Binds X.K fd ps []) (hg : Gl X x := by rfl) (hdb : (x == ("__debug__" : Str)) = false := by decide) : PE X (.Call (.Name x p) [] [] pos) (tE (kwOf X) X0 (eCall F aNil)) := by
  refine PE.weaken (pe_callG0 (E := E0) G hr hg hm hk hb pass0 hdb) fun σ H Q h => ?_
  obtain ⟨B, A, w, δ, R, E, h⟩ := h
  exact call_ok rfl R .nil h
end
end DP

set_option Elab.async false
set_option linter.all false
set_option maxRecDepth 100000
set_option maxHeartbeats 2000000
/-! New lists and dicts: frozen, the frame's own, shared. -/
namespace DP
open PySem L2 PySem.Spec PyProof.Rows

section
variable {K : KW} {B : Hp} {A : Ad} {w : Wd} {H : Hp}
/-- a new object that nobody names yet -/
theorem Rep.loose (R : Rep K B A w H) {p : Addr} {h : HO} (hp : H p = none) : Rep K B A w (L2.upd H p h) ∧ Gr B A H B A (L2.upd H p h) := by
  have hB := R.bnone hp
  refine ⟨⟨fun b u e => ?_, R.lm, R.ln, R.nd, fun b hb => ?_, R.cs, fun d o b h1 h2 => ?_⟩, .refl _, .refl _, fun b hb => ?_, fun b ob u e => by rw [upd_ne (ne_of_none e hp)]; exact e, fun b u e h1 h2 => ?_⟩
  · rw [upd_ne (fun z => by rw [z, hB] at e; cases e)]
    exact R.ext b u e
  · by_cases z : b = p
    · rw [z, upd_same]; exact fun q => by cases q
    · rw [upd_ne z]; exact R.th b hb
  · have ne : b ≠ p := fun z => R.th b (Ad.mem h2) (by rw [z]; exact hp)
    rcases R.ob d o b h1 h2 with q | ⟨q1, q2⟩
    · exact .inl q
    · exact .inr ⟨q1, q2.mono (.refl _) (.refl _) (upd_ne ne) fun dx e1 e2 => ⟨by rw [upd_ne (ne_of_none e1 hp)]; exact e1, e2⟩⟩
  · by_cases z : b = p
    · rw [z, upd_same]; exact fun q => by cases q
    · rw [upd_ne z]; exact hb
  · exact ⟨by rw [upd_ne (ne_of_none e hp)]; exact e, rfl, h1, h2⟩
/-- it is changed -/
theorem Rep.loose_upd (R : Rep K B A w H) {p : Addr} {h h' : HO} (hp : H p = some h) (hB : B p = none) (hM : p ∉ A.M) (hN : p ∉ A.N) (hown : ∀ x, h ≠ .own x) : Rep K B A w (L2.upd H p h') := by
  refine ⟨fun b u e => ?_, R.lm, R.ln, R.nd, fun b hb => ?_, R.cs, fun d o b h1 h2 => ?_⟩
  · rw [upd_ne (fun z => by rw [z, hB] at e; cases e)]
    exact R.ext b u e
  · by_cases z : b = p
    · rw [z, upd_same]; exact fun q => by cases q
    · rw [upd_ne z]; exact R.th b hb
  · have ne : b ≠ p := fun z => by
      rcases List.mem_append.mp (Ad.mem h2) with q | q
      · exact hM (by rw [← z]; exact q)
      · exact hN (by rw [← z]; exact q)
    rcases R.ob d o b h1 h2 with q | ⟨q1, q2⟩
    · exact .inl q
    · exact .inr ⟨q1, q2.mono (.refl _) (.refl _) (upd_ne ne) fun dx e1 e2 => ⟨by rw [upd_ne (fun z => by rw [z, hp] at e1; exact hown _ (Option.some.inj e1))]; exact e1, e2⟩⟩
/-- it becomes plain data -/
theorem Rep.bless (R : Rep K B A w H) {p : Addr} {h : HO} (hp : H p = some h) (hB : B p = none) (hM : p ∉ A.M) (hN : p ∉ A.N) (hown : ∀ x, h ≠ .own x) : Rep K (L2.upd B p h) A w H := by
  refine ⟨fun b u e => ?_, R.lm, R.ln, R.nd, R.th, R.cs, fun d o b h1 h2 => ?_⟩
  · by_cases z : b = p
    · rw [z, upd_same] at e
      rw [z, hp]
      exact e
    · rw [upd_ne z] at e
      exact R.ext b u e
  · have ne : b ≠ p := fun z => by
      rcases List.mem_append.mp (Ad.mem h2) with q | q
      · exact hM (by rw [← z]; exact q)
      · exact hN (by rw [← z]; exact q)
    rcases R.ob d o b h1 h2 with ⟨q1, q2⟩ | ⟨q1, q2⟩
    · exact .inl ⟨q1, by rw [upd_ne ne]; exact q2⟩
    · refine .inr ⟨by rw [upd_ne ne]; exact q1, q2.mono (Ex.new hB) (.refl _) rfl fun dx e1 e2 => ⟨e1, ?_⟩⟩
      rw [upd_ne (fun z => by rw [z, hp] at e1; exact hown _ (Option.some.inj e1))]
      exact e2
/-- it becomes the frame's own -/
theorem Rep.adopt (R : Rep K B A w H) {p : Addr} {h : HO} {o : SO} (hp : H p = some h) (hB : B p = none) (hM : p ∉ A.M) (hN : p ∉ A.N) (ho : SOAt K B A H p o) :
    Rep K B ⟨A.M, A.N ++ [p]⟩ ⟨w.s, w.l ++ [o]⟩ H := by
  have le : A.le ⟨A.M, A.N ++ [p]⟩ := ⟨List.prefix_refl _, List.prefix_append _ _⟩
  refine ⟨R.ext, R.lm, ?_, ?_, fun b hb => ?_, R.cs, fun d2 o2 b h1 h2 => ?_⟩
  · show (A.N ++ [p]).length = (w.l ++ [o]).length
    rw [List.length_append, List.length_append, R.ln, List.length_singleton, List.length_singleton]
  · show (A.M ++ (A.N ++ [p])).Nodup
    rw [← List.append_assoc]
    refine List.nodup_append.mpr ⟨R.nd, by simp, fun x hx y hy z => ?_⟩
    have ey : y = p := by simpa using hy
    rw [z, ey] at hx
    rcases List.mem_append.mp hx with q | q
    · exact hM q
    · exact hN q
  · have hb' : b ∈ A.M ++ (A.N ++ [p]) := hb
    rw [← List.append_assoc] at hb'
    rcases List.mem_append.mp hb' with q | q
    · exact R.th b q
    · have e : b = p := by simpa using q
      rw [e, hp]
      exact fun z => by cases z
  · have old : w.get d2 = some o2 → A.at d2 = some b → (o2 = .gone ∧ B b ≠ none) ∨ (B b = none ∧ SOAt K B ⟨A.M, A.N ++ [p]⟩ H b o2) := fun h1 h2 => by
      rcases R.ob d2 o2 b h1 h2 with q | ⟨q1, q2⟩
      · exact .inl q
      · exact .inr ⟨q1, q2.mono (.refl _) le rfl fun dx e1 e2 => ⟨e1, e2⟩⟩
    cases d2 with
    | loc n => exact old h1 h2
    | own n =>
      have h1' : (w.l ++ [o])[n]? = some o2 := h1
      have h2' : (A.N ++ [p])[n]? = some b := h2
      by_cases hl : n < w.l.length
      · rw [List.getElem?_append_left hl] at h1'
        rw [List.getElem?_append_left (by rw [R.ln]; exact hl)] at h2'
        exact old h1' h2'
      · have en : n = w.l.length := by
          have := (List.getElem?_eq_some_iff.mp h1').1
          rw [List.length_append, List.length_singleton] at this
          omega
        subst en
        rw [List.getElem?_append_right (Nat.le_refl _), Nat.sub_self] at h1'
        rw [← R.ln, List.getElem?_append_right (Nat.le_refl _), Nat.sub_self] at h2'
        have e1 : o = o2 := Option.some.inj h1'
        have e2 : p = b := Option.some.inj h2'
        subst e1 e2
        exact .inr ⟨hB, ho.mono (.refl _) le rfl fun dx e1 e2 => ⟨e1, e2⟩⟩
    | _ => cases h1
/-- it becomes shared -/
theorem Rep.adoptS (R : Rep K B A w H) {p : Addr} {h : HO} {o : SO} (hp : H p = some h) (hB : B p = none) (hM : p ∉ A.M) (hN : p ∉ A.N) (ho : SOAt K B A H p o) (hc : o.cl = true) :
    Rep K B ⟨A.M ++ [p], A.N⟩ ⟨w.s ++ [o], w.l⟩ H := by
  have le : A.le ⟨A.M ++ [p], A.N⟩ := ⟨List.prefix_append _ _, List.prefix_refl _⟩
  refine ⟨R.ext, ?_, R.ln, ?_, fun b hb => ?_, fun x hx => ?_, fun d2 o2 b h1 h2 => ?_⟩
  · show (A.M ++ [p]).length = (w.s ++ [o]).length
    rw [List.length_append, List.length_append, R.lm, List.length_singleton, List.length_singleton]
  · show (A.M ++ [p] ++ A.N).Nodup
    have nd := List.nodup_append.mp R.nd
    refine List.nodup_append.mpr ⟨List.nodup_append.mpr ⟨nd.1, by simp, fun x hx y hy z => ?_⟩, nd.2.1, fun x hx y hy z => ?_⟩
    · have ey : y = p := by simpa using hy
      rw [z, ey] at hx
      exact hM hx
    · rcases List.mem_append.mp hx with q | q
      · exact nd.2.2 x q y hy z
      · have ex : x = p := by simpa using q
        rw [← z, ex] at hy
        exact hN hy
  · rcases List.mem_append.mp (show b ∈ A.M ++ [p] ++ A.N from hb) with q | q
    · rcases List.mem_append.mp q with q | q
      · exact R.th b (List.mem_append_left _ q)
      · have e : b = p := by simpa using q
        rw [e, hp]
        exact fun z => by cases z
    · exact R.th b (List.mem_append_right _ q)
  · rcases List.mem_append.mp (show x ∈ w.s ++ [o] from hx) with q | q
    · exact R.cs x q
    · rw [show x = o by simpa using q]; exact hc
  · have old : w.get d2 = some o2 → A.at d2 = some b → (o2 = .gone ∧ B b ≠ none) ∨ (B b = none ∧ SOAt K B ⟨A.M ++ [p], A.N⟩ H b o2) := fun h1 h2 => by
      rcases R.ob d2 o2 b h1 h2 with q | ⟨q1, q2⟩
      · exact .inl q
      · exact .inr ⟨q1, q2.mono (.refl _) le rfl fun dx e1 e2 => ⟨e1, e2⟩⟩
    cases d2 with
    | own n => exact old h1 h2
    | loc n =>
      have h1' : (w.s ++ [o])[n]? = some o2 := h1
      have h2' : (A.M ++ [p])[n]? = some b := h2
      by_cases hl : n < w.s.length
      · rw [List.getElem?_append_left hl] at h1'
        rw [List.getElem?_append_left (by rw [R.lm]; exact hl)] at h2'
        exact old h1' h2'
      · have en : n = w.s.length := by
          have := (List.getElem?_eq_some_iff.mp h1').1
          rw [List.length_append, List.length_singleton] at this
          omega
        subst en
        rw [List.getElem?_append_right (Nat.le_refl _), Nat.sub_self] at h1'
        rw [← R.lm, List.getElem?_append_right (Nat.le_refl _), Nat.sub_self] at h2'
        have e1 : o = o2 := Option.some.inj h1'
        have e2 : p = b := Option.some.inj h2'
        subst e1 e2
        exact .inr ⟨hB, ho.mono (.refl _) le rfl fun dx e1 e2 => ⟨e1, e2⟩⟩
    | _ => cases h1
end
/-- steps that only name what is new -/
theorem Gr.own {B B1 : Hp} {A A1 : Ad} {H H1 : Hp} {p : Addr} (g : Gr B A H B1 A1 H1) (hp : H p = none) : Gr B A H B1 ⟨A1.M, A1.N ++ [p]⟩ H1 :=
  ⟨⟨g.ad.1, g.ad.2.trans (List.prefix_append _ _)⟩, g.ex, g.th, g.fz, fun a o e h1 h2 => by
    obtain ⟨q1, q2, q3, q4⟩ := g.fr a o e h1 h2
    refine ⟨q1, q2, q3, fun z => ?_⟩
    rcases List.mem_append.mp (show a ∈ A1.N ++ [p] from z) with z | z
    · exact q4 z
    · rw [show a = p by simpa using z, hp] at e; cases e⟩
theorem Gr.loc {B B1 : Hp} {A A1 : Ad} {H H1 : Hp} {p : Addr} (g : Gr B A H B1 A1 H1) (hp : H p = none) : Gr B A H B1 ⟨A1.M ++ [p], A1.N⟩ H1 :=
  ⟨⟨g.ad.1.trans (List.prefix_append _ _), g.ad.2⟩, g.ex, g.th, g.fz, fun a o e h1 h2 => by
    obtain ⟨q1, q2, q3, q4⟩ := g.fr a o e h1 h2
    refine ⟨q1, q2, fun z => ?_, q4⟩
    rcases List.mem_append.mp (show a ∈ A1.M ++ [p] from z) with z | z
    · exact q3 z
    · rw [show a = p by simpa using z, hp] at e; cases e⟩
theorem Gr.data {B B1 : Hp} {A A1 : Ad} {H H1 : Hp} {p : Addr} {h : HO} (g : Gr B A H B1 A1 H1) (hp : H p = none) (hB : B1 p = none) : Gr B A H (L2.upd B1 p h) A1 H1 :=
  ⟨g.ad, g.ex.trans (Ex.new hB), g.th, g.fz, fun a o e h1 h2 => by
    obtain ⟨q1, q2, q3, q4⟩ := g.fr a o e h1 h2
    exact ⟨q1, by rw [upd_ne (ne_of_none e hp)]; exact q2, q3, q4⟩⟩

/-- a new list, named by nobody yet; it was not there at the beginning -/
abbrev FinF (K : KW) (B : Hp) (A : Ad) (H : Hp) (Q : VK) : List D → Wd → Prop := fun ds w' => ∀ p xs B' A' H', Gr B A H B' A' H' → Rep K B' A' w' H' → H p = none → H' p = some (.lst xs) → B' p = none → p ∉ A'.M → p ∉ A'.N → AtL K B' A' xs ds → Q (.ref p) H'
abbrev MF := Env → Wd → Res (List D)
def tF (K : KW) (W : XW) (m : MF) : TE := fun σ H Q => ∃ B A w δ, Rep K B A w H ∧ EnvAt K B A σ δ ∧ (m δ w).post (FinF K B A H Q) (W.P B A H)
def eFrz (m : MF) : ME := fun δ w => (m δ w).bind fun ds w1 => .ok (.lst ds) w1
def eOwn (m : MF) : ME := fun δ w => (m δ w).bind fun ds w1 => .ok (.own w1.l.length) ⟨w1.s, w1.l ++ [.lst ds]⟩
def eLoc (m : MF) : ME := fun δ w => (m δ w).bind fun ds w1 => if D.clL ds = true then .ok (.loc w1.s.length) ⟨w1.s ++ [.lst ds], w1.l⟩ else .stuck
section
variable {K : KW} {W : XW} {m : MF} {σ : L2.St} {H : Hp} {Q : VK}
theorem tF_frz (h : tE K W (eFrz m) σ H Q) : tF K W m σ H Q := by
  obtain ⟨B, A, w, δ, R, E, h⟩ := h
  refine ⟨B, A, w, δ, R, E, Res.post_mono (Res.post_bind h) (fun ds w1 h1 p xs B' A' H' g R' hp hx hB hM hN t => ?_) fun _ _ _ z => z⟩
  have ow : ∀ x, HO.lst xs ≠ .own x := fun x z => by cases z
  exact h1 (.ref p) _ A' H' (g.data hp hB) (R'.bless hx hB hM hN ow) (.lst upd_same (t.mono (Ex.new hB) (.refl _)))
theorem tF_own (h : tE K W (eOwn m) σ H Q) : tF K W m σ H Q := by
  obtain ⟨B, A, w, δ, R, E, h⟩ := h
  refine ⟨B, A, w, δ, R, E, Res.post_mono (Res.post_bind h) (fun ds w1 h1 p xs B' A' H' g R' hp hx hB hM hN t => ?_) fun _ _ _ z => z⟩
  refine h1 (.ref p) B' _ H' (g.own hp) (R'.adopt hx hB hM hN ⟨xs, hx, t⟩) (.ref (d := .own _) ?_)
  show (A'.N ++ [p])[w1.l.length]? = some p
  rw [← R'.ln, List.getElem?_append_right (Nat.le_refl _), Nat.sub_self]
  rfl
theorem tF_loc (h : tE K W (eLoc m) σ H Q) : tF K W m σ H Q := by
  obtain ⟨B, A, w, δ, R, E, h⟩ := h
  refine ⟨B, A, w, δ, R, E, Res.post_mono (Res.post_bind h) (fun ds w1 h1 p xs B' A' H' g R' hp hx hB hM hN t => ?_) fun _ _ _ z => z⟩
  split at h1
  case isFalse => exact h1.elim
  case isTrue hc =>
    refine h1 (.ref p) B' _ H' (g.loc hp) (R'.adoptS hx hB hM hN ⟨xs, hx, t⟩ hc) (.ref (d := .loc _) ?_)
    show (A'.M ++ [p])[w1.s.length]? = some p
    rw [← R'.lm, List.getElem?_append_right (Nat.le_refl _), Nat.sub_self]
    rfl
theorem FinF.new {B : Hp} {A : Ad} {w : Wd} {ds : List D} {xs : List V} {p : Addr} {H0 : Hp} {B0 : Hp} {A0 : Ad} (k : FinF K B0 A0 H0 Q ds w) (g : Gr B0 A0 H0 B A H) (R : Rep K B A w H) (h : AtL K B A xs ds) (hp : H p = none) : Q (.ref p) (L2.upd H p (.lst xs)) := by
  obtain ⟨R2, g2⟩ := R.loose (h := .lst xs) hp
  have h0 : H0 p = none := by
    cases e : H0 p with
    | none => rfl
    | some o => exact absurd hp (g.th p (by rw [e]; exact fun z => by cases z))
  exact k p xs B A _ (g.trans g2) R2 h0 upd_same (R.bnone hp) (R.notin hp).1 (R.notin hp).2 h
end
section
variable {X : Cx} {W : XW} {pos : Pos} {e : Expr} {es : List Expr} {m : MF} {mr : MA} {me : ME}
theorem de_frz (h : PE X e (tF (kwOf X) W m)) : PE X e (tE (kwOf X) W (eFrz m)) := PE.weaken h fun _ _ _ q => tF_frz q
theorem de_own (h : PE X e (tF (kwOf X) W m)) : PE X e (tE (kwOf X) W (eOwn m)) := PE.weaken h fun _ _ _ q => tF_own q
theorem de_loc (h : PE X e (tF (kwOf X) W m)) : PE X e (tE (kwOf X) W (eLoc m)) := PE.weaken h fun _ _ _ q => tF_loc q
def fLst (r : MA) : MF := fun δ w => (r δ w).bind fun ds w1 => if ds.length ≤ sizeLine then .ok ds w1 else .stuck
theorem df_lst (h : PA X es (tAr (kwOf X) W mr)) : PE X (.List es pos) (tF (kwOf X) W (fLst mr)) := by
  refine PE.weaken (pe_lst h) fun σ H Q h => ?_
  obtain ⟨B, A, w, δ, R, E, h⟩ := h
  refine partA R E h fun ds w1 vs B1 A1 H1 g R1 a h1 => ?_
  split at h1
  case isFalse => exact h1.elim
  case isTrue hz => exact ⟨by rw [a.length]; exact hz, fun p hp => FinF.new h1 g R1 a hp⟩
/-- a list becomes plain data (the last use of a list that was changed) -/
def eGive (m : ME) : ME := fun δ w => (m δ w).bind fun d w1 => match lstOf w1 d with
  | some ds => .ok (.lst ds) (w1.put d .gone)
  | none => .stuck
theorem tE_give {K : KW} {σ : L2.St} {H : Hp} {Q : VK} (h : tE K W (eGive me) σ H Q) : tE K W me σ H Q := by
  obtain ⟨B, A, w, δ, R, E, h⟩ := h
  refine ⟨B, A, w, δ, R, E, Res.post_mono (Res.post_bind h) (fun d w1 h1 v B' A' H' g R' a => ?_) fun _ _ _ z => z⟩
  cases q : lstOf w1 d with
  | none => rw [q] at h1; exact h1.elim
  | some ds =>
    rw [q] at h1
    cases a with
    | ref ha =>
      have hg : w1.get d = some (.lst ds) := by
        cases d with
        | loc n => exact soL_some q
        | own n => exact soL_some q
        | _ => cases ha
      obtain ⟨xs, hB, hH, R2, g2, a2⟩ := R'.freeze hg ha
      exact h1 _ _ _ _ (g.trans g2) R2 a2
    | lst hb t =>
      cases q
      exact h1 _ B' A' H' g R' (.lst hb t)
    | _ => cases q
theorem de_give (h : PE X e (tE (kwOf X) W me)) : PE X e (tE (kwOf X) W (eGive me)) := PE.weaken h fun _ _ _ q => tE_give q
end
end DP

set_option Elab.async false
set_option linter.all false
set_option maxRecDepth 100000
set_option maxHeartbeats 2000000
/-! Subscripts, slices, built-in functions. -/
namespace DP
open PySem L2 PySem.Spec PyProof.Rows

/-! ### tables -/
section
variable {κ : Type} [DecidableEq κ]
def valD (kvs : List (κ × D)) (k : κ) : Option D := (kvs.find? fun kv => decide (kv.1 = k)).map (·.2)
def putD (kvs : List (κ × D)) (k : κ) (d : D) : List (κ × D) :=
  if (kvs.any fun kv => decide (kv.1 = k)) = true then kvs.map (fun kv => if kv.1 = k then (kv.1, d) else kv) else kvs ++ [(k, d)]
def dropD (kvs : List (κ × D)) (k : κ) : List (κ × D) := kvs.filter fun kv => decide (kv.1 ≠ k)
variable {K : KW} {B : Hp} {A : Ad}
theorem AtK.val (k : κ) : ∀ {vs : List (κ × V)} {ds : List (κ × D)}, AtK K B A vs ds → (∀ d, valD ds k = some d → ∃ v, valV vs k = some v ∧ At K B A v d) ∧ (valD ds k = none → valV vs k = none)
  | _, _, .nil => ⟨fun _ h => (by cases h), fun _ => rfl⟩
  | (k1, v) :: vs, (k2, d) :: ds, .cons h t => by
    have hk : k1 = k2 := h.1
    subst hk
    obtain ⟨i1, i2⟩ := AtK.val k t
    by_cases e : k1 = k
    · refine ⟨fun d' hd => ⟨v, valV_pos (p := (k1, v)) e, ?_⟩, fun hn => ?_⟩
      · simp only [valD, List.find?_cons, e, decide_true, Option.map_some, Option.some.injEq] at hd
        rw [← hd]
        exact h.2
      · simp [valD, List.find?_cons, e] at hn
    · rw [valV_neg (p := (k1, v)) e]
      have eD : valD ((k1, d) :: ds) k = valD ds k := by simp [valD, List.find?_cons, e]
      rw [eD]
      exact ⟨i1, i2⟩
theorem AtK.any (k : κ) : ∀ {vs : List (κ × V)} {ds : List (κ × D)}, AtK K B A vs ds → (vs.any fun kv => decide (kv.1 = k)) = (ds.any fun kv => decide (kv.1 = k))
  | _, _, .nil => rfl
  | (k1, v) :: vs, (k2, d) :: ds, .cons h t => by
    have hk : k1 = k2 := h.1
    subst hk
    rw [List.any_cons, List.any_cons, AtK.any k t]
theorem AtK.mapPut (k : κ) {v : V} {d : D} (hv : At K B A v d) : ∀ {vs : List (κ × V)} {ds : List (κ × D)}, AtK K B A vs ds →
    AtK K B A (vs.map fun kv => if kv.1 = k then (kv.1, v) else kv) (ds.map fun kv => if kv.1 = k then (kv.1, d) else kv)
  | _, _, .nil => .nil
  | (k1, v1) :: vs, (k2, d1) :: ds, .cons h t => by
    have hk : k1 = k2 := h.1
    subst hk
    rw [List.map_cons, List.map_cons]
    refine .cons ?_ (AtK.mapPut k hv t)
    by_cases e : k1 = k
    · rw [if_pos e, if_pos e]
      exact ⟨rfl, hv⟩
    · rw [if_neg e, if_neg e]
      exact h
theorem AtK.app : ∀ {vs vs' : List (κ × V)} {ds ds' : List (κ × D)}, AtK K B A vs ds → AtK K B A vs' ds' → AtK K B A (vs ++ vs') (ds ++ ds')
  | _, _, _, _, .nil, s => s
  | _, _, _, _, .cons h t, s => .cons h (AtK.app t s)
theorem AtK.put (k : κ) {v : V} {d : D} (hv : At K B A v d) {vs : List (κ × V)} {ds : List (κ × D)} (h : AtK K B A vs ds) : AtK K B A (putK vs k v) (putD ds k d) := by
  unfold putK putD
  rw [AtK.any k h]
  split
  · exact h.mapPut k hv
  · exact h.app (.cons ⟨rfl, hv⟩ .nil)
theorem AtK.drop (k : κ) : ∀ {vs : List (κ × V)} {ds : List (κ × D)}, AtK K B A vs ds → AtK K B A (dropK vs k) (dropD ds k)
  | _, _, .nil => .nil
  | (k1, v1) :: vs, (k2, d1) :: ds, .cons h t => by
    have hk : k1 = k2 := h.1
    subst hk
    have ih := AtK.drop k t
    unfold dropK dropD at ih ⊢
    rw [List.filter_cons, List.filter_cons]
    by_cases e : k1 = k
    · simp only [e, ne_eq, not_true_eq_false, decide_false, Bool.false_eq_true, if_false]
      exact ih
    · simp only [ne_eq, e, not_false_eq_true, decide_true, if_true]
      exact .cons h ih
theorem AtK.len {vs : List (κ × V)} {ds : List (κ × D)} (h : AtK K B A vs ds) : vs.length = ds.length := Paired.length h
end
theorem putD_cl {kvs : List (Key × D)} {k : Key} {d : D} (h : (kvs.all fun p => p.2.cl) = true) (hd : d.cl = true) : ((putD kvs k d).all fun p => p.2.cl) = true := by
  unfold putD
  split
  · rw [List.all_eq_true] at h ⊢
    intro x hx
    obtain ⟨y, hy, e⟩ := List.mem_map.mp hx
    rw [← e]
    split
    · exact hd
    · exact h y hy
  · rw [List.all_append, h]
    simp [hd]
theorem dropD_cl {kvs : List (Key × D)} {k : Key} (h : (kvs.all fun p => p.2.cl) = true) : ((dropD kvs k).all fun p => p.2.cl) = true := by
  rw [List.all_eq_true] at h ⊢
  exact fun x hx => h x ((List.mem_filter.mp hx).1)

def keyD : D → Option Key
  | .int i => some (.inl i)
  | .str x => some (.inr x)
  | _ => none
theorem At.key {K : KW} {B : Hp} {A : Ad} {v : V} {d : D} {k : Key} (h : At K B A v d) (e : keyD d = some k) : v = kV k := by
  cases d with
  | int i => cases e; exact h.int_inv
  | str x => cases e; exact h.str_inv
  | _ => cases e
def soK : Option SO → Option (List (Key × D))
  | some (.dK kvs) => some kvs
  | some (.lk kvs) => some kvs
  | _ => none
/-- a dict that may be read -/
def dKof (w : Wd) : D → Option (List (Key × D))
  | .loc n => soK w.s[n]?
  | .own n => soK w.l[n]?
  | _ => none
theorem Rep.dKAt {K : KW} {B : Hp} {A : Ad} {w : Wd} {H : Hp} {v : V} {d : D} {kvs : List (Key × D)} (R : Rep K B A w H) (h : At K B A v d) (e : dKof w d = some kvs) : ∃ a vs, v = .ref a ∧ Rd H a (.dK vs) ∧ AtK K B A vs kvs ∧ A.at d = some a := by
  have main : ∀ d : D, soK (w.get d) = some kvs → ∀ a, A.at d = some a → ∃ vs, Rd H a (.dK vs) ∧ AtK K B A vs kvs := by
    intro d e a ha
    cases q : w.get d with
    | none => rw [q] at e; cases e
    | some o =>
      rw [q] at e
      rcases R.ob d o a q ha with ⟨z, _⟩ | ⟨_, z⟩
      · subst z; cases e
      · cases o with
        | dK x =>
          cases e
          obtain ⟨vs, z1, z2⟩ := z
          exact ⟨vs, .inl z1, z2⟩
        | lk x =>
          cases e
          obtain ⟨od, vs, z1, z2⟩ := z
          exact ⟨vs, .inr ⟨od, z1⟩, z2⟩
        | _ => cases e
  cases h with
  | ref ha =>
    cases d with
    | loc n =>
      obtain ⟨vs, z1, z2⟩ := main (.loc n) e _ ha
      exact ⟨_, vs, rfl, z1, z2, ha⟩
    | own n =>
      obtain ⟨vs, z1, z2⟩ := main (.own n) e _ ha
      exact ⟨_, vs, rfl, z1, z2, ha⟩
    | _ => cases ha
  | _ => cases e

/-! ### subscripts -/
def opIxD (dx dy : D) (w : Wd) : Res D := match dKof w dx, keyD dy with
  | some kvs, some k => (match valD kvs k with
    | some d => .ok d w
    | none => .stuck)
  | _, _ => .stuck
def opIxR (dx dy : D) (w : Wd) : Res D := match lstOf w dx, dy with
  | some xs, .int i => (match atI xs i with
    | some d => .ok d w
    | none => .stuck)
  | _, _ => opIxD dx dy w
def opIx (dx dy : D) (w : Wd) : Res D := match dx, dy with
  | .tup xs, .int i => (match atI xs i with
    | some d => .ok d w
    | none => .stuck)
  | .str z, .int i => (match atI z.cps.toList i with
    | some c => if z.length ≤ sizeLine then .ok (.str ⟨#[c]⟩) w else .stuck
    | none => .stuck)
  | .gd ks ds, .str z => (match (ks.zip ds).lookup z with
    | some d => .ok d w
    | none => .stuck)
  | dx, dy => opIxR dx dy w
def rIxDG : R2 := fun x y H Q => ∃ a v, x = .ref a ∧ DGet H a y (some v) ∧ Q v H
theorem ix_dg {X : Cx} (hu : X.A.units + 1 < cLine) : IxR X rIxDG := by
  intro value slice pins s σ H x y v u Q I rx ry h hs
  obtain ⟨a, r, rfl, g, q⟩ := h
  obtain rfl : v = Value.ref a := rx
  exact tail_any (dict_typeIs I g) slot_dict_getitem.lookup (d_getItem hu I g ry fun w' s' I' r' => ⟨r, H, I', r', q⟩) hs
def rIxA (K : KW) : R2 := fun x y H Q => (rIx K x y H Q ∨ rIxDG x y H Q) ∨ rIxD K.K K.w x y H Q
theorem ix_all {X : Cx} (hu : X.A.units + 1 < cLine) : IxR X (rIxA (kwOf X)) := (ix_seq.or (ix_dg hu)).or ix_kdict
theorem AtL.atI {K : KW} {B : Hp} {A : Ad} {vs : List V} {ds : List D} {i : Int} {d : D} (h : AtL K B A vs ds) (e : L2.atI ds i = some d) : ∃ v, L2.atI vs i = some v ∧ At K B A v d := by
  unfold L2.atI at e ⊢
  rw [h.length]
  cases q : ixN ds.length i with
  | none => rw [q] at e; cases e
  | some j =>
    rw [q] at e
    exact h.get e
theorem zip_lookup {K : KW} {B : Hp} {A : Ad} : ∀ {ks : List Str} {us : List Value} {vs : List V} {ds : List D} {z : Str} {d : D}, ks.length = us.length → Vals vs us → AtL K B A vs ds → (ks.zip ds).lookup z = some d →
    ∃ u v, (ks.zip us).lookup z = some u ∧ RelV v u ∧ At K B A v d
  | [], _, _, _, _, _, _, _, _, e => by cases e
  | _ :: _, [], _, _, _, _, hl, _, _, _ => by cases hl
  | k :: ks, u :: us, _, _, z, d, hl, .cons r rs, .cons a t, e => by
    rw [List.zip_cons_cons, List.lookup_cons] at e ⊢
    by_cases q : (z == k) = true
    · rw [q] at e ⊢
      cases e
      exact ⟨u, _, rfl, r, a⟩
    · rw [Bool.not_eq_true] at q
      rw [q] at e ⊢
      exact zip_lookup (Nat.succ.inj hl) rs t e
theorem od_ixD {K : KW} : OpD K (rIxA K) opIxD := by
  intro B A w H x y dx dy Q Ee R hx hy h
  unfold opIxD at h
  split at h
  case h_2 => exact h.elim
  case h_1 kvs k e1 e2 =>
    cases e3 : valD kvs k with
    | none => rw [e3] at h; exact h.elim
    | some d =>
      rw [e3] at h
      obtain ⟨a, vs, rfl, q1, q2, _⟩ := R.dKAt hx e1
      obtain ⟨v, z1, z2⟩ := (q2.val k).1 d e3
      exact .inl (.inr ⟨a, v, rfl, .inl ⟨vs, k, q1, hy.key e2, z1.symm⟩, FinD.ret h R z2⟩)
theorem od_ixR {K : KW} : OpD K (rIxA K) opIxR := by
  intro B A w H x y dx dy Q Ee R hx hy h
  unfold opIxR at h
  split at h
  case h_2 => exact od_ixD R hx hy h
  case h_1 xs i e1 =>
    cases hy.int_inv
    cases e : atI xs i with
    | none => rw [e] at h; exact h.elim
    | some d =>
      rw [e] at h
      obtain ⟨a, us, rfl, q1, t1⟩ := R.lstAt hx e1
      obtain ⟨v, z1, z2⟩ := t1.atI e
      exact .inl (.inl (.inl ⟨a, us, i, v, rfl, rfl, SqL.of q1, z1, FinD.ret h R z2⟩))
theorem od_ix {K : KW} : OpD K (rIxA K) opIx := by
  intro B A w H x y dx dy Q Ee R hx hy h
  unfold opIx at h
  split at h
  · cases hy.int_inv
    rename_i xs i
    cases e : atI xs i with
    | none => rw [e] at h; exact h.elim
    | some d =>
      rw [e] at h
      obtain ⟨a, us, rfl, q1, t1⟩ := R.tupAt hx
      obtain ⟨v, e1, e2⟩ := t1.atI e
      exact .inl (.inl (.inr (.inl ⟨a, us, i, v, rfl, rfl, q1, e1, FinD.ret h R e2⟩)))
  · cases hx.str_inv
    cases hy.int_inv
    rename_i z i
    cases e : atI z.cps.toList i with
    | none => rw [e] at h; exact h.elim
    | some c =>
      rw [e] at h
      have h : (if z.length ≤ sizeLine then Res.ok (.str ⟨#[c]⟩) w else .stuck).post (FinD K B A H Q) Ee := h
      split at h
      case isFalse => exact h.elim
      case isTrue hz => exact .inl (.inl (.inr (.inr ⟨z, i, c, rfl, rfl, hz, e, FinD.ret h R (.str _)⟩)))
  · cases hy.str_inv
    rename_i ks ds z
    cases e : (ks.zip ds).lookup z with
    | none => rw [e] at h; exact h.elim
    | some d =>
      rw [e] at h
      cases hx with
      | ref ha => cases ha
      | gd kd rv t =>
        obtain ⟨u, v, e1, e2, e3⟩ := zip_lookup kd.ln rv t e
        obtain ⟨es, n, kk⟩ := kd.dt
        exact .inr ⟨_, z, v, rfl, rfl, ⟨es, n, u, kk.at_, kk.lit, by rw [kd.at_ z, e1], e2⟩, FinD.ret h R e3⟩
  · exact od_ixR R hx hy h
section
variable {X : Cx} {W : XW} {pos : Pos} {a b : Expr} {ma mb : ME}
theorem de_ix (hu : X.A.units + 1 < cLine) (ha : PE X a (tE (kwOf X) W ma)) (hb : PE X b (tE (kwOf X) W mb)) (hs : PlainIx b := by exact fun _ _ => rfl) : PE X (.Subscript a b pos) (tE (kwOf X) W (eOp opIx ma mb)) :=
  PE.weaken (pe_ix (ix_all hu) ha hb hs) fun σ H Q h => tE_op od_ix h
end

/-! ### slices -/
def cutD (ds : List D) (lo hi : Option Int) : List D := (ds.drop (HT.sIx ds.length 0 lo)).take (HT.sIx ds.length ds.length hi - HT.sIx ds.length 0 lo)
theorem AtL.cut {K : KW} {B : Hp} {A : Ad} {vs : List V} {ds : List D} (h : AtL K B A vs ds) (lo hi : Option Int) : AtL K B A (cutV vs lo hi) (cutD ds lo hi) := by
  unfold cutV cutD
  rw [h.length]
  exact (h.drop _).take _
/-- a part of a slice -/
abbrev MO := Env → Wd → Res (Option Int)
def oNone : MO := fun _ w => .ok none w
def oSome (m : ME) : MO := fun δ w => (m δ w).bind fun d w1 => match d with
  | .int i => .ok (some i) w1
  | _ => .stuck
def tO (K : KW) (W : XW) (m : MO) : TO := fun σ H Q => ∃ B A w δ, Rep K B A w H ∧ EnvAt K B A σ δ ∧
  (m δ w).post (fun o w' => ∀ B' A' H', Gr B A H B' A' H' → Rep K B' A' w' H' → Q o H') (W.P B A H)
theorem PO.weaken {X : Cx} {e : Option Expr} {t t' : TO} (h : PO X e t) (k : ∀ σ H Q, t' σ H Q → t σ H Q) : PO X e t' := ⟨fun pins s σ H Q I q => h.run pins s σ H Q I (k σ H Q q)⟩
section
variable {X : Cx} {W : XW} {pos p2 : Pos} {e : Expr} {lo hi : Option Expr} {me : ME} {ml mh : MO}
theorem do_none : PO X none (tO (kwOf X) W oNone) := PO.weaken po_none fun σ H Q h => by
  obtain ⟨B, A, w, δ, R, E, h⟩ := h
  exact h B A H Gr.refl R
theorem do_some (he : PE X e (tE (kwOf X) W me)) : PO X (some e) (tO (kwOf X) W (oSome me)) := by
  refine PO.weaken (po_some he) fun σ H Q h => ?_
  obtain ⟨B, A, w, δ, R, E, h⟩ := h
  refine part R E h fun d w1 v B1 A1 H1 g R1 a h1 => ?_
  cases d with
  | int i =>
    cases a.int_inv
    exact ⟨i, rfl, h1 B1 A1 H1 g R1⟩
  | _ => exact h1.elim
theorem partO {K : KW} {W : XW} {B : Hp} {A : Ad} {w : Wd} {δ : Env} {σ : L2.St} {H : Hp} {β : Type} {m : MO} {f : Option Int → Wd → Res β} {P : β → Wd → Prop} {Q' : Option Int → Hp → Prop} (R : Rep K B A w H) (E : EnvAt K B A σ δ) (h : ((m δ w).bind f).post P (W.P B A H))
    (k : ∀ o w1 B1 A1 H1, Gr B A H B1 A1 H1 → Rep K B1 A1 w1 H1 → (f o w1).post P (W.P B1 A1 H1) → Q' o H1) : tO K W m σ H Q' :=
  ⟨B, A, w, δ, R, E, Res.post_mono (Res.post_bind h) (fun d w1 h1 B1 A1 H1 g R1 => k d w1 B1 A1 H1 g R1 (Res.post_mono h1 (fun _ _ z => z) fun _ _ _ z => W.mono g z)) fun _ _ _ z => z⟩
/-- of a tuple or a text -/
def opSl (d : D) (lo hi : Option Int) (w : Wd) : Res D := match d with
  | .tup xs => .ok (.tup (cutD xs lo hi)) w
  | .str z => if z.length ≤ sizeLine then .ok (.str (cutS z lo hi)) w else .stuck
  | _ => .stuck
def eSl (m : ME) (ml mh : MO) : ME := fun δ w => (m δ w).bind fun d w1 => (ml δ w1).bind fun lo w2 => (mh δ w2).bind fun hi w3 => opSl d lo hi w3
theorem cutV_all {xs : List V} {lo hi : Option Int} (h : HT.sIx xs.length 0 lo = 0 ∧ HT.sIx xs.length xs.length hi = xs.length) : cutV xs lo hi = xs := by
  unfold cutV
  rw [h.1, h.2, List.drop_zero, Nat.sub_zero, List.take_length]
theorem cutD_all {xs : List D} {lo hi : Option Int} (h : HT.sIx xs.length 0 lo = 0 ∧ HT.sIx xs.length xs.length hi = xs.length) : cutD xs lo hi = xs := by
  unfold cutD
  rw [h.1, h.2, List.drop_zero, Nat.sub_zero, List.take_length]
theorem de_sl (he : PE X e (tE (kwOf X) W me)) (hl : PO X lo (tO (kwOf X) W ml)) (hh : PO X hi (tO (kwOf X) W mh)) : PE X (.Subscript e (.Slice lo hi none p2) pos) (tE (kwOf X) W (eSl me ml mh)) := by
  refine PE.weaken (pe_slice (SlR.or (X := X) sl_tupA sl_str) he hl hh) fun σ H Q h => ?_
  obtain ⟨B, A, w, δ, R, E, h⟩ := h
  refine part R E h fun d w1 v B1 A1 H1 g1 R1 a h1 => ?_
  refine partO R1 (g1.env E) h1 fun l w2 B2 A2 H2 g2 R2 h2 => ?_
  refine partO R2 ((g1.trans g2).env E) h2 fun u w3 B3 A3 H3 g3 R3 h3 => ?_
  have a3 := (g2.trans g3).at a
  have g := (g1.trans g2).trans g3
  unfold opSl at h3
  split at h3
  · obtain ⟨p, us, rfl, q1, t1⟩ := R3.tupAt a3
    rename_i xs
    refine .inl ⟨p, us, rfl, q1, fun z => ?_, fun _ q hq => FinD.newT (FinD.shift h3 g) R3 (t1.cut l u) hq⟩
    rw [t1.length] at z
    have h4 := FinD.shift h3 g
    rw [cutD_all z] at h4
    exact FinD.ret h4 R3 a3
  · cases a3.str_inv
    split at h3
    case isFalse => exact h3.elim
    case isTrue hz => exact .inr ⟨_, rfl, hz, FinD.ret (FinD.shift h3 g) R3 (.str _)⟩
  · exact h3.elim
/-- of a list: a new one -/
def fSl (m : ME) (ml mh : MO) : MF := fun δ w => (m δ w).bind fun d w1 => (ml δ w1).bind fun lo w2 => (mh δ w2).bind fun hi w3 => match lstOf w3 d with
  | some xs => .ok (cutD xs lo hi) w3
  | none => .stuck
theorem df_sl (he : PE X e (tE (kwOf X) W me)) (hl : PO X lo (tO (kwOf X) W ml)) (hh : PO X hi (tO (kwOf X) W mh)) : PE X (.Subscript e (.Slice lo hi none p2) pos) (tF (kwOf X) W (fSl me ml mh)) := by
  refine PE.weaken (pe_slice sl_list he hl hh) fun σ H Q h => ?_
  obtain ⟨B, A, w, δ, R, E, h⟩ := h
  refine part R E h fun d w1 v B1 A1 H1 g1 R1 a h1 => ?_
  refine partO R1 (g1.env E) h1 fun l w2 B2 A2 H2 g2 R2 h2 => ?_
  refine partO R2 ((g1.trans g2).env E) h2 fun u w3 B3 A3 H3 g3 R3 h3 => ?_
  have a3 := (g2.trans g3).at a
  have g := (g1.trans g2).trans g3
  cases q : lstOf w3 d with
  | none => rw [q] at h3; exact h3.elim
  | some xs =>
    rw [q] at h3
    obtain ⟨p, us, rfl, q1, t1⟩ := R3.lstAt a3 q
    exact ⟨p, us, rfl, SqL.of q1, fun q hq => FinF.new h3 g R3 (t1.cut l u) hq⟩
/-- xs[::-1] of a list -/
def fRev (m : ME) : MF := fun δ w => (m δ w).bind fun d w1 => match lstOf w1 d with
  | some xs => .ok xs.reverse w1
  | none => .stuck
theorem df_rev {k : Nat} {p1 p3 p4 : Pos} (he : PE X e (tE (kwOf X) W me)) : PE X (.Subscript e (.Slice none none (some (.UnaryOp .USub (.Constant (.int 1) k p1) p3)) p4) pos) (tF (kwOf X) W (fRev me)) := by
  refine PE.weaken (pe_revL he) fun σ H Q h => ?_
  obtain ⟨B, A, w, δ, R, E, h⟩ := h
  refine part R E h fun d w1 v B1 A1 H1 g1 R1 a h1 => ?_
  cases q : lstOf w1 d with
  | none => rw [q] at h1; exact h1.elim
  | some xs =>
    rw [q] at h1
    obtain ⟨p, us, rfl, q1, t1⟩ := R1.lstAt a q
    exact ⟨p, us, rfl, SqL.of q1, fun q hq => FinF.new h1 g1 R1 t1.reverse hq⟩
end

/-! ### built-in functions -/
/-- a call by values that gives data -/
def CallD (K : KW) (r : List V → Hp → VK → Prop) (op : List D → Wd → Res D) : Prop := ∀ {B : Hp} {A : Ad} {w : Wd} {H : Hp} {vs : List V} {ds : List D} {Q : VK} {Ee : Str → List D → List SO → Prop},
  Rep K B A w H → AtL K B A vs ds → (op ds w).post (FinD K B A H Q) Ee → r vs H Q
def CallF (K : KW) (r : List V → Hp → VK → Prop) (op : List D → Wd → Res (List D)) : Prop := ∀ {B0 : Hp} {A0 : Ad} {H0 : Hp} {B : Hp} {A : Ad} {w : Wd} {H : Hp} {vs : List V} {ds : List D} {Q : VK} {Ee : Str → List D → List SO → Prop},
  Gr B0 A0 H0 B A H → Rep K B A w H → AtL K B A vs ds → (op ds w).post (FinF K B0 A0 H0 Q) Ee → r vs H Q
def eB (op : List D → Wd → Res D) (m : MA) : ME := fun δ w => (m δ w).bind fun ds w1 => op ds w1
def fB (op : List D → Wd → Res (List D)) (m : MA) : MF := fun δ w => (m δ w).bind fun ds w1 => op ds w1
section
variable {X : Cx} {W : XW} {pos p : Pos} {e : Expr} {es : List Expr} {mr : MA} {r : List V → Hp → VK → Prop} {x : Str} {id T : String}
theorem tCB_of {K : KW} {op : List D → Wd → Res D} (ho : CallD K r op) {σ : L2.St} {H : Hp} {Q : VK} (h : tE K W (eB op mr) σ H Q) : tCB r (tAr K W mr) σ H Q := by
  obtain ⟨B, A, w, δ, R, E, h⟩ := h
  refine partA R E h fun ds w1 vs B1 A1 H1 g R1 a h1 => ?_
  exact ho R1 a (post_shift h1 g)
theorem tCB_ofF {K : KW} {op : List D → Wd → Res (List D)} (ho : CallF K r op) {σ : L2.St} {H : Hp} {Q : VK} (h : tF K W (fB op mr) σ H Q) : tCB r (tAr K W mr) σ H Q := by
  obtain ⟨B, A, w, δ, R, E, h⟩ := h
  refine partA R E h fun ds w1 vs B1 A1 H1 g R1 a h1 => ?_
  exact ho g R1 a h1
theorem de_cb {op : List D → Wd → Res D} (hc : CallR X (.builtin id) r) (ho : CallD (kwOf X) r op) (hm : X.mg x = none) (hv : bootBuiltins x = some (.builtin id)) (ha : PA X (e :: es) (tAr (kwOf X) W mr)) (hg : Gl X x := by rfl) (hn : x ≠ "__name__" := by decide) (hdb : (x == ("__debug__" : Str)) = false := by decide)
    (he : starEach (e :: es) X.env = (false, eval e X.env) :: starEach es X.env := by rfl) (hpl : (backTo pos (starEach es X.env)).any (·.1) = false := by rfl) : PE X (.Call (.Name x p) (e :: es) [] pos) (tE (kwOf X) W (eB op mr)) :=
  PE.weaken (pe_callB hc hg hm hv ha hn hdb he hpl) fun _ _ _ h => tCB_of ho h
theorem de_ct {op : List D → Wd → Res D} (hc : CallR X (.type T) r) (ho : CallD (kwOf X) r op) (hm : X.mg x = none) (hv : bootBuiltins x = some (.type T)) (ha : PA X (e :: es) (tAr (kwOf X) W mr)) (hg : Gl X x := by rfl) (hn : x ≠ "__name__" := by decide) (hdb : (x == ("__debug__" : Str)) = false := by decide)
    (he : starEach (e :: es) X.env = (false, eval e X.env) :: starEach es X.env := by rfl) (hpl : (backTo pos (starEach es X.env)).any (·.1) = false := by rfl) : PE X (.Call (.Name x p) (e :: es) [] pos) (tE (kwOf X) W (eB op mr)) :=
  PE.weaken (pe_callTy hc hg hm hv ha hn hdb he hpl) fun _ _ _ h => tCB_of ho h
theorem df_cb {op : List D → Wd → Res (List D)} (hc : CallR X (.builtin id) r) (ho : CallF (kwOf X) r op) (hm : X.mg x = none) (hv : bootBuiltins x = some (.builtin id)) (ha : PA X (e :: es) (tAr (kwOf X) W mr)) (hg : Gl X x := by rfl) (hn : x ≠ "__name__" := by decide) (hdb : (x == ("__debug__" : Str)) = false := by decide)
    (he : starEach (e :: es) X.env = (false, eval e X.env) :: starEach es X.env := by rfl) (hpl : (backTo pos (starEach es X.env)).any (·.1) = false := by rfl) : PE X (.Call (.Name x p) (e :: es) [] pos) (tF (kwOf X) W (fB op mr)) :=
  PE.weaken (pe_callB hc hg hm hv ha hn hdb he hpl) fun _ _ _ h => tCB_ofF ho h
theorem df_ct {op : List D → Wd → Res (List D)} (hc : CallR X (.type T) r) (ho : CallF (kwOf X) r op) (hm : X.mg x = none) (hv : bootBuiltins x = some (.type T)) (ha : PA X (e :: es) (tAr (kwOf X) W mr)) (hg : Gl X x := by rfl) (hn : x ≠ "__name__" := by decide) (hdb : (x == ("__debug__" : Str)) = false := by decide)
    (he : starEach (e :: es) X.env = (false, eval e X.env) :: starEach es X.env := by rfl) (hpl : (backTo pos (starEach es X.env)).any (·.1) = false := by rfl) : PE X (.Call (.Name x p) (e :: es) [] pos) (tF (kwOf X) W (fB op mr)) :=
  PE.weaken (pe_callTy hc hg hm hv ha hn hdb he hpl) fun _ _ _ h => tCB_ofF ho h
end
/-- len -/
def opLen (ds : List D) (w : Wd) : Res D := match ds with
  | [.str z] => if z.length ≤ sizeLine then .ok (.int z.length) w else .stuck
  | [d] => (match seqOf w d with
    | some xs => .ok (.int xs.length) w
    | none => (match dKof w d with
      | some kvs => .ok (.int kvs.length) w
      | none => .stuck))
  | _ => .stuck
def rLenA (K : KW) : List V → Hp → VK → Prop := fun xs H Q => (∃ x n, xs = [x] ∧ LenV K x H n ∧ Q (.int n) H) ∨ (∃ a kvs, xs = [V.ref a] ∧ Rd H a (.dK kvs) ∧ Q (.int kvs.length) H)
theorem call_lenA {X : Cx} : CallR X (.builtin "len") (rLenA (kwOf X)) := fun pins s σ H xs us Q I r h => by
  rcases h with h | ⟨a, kvs, rfl, hd, q⟩
  · exact call_len pins s σ H xs us Q I r h
  · obtain ⟨u, rfl, ru⟩ := vals1 r
    obtain rfl : u = Value.ref a := ru
    exact d_len I hd fun t s' I' => ⟨.int kvs.length, H, I', ⟨_, rfl⟩, q⟩
theorem cd_len {K : KW} : CallD K (rLenA K) opLen := by
  intro B A w H vs ds Q Ee R t h
  unfold opLen at h
  split at h
  · split at h
    case isFalse => exact h.elim
    case isTrue hz =>
      cases t with
      | cons a t =>
        cases t
        cases a.str_inv
        exact .inl ⟨_, _, rfl, ⟨hz, rfl⟩, FinD.ret h R (.int _)⟩
  · rename_i d _
    cases t with
    | cons a t =>
      cases t
      cases e : seqOf w d with
      | some xs =>
        rw [e] at h
        obtain ⟨p, us, rfl, q1, t1⟩ := R.seqAt a e
        refine .inl ⟨_, us.length, rfl, ?_, ?_⟩
        · rcases q1 with q | q
          · exact .inl ⟨us, q, rfl⟩
          · exact .inr ⟨us, q, rfl⟩
        · rw [t1.length]
          exact FinD.ret h R (.int _)
      | none =>
        rw [e] at h
        cases e2 : dKof w d with
        | none => rw [e2] at h; exact h.elim
        | some kvs =>
          rw [e2] at h
          obtain ⟨p, us, rfl, q1, t1, _⟩ := R.dKAt a e2
          refine .inr ⟨p, us, rfl, q1, ?_⟩
          rw [t1.len]
          exact FinD.ret h R (.int _)
  · exact h.elim
/-- int -/
def opInt (ds : List D) (w : Wd) : Res D := match ds with
  | [.int i] => .ok (.int i) w
  | [.bl k] => .ok (.int (if k then 1 else 0)) w
  | _ => .stuck
theorem cd_int {K : KW} : CallD K (fun xs H Q => (∃ i, xs = [.int i] ∧ Q (.int i) H) ∨ ∃ k, xs = [.bl k] ∧ Q (.int (if k then 1 else 0)) H) opInt := by
  intro B A w H vs ds Q Ee R t h
  unfold opInt at h
  split at h
  · cases t with
    | cons a t =>
      cases t
      cases a.int_inv
      exact .inl ⟨_, rfl, FinD.ret h R (.int _)⟩
  · cases t with
    | cons a t =>
      cases t
      cases a.bl_inv
      exact .inr ⟨_, rfl, FinD.ret h R (.int _)⟩
  · exact h.elim
/-- abs, max, min of numbers -/
def opAbs (ds : List D) (w : Wd) : Res D := match ds with
  | [.int i] => .ok (.int (if i < 0 then -i else i)) w
  | _ => .stuck
theorem cd_abs {K : KW} : CallD K (fun xs H Q => ∃ i, xs = [.int i] ∧ Q (.int (if i < 0 then -i else i)) H) opAbs := by
  intro B A w H vs ds Q Ee R t h
  unfold opAbs at h
  split at h
  · cases t with
    | cons a t =>
      cases t
      cases a.int_inv
      exact ⟨_, rfl, FinD.ret h R (.int _)⟩
  · exact h.elim
def opMax2 (ds : List D) (w : Wd) : Res D := match ds with
  | [.int i, .int j] => .ok (.int (if j > i then j else i)) w
  | _ => .stuck
theorem cd_max2 {K : KW} : CallD K (fun xs H Q => ∃ i j, xs = [.int i, .int j] ∧ Q (.int (if j > i then j else i)) H) opMax2 := by
  intro B A w H vs ds Q Ee R t h
  unfold opMax2 at h
  split at h
  · cases t with
    | cons a t =>
      cases t with
      | cons a' t =>
        cases t
        cases a.int_inv
        cases a'.int_inv
        exact ⟨_, _, rfl, FinD.ret h R (.int _)⟩
  · exact h.elim
def opMin2 (ds : List D) (w : Wd) : Res D := match ds with
  | [.int i, .int j] => .ok (.int (if j < i then j else i)) w
  | _ => .stuck
theorem cd_min2 {K : KW} : CallD K (fun xs H Q => ∃ i j, xs = [.int i, .int j] ∧ Q (.int (if j < i then j else i)) H) opMin2 := by
  intro B A w H vs ds Q Ee R t h
  unfold opMin2 at h
  split at h
  · cases t with
    | cons a t =>
      cases t with
      | cons a' t =>
        cases t
        cases a.int_inv
        cases a'.int_inv
        exact ⟨_, _, rfl, FinD.ret h R (.int _)⟩
  · exact h.elim
/-- str of a number -/
def opStr (ds : List D) (w : Wd) : Res D := match ds with
  | [.int i] => if i.natAbs.log2 < 1920 then .ok (.str (toString i)) w else .stuck
  | _ => .stuck
theorem cd_str {K : KW} : CallD K (fun xs H Q => ∃ i : Int, xs = [.int i] ∧ i.natAbs.log2 < 1920 ∧ Q (.str (toString i)) H) opStr := by
  intro B A w H vs ds Q Ee R t h
  unfold opStr at h
  split at h
  · cases t with
    | cons a t =>
      cases t
      cases a.int_inv
      split at h
      case isFalse => exact h.elim
      case isTrue hz => exact ⟨_, rfl, hz, FinD.ret h R (.str _)⟩
  · exact h.elim
/-- tuple of a tuple or a list -/
def opTuple (ds : List D) (w : Wd) : Res D := match ds with
  | [d] => (match seqOf w d with
    | some xs => .ok (.tup xs) w
    | none => .stuck)
  | _ => .stuck
theorem cd_tuple {K : KW} : CallD K (fun xs H Q => ∃ p ys, xs = [.ref p] ∧ ((SqL K H p ys ∧ ∀ l, H l = none → Q (.ref l) (L2.upd H l (.tup ys))) ∨ (SqT K H p ys ∧ Q (.ref p) H))) opTuple := by
  intro B A w H vs ds Q Ee R t h
  unfold opTuple at h
  split at h
  · rename_i d
    cases t with
    | cons a t =>
      cases t
      by_cases ht : ∃ xs, d = .tup xs
      · obtain ⟨xs, rfl⟩ := ht
        obtain ⟨p, us, rfl, q1, t1⟩ := R.tupAt a
        exact ⟨p, us, rfl, .inr ⟨q1, FinD.ret h R a⟩⟩
      · cases e : seqOf w d with
        | none => rw [e] at h; exact h.elim
        | some xs =>
          rw [e] at h
          have e' : lstOf w d = some xs := by
            cases d with
            | tup xs => exact absurd ⟨xs, rfl⟩ ht
            | _ => exact e
          obtain ⟨p, us, rfl, q1, t1⟩ := R.lstAt a e'
          exact ⟨p, us, rfl, .inl ⟨SqL.of q1, fun l hl => FinD.newT h R t1 hl⟩⟩
  · exact h.elim
/-- list of a tuple, a list, a dict (its keys) -/
def keyOf : Key → D
  | .inl i => .int i
  | .inr x => .str x
def opList (ds : List D) (w : Wd) : Res (List D) := match ds with
  | [d] => (match seqOf w d with
    | some xs => .ok xs w
    | none => (match dKof w d with
      | some kvs => .ok (kvs.map fun kv => keyOf kv.1) w
      | none => .stuck))
  | _ => .stuck
def rListA (K : KW) : List V → Hp → VK → Prop := fun xs H Q => (∃ p ys, xs = [.ref p] ∧ (SqL K H p ys ∨ SqT K H p ys) ∧ ∀ l, H l = none → Q (.ref l) (L2.upd H l (.lst ys))) ∨
  (∃ (a : Addr) (kvs : List (Key × V)), xs = [.ref a] ∧ Rd H a (.dK kvs) ∧ ∀ p, H p = none → Q (.ref p) (L2.upd H p (.lst (kvs.map fun kv => kV kv.1))))
theorem call_listA {X : Cx} (hc : X.calm = true) : CallR X (.type "list") (rListA (kwOf X)) := fun pins s σ H xs us Q I r h => by
  rcases h with h | h
  · exact call_list_of pins s σ H xs us Q I r h
  · exact call_listD hc pins s σ H xs us Q I r h
theorem at_key {K : KW} {B : Hp} {A : Ad} (k : Key) : At K B A (kV k) (keyOf k) := by
  cases k with
  | inl i => exact .int i
  | inr x => exact .str x
theorem AtK.keys {K : KW} {B : Hp} {A : Ad} : ∀ {vs : List (Key × V)} {ds : List (Key × D)}, AtK K B A vs ds → AtL K B A (vs.map fun kv => kV kv.1) (ds.map fun kv => keyOf kv.1)
  | _, _, .nil => .nil
  | (k1, v) :: vs, (k2, d) :: ds, .cons h t => by
    have hk : k1 = k2 := h.1
    subst hk
    exact .cons (at_key k1) (AtK.keys t)
theorem cf_list {K : KW} : CallF K (rListA K) opList := by
  intro B0 A0 H0 B A w H vs ds Q Ee g R t h
  unfold opList at h
  split at h
  · rename_i d
    cases t with
    | cons a t =>
      cases t
      cases e : seqOf w d with
      | some xs =>
        rw [e] at h
        obtain ⟨p, us, rfl, q1, t1⟩ := R.seqAt a e
        exact .inl ⟨p, us, rfl, q1, fun l hl => FinF.new h g R t1 hl⟩
      | none =>
        rw [e] at h
        cases e2 : dKof w d with
        | none => rw [e2] at h; exact h.elim
        | some kvs =>
          rw [e2] at h
          obtain ⟨p, us, rfl, q1, t1, _⟩ := R.dKAt a e2
          exact .inr ⟨p, us, rfl, q1, fun l hl => FinF.new h g R t1.keys hl⟩
  · exact h.elim
end DP

set_option Elab.async false
set_option linter.all false
set_option maxRecDepth 100000
set_option maxHeartbeats 2000000
/-! Statements, loops, comprehensions. -/
namespace DP
open PySem L2 PySem.Spec PyProof.Rows

section
variable {K : KW} {W : XW} {B : Hp} {A : Ad} {w : Wd} {δ : Env} {σ : L2.St} {H : Hp}
abbrev FinS (K : KW) (B : Hp) (A : Ad) (H : Hp) (Z : Ends) : Fl × Env → Wd → Prop := fun r w' => ∀ σ' B' A' H', Gr B A H B' A' H' → Rep K B' A' w' H' → EnvAt K B' A' σ' r.2 → r.1.to K B' A' Z σ' H'
theorem FinS.shift {B1 : Hp} {A1 : Ad} {H1 : Hp} {Z : Ends} {r : Fl × Env} {w' : Wd} (k : FinS K B A H Z r w') (g : Gr B A H B1 A1 H1) : FinS K B1 A1 H1 Z r w' := fun σ' B' A' H' g' R' E' => k σ' B' A' H' (g.trans g') R' E'
theorem postS_shift {B1 : Hp} {A1 : Ad} {H1 : Hp} {Z : Ends} {r : Res (Fl × Env)} {E : Str → List D → List SO → Prop} (h : r.post (FinS K B A H Z) E) (g : Gr B A H B1 A1 H1) : r.post (FinS K B1 A1 H1 Z) E :=
  Res.post_mono h (fun _ _ z => FinS.shift z g) fun _ _ _ z => z
end

/-! ### small statements, blocks -/
def sNil : MS := fun δ w => .ok (.nx, δ) w
def sSeq (m n : MS) : MS := fun δ w => (m δ w).bind fun r w1 => match r.1 with
  | .nx => n r.2 w1
  | f => .ok (f, r.2) w1
def sExpr (m : ME) : MS := fun δ w => (m δ w).bind fun _ w1 => .ok (.nx, δ) w1
def sRet (m : ME) : MS := fun δ w => (m δ w).bind fun d w1 => .ok (.rt d, δ) w1
def sRetN : MS := fun δ w => .ok (.rt .non, δ) w
def sBrk : MS := fun δ w => .ok (.br, δ) w
def sCnt : MS := fun δ w => .ok (.ct, δ) w
def sIf (t : MT) (m n : MS) : MS := fun δ w => (t δ w).bind fun b w1 => if b = true then m δ w1 else n δ w1
def sSet (i : Nat) (m : ME) : MS := fun δ w => (m δ w).bind fun d w1 => .ok (.nx, δ.set i (some d)) w1
section
variable {X : Cx} {W : XW} {pos : Pos} {st : Stmt} {rest : List Stmt} {m n : MS} {e : Expr} {me : ME}
theorem dss_nil : PSs X [] (tSt (kwOf X) W sNil) := PSs.weaken pss_nil fun D σ H h => by
  obtain ⟨B, A, w, δ, R, E, h⟩ := h
  exact h σ B A H Gr.refl R E
theorem dss_cons (h1 : PS X st (tSt (kwOf X) W m)) (h2 : PSs X rest (tSt (kwOf X) W n)) : PSs X (st :: rest) (tSt (kwOf X) W (sSeq m n)) := by
  refine PSs.weaken (pss_cons h1 h2) fun D σ H h => ?_
  obtain ⟨B, A, w, δ, R, E, h⟩ := h
  refine ⟨B, A, w, δ, R, E, Res.post_mono (Res.post_bind h) (fun r w1 h1 σ' B' A' H' g R' E' => ?_) fun _ _ _ z => z⟩
  obtain ⟨f, δ'⟩ := r
  cases f with
  | nx =>
    have h1' : (n δ' w1).post (FinS (kwOf X) B A H D) (W.P B A H) := h1
    exact ⟨B', A', w1, δ', R', E', Res.post_mono (postS_shift h1' g) (fun _ _ z => z) fun _ _ _ z => W.mono g z⟩
  | br => exact (show FinS (kwOf X) B A H D (.br, δ') w1 from h1) σ' B' A' H' g R' E'
  | ct => exact (show FinS (kwOf X) B A H D (.ct, δ') w1 from h1) σ' B' A' H' g R' E'
  | rt d => exact (show FinS (kwOf X) B A H D (.rt d, δ') w1 from h1) σ' B' A' H' g R' E'
theorem dss_one (h1 : PS X st (tSt (kwOf X) W m)) : PSs X [st] (tSt (kwOf X) W m) := pss_one h1
theorem ds_pass : PS X (.Pass pos) (tSt (kwOf X) W sNil) := PS.weaken ps_pass fun D σ H h => by
  obtain ⟨B, A, w, δ, R, E, h⟩ := h
  exact h σ B A H Gr.refl R E
theorem ds_brk : PS X (.Break pos) (tSt (kwOf X) W sBrk) := PS.weaken ps_break fun D σ H h => by
  obtain ⟨B, A, w, δ, R, E, h⟩ := h
  exact h σ B A H Gr.refl R E
theorem ds_cnt : PS X (.Continue pos) (tSt (kwOf X) W sCnt) := PS.weaken ps_continue fun D σ H h => by
  obtain ⟨B, A, w, δ, R, E, h⟩ := h
  exact h σ B A H Gr.refl R E
theorem ds_retN : PS X (.Return none pos) (tSt (kwOf X) W sRetN) := PS.weaken ps_retN fun D σ H h => by
  obtain ⟨B, A, w, δ, R, E, h⟩ := h
  exact h σ B A H Gr.refl R E _ .non
theorem ds_expr (he : PE X e (tE (kwOf X) W me)) (hs : swapsWith e none pos.line X.env = pure false := by rfl) : PS X (.Expr e pos) (tSt (kwOf X) W (sExpr me)) := by
  refine PS.weaken (ps_expr he hs) fun D σ H h => ?_
  obtain ⟨B, A, w, δ, R, E, h⟩ := h
  exact part R E h fun d w1 v B1 A1 H1 g R1 a h1 => h1 σ B1 A1 H1 g R1 (g.env E)
theorem ds_ret (he : PE X e (tE (kwOf X) W me)) : PS X (.Return (some e) pos) (tSt (kwOf X) W (sRet me)) := by
  refine PS.weaken (ps_ret he) fun D σ H h => ?_
  obtain ⟨B, A, w, δ, R, E, h⟩ := h
  exact part R E h fun d w1 v B1 A1 H1 g R1 a h1 => h1 σ B1 A1 H1 g R1 (g.env E) v a
theorem ds_if {c : Expr} {p q : List Stmt} {mt : MT} (hc : PT X c (tTt (kwOf X) W mt)) (ha : PSs X p (tSt (kwOf X) W m)) (hb : PSs X q (tSt (kwOf X) W n)) : PS X (.If c p q pos) (tSt (kwOf X) W (sIf mt m n)) := by
  refine PS.weaken (ps_if hc ha hb) fun D σ H h => ?_
  obtain ⟨B, A, w, δ, R, E, h⟩ := h
  refine partT R E h fun b w1 B1 A1 H1 g R1 h1 => ?_
  cases b with
  | true => exact ⟨B1, A1, w1, δ, R1, g.env E, Res.post_mono (postS_shift h1 g) (fun _ _ z => z) fun _ _ _ z => z⟩
  | false => exact ⟨B1, A1, w1, δ, R1, g.env E, Res.post_mono (postS_shift h1 g) (fun _ _ z => z) fun _ _ _ z => z⟩
theorem ds_set (i : Nat) {x : Str} {p' : Pos} (hN : X.N.Nodup) (he : PE X e (tE (kwOf X) W me)) (hi : X.N[i]? = some x := by rfl) (hx : Loc X.env.scope x := by first | exact Or.inl rfl | exact Or.inr rfl) (hs : swapsWith e (some (.Name x p')) pos.line X.env = pure false := by rfl)
    (hf : X.fn x = true ∨ X.env.scope.names.lookup x = some .local := by first | exact .inl rfl | exact .inr rfl) : PS X (.Assign [.Name x p'] e pos) (tSt (kwOf X) W (sSet i me)) := by
  refine PS.weaken (ps_set (i := i) hN hi hx he hs hf) fun D σ H h => ?_
  obtain ⟨B, A, w, δ, R, E, h⟩ := h
  exact part R E h fun d w1 v B1 A1 H1 g R1 a h1 => h1 _ B1 A1 H1 g R1 ((g.env E).set a i)
end

/-! ### targets -/
abbrev MG := D → Env → Wd → Res Env
/-- a target that stores names of the slots vs at most -/
def tG (K : KW) (W : XW) (vs : List Nat) (g : MG) : TG := fun v σ H Q => ∃ B A w δ d, Rep K B A w H ∧ EnvAt K B A σ δ ∧ At K B A v d ∧
  (g d δ w).post (fun δ' w' => ∀ σ' B' A' H', Gr B A H B' A' H' → Rep K B' A' w' H' → EnvAt K B' A' σ' δ' → wipe σ' vs = wipe σ vs → Q σ' H') (W.P B A H)
abbrev MGs := List D → Env → Wd → Res Env
def tGs (K : KW) (W : XW) (vs : List Nat) (g : MGs) : TGs := fun us σ H Q => ∃ B A w δ ds, Rep K B A w H ∧ EnvAt K B A σ δ ∧ AtL K B A us ds ∧
  (g ds δ w).post (fun δ' w' => ∀ σ' B' A' H', Gr B A H B' A' H' → Rep K B' A' w' H' → EnvAt K B' A' σ' δ' → wipe σ' vs = wipe σ vs → Q σ' H') (W.P B A H)
theorem PG.weaken {X : Cx} {e : Expr} {t t' : TG} (h : PG X e t) (k : ∀ v σ H Q, t' v σ H Q → t v σ H Q) : PG X e t' := ⟨fun pins s σ H v u Q I r q => h.run pins s σ H v u Q I r (k v σ H Q q)⟩
theorem PGs.weaken {X : Cx} {e : List Expr} {t t' : TGs} (h : PGs X e t) (k : ∀ v σ H Q, t' v σ H Q → t v σ H Q) : PGs X e t' := ⟨fun pins s σ H v u Q I r q => h.run pins s σ H v u Q I r (k v σ H Q q)⟩
theorem wipe_set {σ : L2.St} {j : Nat} {x : Option V} : ∀ {vs : List Nat}, j ∈ vs → wipe (σ.set j x) vs = wipe σ vs
  | v :: vs, h => by
    show (wipe (σ.set j x) vs).set v none = (wipe σ vs).set v none
    by_cases hj : j ∈ vs
    · rw [wipe_set hj]
    · have e : j = v := by
        rcases List.mem_cons.mp h with q | q
        · exact q
        · exact absurd q hj
      subst e
      have com : ∀ (us : List Nat), j ∉ us → wipe (σ.set j x) us = (wipe σ us).set j x := by
        intro us hus
        induction us with
        | nil => rfl
        | cons u us ih =>
          have hu : j ≠ u := fun z => hus (by rw [z]; exact List.mem_cons_self)
          show (wipe (σ.set j x) us).set u none = ((wipe σ us).set u none).set j x
          rw [ih (fun z => hus (List.mem_cons_of_mem _ z)), List.set_comm _ _ hu]
      rw [com vs hj, List.set_set]
  | [], h => by cases h
def gNm (i : Nat) : MG := fun d δ w => .ok (δ.set i (some d)) w
def gNil_ : MGs := fun ds δ w => match ds with
  | [] => .ok δ w
  | _ :: _ => .stuck
def gCons_ (g : MG) (r : MGs) : MGs := fun ds δ w => match ds with
  | d :: ds => (g d δ w).bind fun δ1 w1 => r ds δ1 w1
  | [] => .stuck
/-- a, b, .. = a tuple or a list of as many -/
def gSq (n : Nat) (r : MGs) : MG := fun d δ w => match seqOf w d with
  | some ds => if ds.length = n then r ds δ w else .stuck
  | none => .stuck
section
variable {X : Cx} {W : XW} {vs : List Nat} {pos : Pos} {e : Expr} {es : List Expr} {g : MG} {r : MGs}
theorem dg_nm (i : Nat) {x : Str} (hN : X.N.Nodup) (hv : i ∈ vs := by decide) (hi : X.N[i]? = some x := by rfl) (hx : Loc X.env.scope x := by first | exact Or.inl rfl | exact Or.inr rfl)
    (hf : X.fn x = true ∨ X.env.scope.names.lookup x = some .local := by first | exact .inl rfl | exact .inr rfl) : PG X (.Name x pos) (tG (kwOf X) W vs (gNm i)) := by
  refine PG.weaken (pg_name hN hi hx hf) fun v σ H Q h => ?_
  obtain ⟨B, A, w, δ, d, R, E, a, h⟩ := h
  exact h _ B A H Gr.refl R (E.set a i) (wipe_set hv)
theorem dgs_nil : PGs X [] (tGs (kwOf X) W vs gNil_) := PGs.weaken pgs_nil fun v σ H Q h => by
  obtain ⟨B, A, w, δ, ds, R, E, a, h⟩ := h
  unfold gNil_ at h
  split at h
  · cases a
    exact ⟨rfl, h _ B A H Gr.refl R E rfl⟩
  · exact h.elim
theorem dgs_cons (h1 : PG X e (tG (kwOf X) W vs g)) (h2 : PGs X es (tGs (kwOf X) W vs r)) (hs : (assignEach (e :: es) X.env).map (·.2) = assign e X.env :: (assignEach es X.env).map (·.2) := by rfl) : PGs X (e :: es) (tGs (kwOf X) W vs (gCons_ g r)) := by
  refine PGs.weaken (pgs_cons h1 h2 hs) fun us σ H Q h => ?_
  obtain ⟨B, A, w, δ, ds, R, E, a, h⟩ := h
  unfold gCons_ at h
  split at h
  · cases a with
    | cons a1 a2 =>
      refine ⟨_, _, rfl, B, A, w, δ, _, R, E, a1, Res.post_mono (Res.post_bind h) (fun δ' w' h' σ' B' A' H' g' R' E' wp => ?_) fun _ _ _ z => z⟩
      exact ⟨B', A', w', δ', _, R', E', a2.mono g'.ex g'.ad, Res.post_mono h' (fun δ2 w2 h2 σ2 B2 A2 H2 g2 R2 E2 wp2 => h2 σ2 B2 A2 H2 (g'.trans g2) R2 E2 (wp2.trans wp)) fun _ _ _ z => W.mono g' z⟩
  · exact h.elim
/-- a tuple or a list, unpacked -/
theorem pg_sq {k : Nat} {t : TGs} {n : Nat} (h1 : PG X (.Tuple es k pos) (gTup X.K n t)) (h2 : PG X (.Tuple es k pos) (gUnl X.K n t)) : PG X (.Tuple es k pos) (fun v σ H Q => gTup X.K n t v σ H Q ∨ gUnl X.K n t v σ H Q) :=
  ⟨fun pins s σ H v u Q I r q => q.elim (h1.run pins s σ H v u Q I r) (h2.run pins s σ H v u Q I r)⟩
theorem dg_sq {n : Nat} (hc : X.calm = true) (h : PGs X es (tGs (kwOf X) W vs r)) (hn : (assignEach es X.env).length = n := by rfl) (hst : (assignEach es X.env).findIdx? (·.1) = none := by rfl) {k : Nat} : PG X (.Tuple es k pos) (tG (kwOf X) W vs (gSq n r)) := by
  refine PG.weaken (pg_sq (pg_tup hc h hn hst) (pg_unl hc h hn hst)) fun v σ H Q h => ?_
  obtain ⟨B, A, w, δ, d, R, E, a, h⟩ := h
  unfold gSq at h
  cases e : seqOf w d with
  | none => rw [e] at h; exact h.elim
  | some ds =>
    rw [e] at h
    have h : (if ds.length = n then r ds δ w else .stuck).post (fun δ' w' => ∀ σ' B' A' H', Gr B A H B' A' H' → Rep (kwOf X) B' A' w' H' → EnvAt (kwOf X) B' A' σ' δ' → wipe σ' vs = wipe σ vs → Q σ' H') (W.P B A H) := h
    split at h
    case isFalse => exact h.elim
    case isTrue hl =>
      obtain ⟨p, us, rfl, q1, t1⟩ := R.seqAt a e
      rcases q1 with q1 | q1
      · exact .inr ⟨p, us, rfl, q1, by rw [t1.length]; exact hl, B, A, w, δ, ds, R, E, t1, h⟩
      · exact .inl ⟨p, us, rfl, q1, by rw [t1.length]; exact hl, B, A, w, δ, ds, R, E, t1, h⟩
/-- target = e -/
def sAsg (g : MG) (m : ME) : MS := fun δ w => (m δ w).bind fun d w1 => (g d δ w1).bind fun δ1 w2 => .ok (.nx, δ1) w2
theorem ds_asg {tg : Expr} {me : ME} (he : PE X e (tE (kwOf X) W me)) (hg : PG X tg (tG (kwOf X) W vs g)) (hs : swapsWithSole [tg] e pos.line X.env = pure false := by rfl) (hw : swappedStores [tg] e X.env = pure none := by rfl)
    (h1 : (assignEach [tg] X.env).map (·.2) = [assign tg X.env] := by rfl) : PS X (.Assign [tg] e pos) (tSt (kwOf X) W (sAsg g me)) := by
  refine PS.weaken (ps_asg he hg hs hw h1) fun U σ H h => ?_
  obtain ⟨B, A, w, δ, R, E, h⟩ := h
  refine part R E h fun d w1 v B1 A1 H1 g1 R1 a h1 => ?_
  refine ⟨B1, A1, w1, δ, d, R1, g1.env E, a, Res.post_mono (Res.post_bind h1) (fun δ2 w2 h2 σ2 B2 A2 H2 g2 R2 E2 _ => ?_) fun _ _ _ z => z⟩
  exact h2 σ2 B2 A2 H2 (g1.trans g2) R2 E2
/-- a, b = x, y of plain local names -/
def sPar (i j : Nat) (m : MA) : MS := fun δ w => (m δ w).bind fun ds w1 => match ds with
  | [a, b] => .ok (.nx, (δ.set i (some a)).set j (some b)) w1
  | _ => .stuck
theorem ds_par (i j : Nat) {x y : Str} {a b : Expr} {px py pt : Pos} {kt k2 : Nat} {pt2 : Pos} {ma : MA} (hc : X.calm = true) (hN : X.N.Nodup) (ha : PA X [a, b] (tAr (kwOf X) W ma)) (hi : X.N[i]? = some x := by rfl) (hj : X.N[j]? = some y := by rfl) (hij : i ≠ j := by decide)
    (hx : X.env.scope.names.lookup x = some .local := by rfl) (hy : X.env.scope.names.lookup y = some .local := by rfl) (hw : swappedStores [.Tuple [.Name x px, .Name y py] kt pt] (.Tuple [a, b] k2 pt2) X.env = pure (some [x, y]) := by rfl)
    (hs : swapsWithSole [.Tuple [.Name x px, .Name y py] kt pt] (.Tuple [a, b] k2 pt2) pos.line X.env = pure false := by rfl) : PS X (.Assign [.Tuple [.Name x px, .Name y py] kt pt] (.Tuple [a, b] k2 pt2) pos) (tSt (kwOf X) W (sPar i j ma)) := by
  refine PS.weaken (ps_par hc hN hi hj hij hx hy ha hw hs) fun U σ H h => ?_
  obtain ⟨B, A, w, δ, R, E, h⟩ := h
  refine partA R E h fun ds w1 vs B1 A1 H1 g R1 t h1 => ?_
  split at h1
  · cases t with
    | cons a1 t =>
      cases t with
      | cons a2 t =>
        cases t
        exact ⟨_, _, rfl, h1 _ B1 A1 H1 g R1 (((g.env E).set a1 i).set a2 j)⟩
  · exact h1.elim
end

/-! ### what is walked -/
/-- J walks through ds, whatever else happens -/
structure Its (K : KW) (B : Hp) (A : Ad) (H : Hp) (J : It) (ds : List D) : Prop where
  go : ∀ i B' A' w' H', i < ds.length → Gr B A H B' A' H' → Rep K B' A' w' H' → J.go i H'
  stop : ∀ B' A' w' H', Gr B A H B' A' H' → Rep K B' A' w' H' → J.stop ds.length H'
  yld : ∀ i d B1 A1 w1 H1 x H2, ds[i]? = some d → Gr B A H B1 A1 H1 → Rep K B1 A1 w1 H1 → J.yld i H1 x H2 → ∃ B2, Gr B1 A1 H1 B2 A1 H2 ∧ Rep K B2 A1 w1 H2 ∧ At K B2 A1 x d
abbrev MI := Env → Wd → Res (List D)
def tI (K : KW) (W : XW) (m : MI) : TI := fun σ H R => ∃ B A w δ, Rep K B A w H ∧ EnvAt K B A σ δ ∧
  (m δ w).post (fun ds w' => ∀ J B' A' H', Gr B A H B' A' H' → Rep K B' A' w' H' → Its K B' A' H' J ds → R J H') (W.P B A H)
theorem PI.weaken {X : Cx} {tg e : Expr} {t t' : TI} (h : PI X tg e t) (k : ∀ σ H Q, t' σ H Q → t σ H Q) : PI X tg e t' := ⟨fun pins s σ H Q I q => h.run pins s σ H Q I (k σ H Q q)⟩
/-- the run of a for -/
def forD (g : MG) (b : MS) : List D → MS
  | [], δ, w => .ok (.nx, δ) w
  | d :: ds, δ, w => (g d δ w).bind fun δ1 w1 => (b δ1 w1).bind fun r w2 => match r.1 with
    | .nx => forD g b ds r.2 w2
    | .ct => forD g b ds r.2 w2
    | .br => .ok (.nx, r.2) w2
    | .rt d => .ok (.rt d, r.2) w2
def sFor (mi : MI) (g : MG) (b : MS) : MS := fun δ w => (mi δ w).bind fun ds w1 => forD g b ds δ w1
section
variable {X : Cx} {W : XW} {vs : List Nat} {pos : Pos} {tg iter : Expr} {body : List Stmt} {g : MG} {b : MS} {mi : MI}
theorem ds_for (hp : PassesOwn (model X.prog X.w) X.A X.env X.xe) (hc : X.calm = true) (hi : PI X tg iter (tI (kwOf X) W mi)) (hg : PG X tg (tG (kwOf X) W vs g)) (hb : PSs X body (tSt (kwOf X) W b)) (hs : ∀ x, foldedSetIterable iter X.env x = pure x := by intro _; rfl) :
    PS X (.For tg iter body [] pos) (tSt (kwOf X) W (sFor mi g b)) := by
  refine PS.weaken (ps_for hp hc hi hg hb hs) fun U σ H h => ?_
  obtain ⟨B0, A0, w0, δ0, R0, E0, h⟩ := h
  refine ⟨B0, A0, w0, δ0, R0, E0, Res.post_mono (Res.post_bind h) (fun ds wi hi J Bi Ai Hi gi Ri its => ?_) fun _ _ _ z => z⟩
  refine ⟨fun i m σ H => m = ds.length - i ∧ i ≤ ds.length ∧ ∃ B A w δ, Gr Bi Ai Hi B A H ∧ Rep (kwOf X) B A w H ∧ EnvAt (kwOf X) B A σ δ ∧ (forD g b (ds.drop i) δ w).post (FinS (kwOf X) B A H U) (W.P B A H),
    ⟨ds.length, by simp, Nat.zero_le _, Bi, Ai, wi, δ0, Gr.refl, Ri, gi.env E0, ?_⟩, ?_⟩
  · rw [List.drop_zero]
    exact Res.post_mono (postS_shift hi gi) (fun _ _ z => z) fun _ _ _ z => W.mono gi z
  · rintro i m σ H ⟨rfl, hle, B, A, w, δ, gr, R, E, h⟩
    by_cases hlt : i < ds.length
    · refine .inr ⟨its.go i B A w H hlt gr R, fun σ' H' => i + 1 ≤ ds.length ∧ ∃ B' A' w' δ', Gr Bi Ai Hi B' A' H' ∧ Rep (kwOf X) B' A' w' H' ∧ EnvAt (kwOf X) B' A' σ' δ' ∧ (forD g b (ds.drop (i + 1)) δ' w').post (FinS (kwOf X) B' A' H' U) (W.P B' A' H'),
        fun σ' H' q => ⟨ds.length - (i + 1), by omega, rfl, q⟩, fun x H1 y => ?_⟩
      have hd : ds[i]? = some ds[i] := List.getElem?_eq_getElem hlt
      obtain ⟨B1, g1, R1, a1⟩ := its.yld i ds[i] B A w H x H1 hd gr R y
      rw [List.drop_eq_getElem_cons hlt] at h
      have h2 : ((g ds[i] δ w).bind fun δ1 w1 => (b δ1 w1).bind fun r w2 => match r.1 with
        | .nx => forD g b (ds.drop (i + 1)) r.2 w2
        | .ct => forD g b (ds.drop (i + 1)) r.2 w2
        | .br => .ok (.nx, r.2) w2
        | .rt d => .ok (.rt d, r.2) w2).post (FinS (kwOf X) B A H U) (W.P B A H) := h
      refine ⟨B1, A, w, δ, ds[i], R1, g1.env E, a1, Res.post_mono (Res.post_bind h2) (fun δ2 w2 h3 σ2 B2 A2 H2 g2 R2 E2 _ => ?_) fun _ _ _ z => W.mono g1 z⟩
      refine ⟨B2, A2, w2, δ2, R2, E2, Res.post_mono (Res.post_bind h3) (fun r w3 h4 σ3 B3 A3 H3 g3 R3 E3 => ?_) fun _ _ _ z => W.mono (g1.trans g2) z⟩
      have gg := (g1.trans g2).trans g3
      obtain ⟨f, δ3⟩ := r
      have more : (forD g b (ds.drop (i + 1)) δ3 w3).post (FinS (kwOf X) B A H U) (W.P B A H) → (i + 1 ≤ ds.length ∧ ∃ B' A' w' δ', Gr Bi Ai Hi B' A' H3 ∧ Rep (kwOf X) B' A' w' H3 ∧ EnvAt (kwOf X) B' A' σ3 δ' ∧ (forD g b (ds.drop (i + 1)) δ' w').post (FinS (kwOf X) B' A' H3 U) (W.P B' A' H3)) :=
        fun z => ⟨hlt, B3, A3, w3, δ3, gr.trans gg, R3, E3, Res.post_mono (postS_shift z gg) (fun _ _ z => z) fun _ _ _ z => W.mono gg z⟩
      cases f with
      | nx => exact more h4
      | ct => exact more h4
      | br => exact h4 σ3 B3 A3 H3 gg R3 E3
      | rt d => exact h4 σ3 B3 A3 H3 gg R3 E3
    · have e : i = ds.length := by omega
      subst e
      rw [List.drop_length] at h
      exact .inl ⟨its.stop B A w H gr R, h σ B A H Gr.refl R E⟩
end
/-- the run of a while -/
def whileD (t : MT) (b : MS) : Nat → MS
  | 0, _, _ => .stuck
  | n + 1, δ, w => (t δ w).bind fun c w1 => if c = true then (b δ w1).bind fun r w2 => (match r.1 with
      | .nx => whileD t b n r.2 w2
      | .ct => whileD t b n r.2 w2
      | .br => .ok (.nx, r.2) w2
      | .rt d => .ok (.rt d, r.2) w2)
    else .ok (.nx, δ) w1
def FUEL : Nat := 1099511627776
def sWhile (t : MT) (b : MS) : MS := fun δ w => whileD t b FUEL δ w
section
variable {X : Cx} {W : XW} {pos : Pos} {c : Expr} {body : List Stmt} {b : MS} {t : MT}
theorem ds_while (hp : PassesOwn (model X.prog X.w) X.A X.env X.xe) (hc : PT X c (tTt (kwOf X) W t)) (hb : PSs X body (tSt (kwOf X) W b)) : PS X (.While c body [] pos) (tSt (kwOf X) W (sWhile t b)) := by
  refine PS.weaken (ps_while hp hc hb) fun U σ H h => ?_
  refine ⟨fun n σ H => ∃ B A w δ, Rep (kwOf X) B A w H ∧ EnvAt (kwOf X) B A σ δ ∧ (whileD t b n δ w).post (FinS (kwOf X) B A H U) (W.P B A H), ⟨FUEL, h⟩, ?_⟩
  rintro n σ H ⟨B, A, w, δ, R, E, h⟩
  cases n with
  | zero => exact h.elim
  | succ n =>
    have h' : ((t δ w).bind fun c w1 => if c = true then (b δ w1).bind fun r w2 => (match r.1 with
      | .nx => whileD t b n r.2 w2
      | .ct => whileD t b n r.2 w2
      | .br => .ok (.nx, r.2) w2
      | .rt d => .ok (.rt d, r.2) w2)
    else .ok (.nx, δ) w1).post (FinS (kwOf X) B A H U) (W.P B A H) := h
    refine partT R E h' fun k w1 B1 A1 H1 g1 R1 h1 => ?_
    cases k with
    | false => exact h1 σ B1 A1 H1 g1 R1 (g1.env E)
    | true =>
      refine ⟨fun σ' H' => ∃ B A w δ, Rep (kwOf X) B A w H' ∧ EnvAt (kwOf X) B A σ' δ ∧ (whileD t b n δ w).post (FinS (kwOf X) B A H' U) (W.P B A H'), fun σ' H' q => ⟨n, Nat.lt_succ_self n, q⟩, ?_⟩
      have h2 : ((b δ w1).bind fun r w2 => (match r.1 with
        | .nx => whileD t b n r.2 w2
        | .ct => whileD t b n r.2 w2
        | .br => .ok (.nx, r.2) w2
        | .rt d => .ok (.rt d, r.2) w2)).post (FinS (kwOf X) B A H U) (W.P B1 A1 H1) := h1
      refine ⟨B1, A1, w1, δ, R1, g1.env E, Res.post_mono (Res.post_bind h2) (fun r w3 h4 σ3 B3 A3 H3 g3 R3 E3 => ?_) fun _ _ _ z => z⟩
      have gg := g1.trans g3
      obtain ⟨f, δ3⟩ := r
      have more : (whileD t b n δ3 w3).post (FinS (kwOf X) B A H U) (W.P B1 A1 H1) → ∃ B A w δ, Rep (kwOf X) B A w H3 ∧ EnvAt (kwOf X) B A σ3 δ ∧ (whileD t b n δ w).post (FinS (kwOf X) B A H3 U) (W.P B A H3) :=
        fun z => ⟨B3, A3, w3, δ3, R3, E3, Res.post_mono (postS_shift z gg) (fun _ _ z => z) fun _ _ _ z => W.mono g3 z⟩
      cases f with
      | nx => exact more h4
      | ct => exact more h4
      | br => exact h4 σ3 B3 A3 H3 gg R3 E3
      | rt d => exact h4 σ3 B3 A3 H3 gg R3 E3
end
end DP

set_option Elab.async false
set_option linter.all false
set_option maxRecDepth 100000
set_option maxHeartbeats 2000000
/-! What a for and a comprehension walk. -/
namespace DP
open PySem L2 PySem.Spec PyProof.Rows

section
variable {K : KW} {B : Hp} {A : Ad} {H : Hp}
theorem its_lst {a : Addr} {xs : List V} {ds : List D} (h : B a = some (.lst xs)) (t : AtL K B A xs ds) : Its K B A H (Itl K a) ds where
  go := fun i B' A' w' H' hi g R => by
    have hl : i < xs.length := by rw [t.length]; exact hi
    exact ⟨xs, xs[i], SqL.of (R.ext _ _ (g.ex _ _ h)), List.getElem?_eq_getElem hl⟩
  stop := fun B' A' w' H' g R => ⟨xs, SqL.of (R.ext _ _ (g.ex _ _ h)), Nat.le_of_eq t.length⟩
  yld := fun i d B1 A1 w1 H1 x H2 hd g R y => by
    obtain ⟨e, k⟩ := y
    subst e
    obtain ⟨v, hv, av⟩ := t.get hd
    have hx := k xs (SqL.of (R.ext _ _ (g.ex _ _ h)))
    rw [hx] at hv
    cases hv
    exact ⟨B1, Gr.refl, R, g.at av⟩
theorem at_ints {K : KW} {B : Hp} {A : Ad} : ∀ ns : List Int, AtL K B A (ns.map V.int) (ns.map D.int)
  | [] => .nil
  | n :: ns => .cons (.int n) (at_ints ns)
theorem its_scr {a : Addr} {xs : List V} {ds : List D} (h : SqL K B a xs) (t : AtL K B A xs ds) : Its K B A H (Itl K a) ds where
  go := fun i B' A' w' H' hi g R => by
    have hl : i < xs.length := by rw [t.length]; exact hi
    exact ⟨xs, xs[i], ex_l R.ext (ex_l g.ex h), List.getElem?_eq_getElem hl⟩
  stop := fun B' A' w' H' g R => ⟨xs, ex_l R.ext (ex_l g.ex h), Nat.le_of_eq t.length⟩
  yld := fun i d B1 A1 w1 H1 x H2 hd g R y => by
    obtain ⟨e, k⟩ := y
    subst e
    obtain ⟨v, hv, av⟩ := t.get hd
    have hx := k xs (ex_l R.ext (ex_l g.ex h))
    rw [hx] at hv
    cases hv
    exact ⟨B1, Gr.refl, R, g.at av⟩
theorem its_tup {a : Addr} {xs : List V} {ds : List D} (h : SqT K B a xs) (t : AtL K B A xs ds) : Its K B A H (Itt K a) ds where
  go := fun i B' A' w' H' hi g R => by
    have hl : i < xs.length := by rw [t.length]; exact hi
    exact ⟨xs, xs[i], ex_t R.ext (ex_t g.ex h), List.getElem?_eq_getElem hl⟩
  stop := fun B' A' w' H' g R => ⟨xs, ex_t R.ext (ex_t g.ex h), Nat.le_of_eq t.length⟩
  yld := fun i d B1 A1 w1 H1 x H2 hd g R y => by
    obtain ⟨e, k⟩ := y
    subst e
    obtain ⟨v, hv, av⟩ := t.get hd
    have hx := k xs (ex_t R.ext (ex_t g.ex h))
    rw [hx] at hv
    cases hv
    exact ⟨B1, Gr.refl, R, g.at av⟩
/-- numbers lo, lo + 1, .. -/
def rangeL (lo : Int) (n : Nat) : List D := (List.range n).map fun i : Nat => D.int (lo + (i : Int))
theorem rangeL_length (lo : Int) (n : Nat) : (rangeL lo n).length = n := by unfold rangeL; rw [List.length_map, List.length_range]
theorem its_range {lo : Int} {n : Nat} : Its K B A H (Itr lo n) (rangeL lo n) where
  go := fun i B' A' w' H' hi g R => by
    rw [rangeL_length] at hi
    exact hi
  stop := fun B' A' w' H' g R => by
    show n ≤ (rangeL lo n).length
    rw [rangeL_length]
    exact Nat.le_refl _
  yld := fun i d B1 A1 w1 H1 x H2 hd g R y => by
    obtain ⟨e, k⟩ := y
    subst e k
    unfold rangeL at hd
    rw [List.getElem?_map] at hd
    cases q : (List.range n)[i]? with
    | none => rw [q] at hd; cases hd
    | some j =>
      rw [q] at hd
      obtain ⟨hl, e⟩ := List.getElem?_eq_some_iff.mp q
      rw [List.getElem_range] at e
      cases hd
      rw [← e]
      exact ⟨B1, Gr.refl, R, .int _⟩
end
/-- a tuple, or a list that is data -/
def iSeq (m : ME) : MI := fun δ w => (m δ w).bind fun d w1 => match d with
  | .tup ds => .ok ds w1
  | .lst ds => .ok ds w1
  | .scr ns => .ok (ns.map D.int) w1
  | _ => .stuck
def iRange1 (m : MA) : MI := fun δ w => (m δ w).bind fun ds w1 => match ds with
  | [.int j] => if -(2 ^ 62) ≤ j ∧ j < 2 ^ 62 then .ok (rangeL 0 j.toNat) w1 else .stuck
  | _ => .stuck
def iRange2 (m : MA) : MI := fun δ w => (m δ w).bind fun ds w1 => match ds with
  | [.int i, .int j] => if -(2 ^ 62) ≤ i ∧ i < 2 ^ 62 ∧ -(2 ^ 62) ≤ j ∧ j < 2 ^ 62 then .ok (rangeL i (j - i).toNat) w1 else .stuck
  | _ => .stuck
section
variable {X : Cx} {W : XW} {tg e : Expr} {me : ME} {p pos : Pos} {ma : MA}
theorem di_seq (he : PE X e (tE (kwOf X) W me)) : PI X tg e (tI (kwOf X) W (iSeq me)) := by
  refine ⟨fun pins s σ H R I h => ?_⟩
  have hq : tE (kwOf X) W me σ H fun x H1 => (∃ a, x = V.ref a ∧ (∃ xs, SqL X.K H1 a xs) ∧ R (Itl X.K a) H1) ∨ (∃ a, x = V.ref a ∧ (∃ xs, SqT X.K H1 a xs) ∧ R (Itt X.K a) H1) := by
    obtain ⟨B, A, w, δ, R0, E, h⟩ := h
    refine part R0 E h fun d w1 v B1 A1 H1 g R1 a h1 => ?_
    cases d with
    | tup ds =>
      cases a with
      | tup hs t => exact .inr ⟨_, rfl, ⟨_, ex_t R1.ext hs⟩, h1 _ B1 A1 H1 g R1 (its_tup hs t)⟩
      | ref ha => cases ha
    | lst ds =>
      cases a with
      | lst hs t => exact .inl ⟨_, rfl, ⟨_, SqL.of (R1.ext _ _ hs)⟩, h1 _ B1 A1 H1 g R1 (its_lst hs t)⟩
      | ref ha => cases ha
    | scr ns =>
      cases a with
      | scr hs => exact .inl ⟨_, rfl, ⟨_, ex_l R1.ext hs⟩, h1 _ B1 A1 H1 g R1 (its_scr hs (at_ints ns))⟩
      | ref ha => cases ha
    | _ => exact h1.elim
  refine thn (he.run pins s σ H _ I hq) fun v s1 ⟨x, H1, I1, r1, q1⟩ => ?_
  have here : ∀ {n : Nat} {b : Addr}, b ∈ [s1.heap.objs.size] → FpOk X pins H1 b := fun {n b} hb => by
    obtain rfl : b = s1.heap.objs.size := by simpa using hb
    exact I1.fpOk (Nat.le_refl _) (I1.hok.fresh (Nat.le_refl _))
  rcases q1 with ⟨a, rfl, ⟨xs, hs⟩, q⟩ | ⟨a, rfl, ⟨xs, hs⟩, q⟩
  · obtain rfl : v = Value.ref a := r1
    obtain ⟨its, rv, pl, hz⟩ := I1.list hs
    refine wpAny_pyIter_list pl.isList ?_
    exact ⟨s1.heap.objs.size, [s1.heap.objs.size], _, _, H1, rfl, I1.kept (t' := s1.toks) (fun b o e => Heap.get?_push_of_some _ e), turn_list a _, ⟨_, Heap.get?_push_size _ rfl, rfl, rfl⟩, fun b hb => here (n := 0) hb, q⟩
  · obtain rfl : v = Value.ref a := r1
    obtain ⟨its, rv, pl, hz⟩ := I1.tuple hs
    refine wpAny_pyIter_tuple (show s1.heap.IsTuple a its.toArray from pl) ?_
    exact ⟨s1.heap.objs.size, [s1.heap.objs.size], _, _, H1, rfl, I1.kept (t' := s1.toks) (fun b o e => Heap.get?_push_of_some _ e), turn_tuple a _, ⟨_, Heap.get?_push_size _ rfl, rfl, rfl⟩, fun b hb => here (n := 0) hb, q⟩
theorem di_range1 {a : Expr} (hm : X.mg "range" = none) (ha : PA X [a] (tAr (kwOf X) W ma)) (hg : Gl X "range" := by rfl) (hs : starEach [a] X.env = [(false, eval a X.env)] := by rfl) : PI X tg (.Call (.Name "range" p) [a] [] pos) (tI (kwOf X) W (iRange1 ma)) := by
  refine PI.weaken (pi_range1 hg hm ha hs) fun σ H R h => ?_
  obtain ⟨B, A, w, δ, R0, E, h⟩ := h
  refine partA R0 E h fun ds w1 vs B1 A1 H1 g R1 t h1 => ?_
  split at h1
  · cases t with
    | cons a t =>
      cases t
      cases a.int_inv
      split at h1
      case isFalse => exact h1.elim
      case isTrue hz => exact ⟨_, rfl, hz.1, hz.2, h1 _ B1 A1 H1 g R1 its_range⟩
  · exact h1.elim
theorem di_range2 {a b : Expr} (hm : X.mg "range" = none) (ha : PA X [a, b] (tAr (kwOf X) W ma)) (hg : Gl X "range" := by rfl) (hs : starEach [a, b] X.env = [(false, eval a X.env), (false, eval b X.env)] := by rfl) (hs2 : starEach [b] X.env = [(false, eval b X.env)] := by rfl) :
    PI X tg (.Call (.Name "range" p) [a, b] [] pos) (tI (kwOf X) W (iRange2 ma)) := by
  refine PI.weaken (pi_range2 hg hm ha hs hs2) fun σ H R h => ?_
  obtain ⟨B, A, w, δ, R0, E, h⟩ := h
  refine partA R0 E h fun ds w1 vs B1 A1 H1 g R1 t h1 => ?_
  split at h1
  · cases t with
    | cons a t =>
      cases t with
      | cons a2 t =>
        cases t
        cases a.int_inv
        cases a2.int_inv
        split at h1
        case isFalse => exact h1.elim
        case isTrue hz => exact ⟨_, _, rfl, hz, h1 _ B1 A1 H1 g R1 its_range⟩
  · exact h1.elim
end

/-! ### comprehensions -/
def wipeD (δ : Env) : List Nat → Env
  | [] => δ
  | v :: vs => (wipeD δ vs).set v none
theorem EnvAt.forget {K : KW} {B : Hp} {A : Ad} {σ : L2.St} {δ : Env} (h : EnvAt K B A σ δ) (i : Nat) : EnvAt K B A (σ.set i none) (δ.set i none) := by
  refine ⟨by rw [List.length_set, List.length_set, h.1], fun j e hj => ?_⟩
  by_cases z : i = j
  · rw [z] at hj
    have hl : j < δ.length := by
      have q := (List.getElem?_eq_some_iff.mp hj).1
      rw [List.length_set] at q
      exact q
    rw [List.getElem?_set_self hl] at hj
    cases hj
  · rw [List.getElem?_set_ne z] at hj ⊢
    exact h.2 j e hj
theorem EnvAt.wipe {K : KW} {B : Hp} {A : Ad} {σ : L2.St} {δ : Env} (h : EnvAt K B A σ δ) : ∀ vs : List Nat, EnvAt K B A (L2.wipe σ vs) (wipeD δ vs)
  | [] => h
  | v :: vs => (EnvAt.wipe h vs).forget v
/-- the run of a comprehension, each item by itself -/
def compD (g : MG) (t : MT) (e : ME) (vs : List Nat) (δ : Env) : List D → Wd → Res (List D)
  | [], w => .ok [] w
  | d :: ds, w => (g d (wipeD δ vs) w).bind fun δ1 w1 => (t δ1 w1).bind fun b w2 =>
    if b = true then (e δ1 w2).bind fun y w3 => (compD g t e vs δ ds w3).bind fun ys w4 => .ok (y :: ys) w4
    else compD g t e vs δ ds w2
def fComp (mi : MI) (g : MG) (t : MT) (e : ME) (vs : List Nat) : MF := fun δ w => (mi δ w).bind fun ds w1 => if ds.length ≤ 10000000 then compD g t e vs δ ds w1 else .stuck
def tYes_ : MT := fun _ w => .ok true w
theorem wipe_wipe (σ : L2.St) : ∀ vs : List Nat, L2.wipe (L2.wipe σ vs) vs = L2.wipe σ vs := by
  intro vs
  have key : ∀ (us : List Nat) (τ : L2.St), (∀ v ∈ us, v < τ.length → τ[v]? = some none) → L2.wipe τ us = τ := by
    intro us
    induction us with
    | nil => intro τ _; rfl
    | cons u us ih =>
      intro τ h
      show (L2.wipe τ us).set u none = τ
      rw [ih τ fun v hv => h v (List.mem_cons_of_mem _ hv)]
      by_cases hl : u < τ.length
      · have e := h u List.mem_cons_self hl
        refine List.ext_getElem? fun k => ?_
        by_cases z : u = k
        · rw [z, List.getElem?_set_self (by rw [← z]; exact hl), ← z, e]
        · rw [List.getElem?_set_ne z]
      · exact List.set_eq_of_length_le (Nat.le_of_not_lt hl)
  refine key vs _ ?_
  clear key
  induction vs with
  | nil => intro v hv; cases hv
  | cons u us ih =>
    intro v hv hl
    show ((L2.wipe σ us).set u none)[v]? = some none
    have hl' : v < (L2.wipe σ us).length := by
      have q : v < ((L2.wipe σ us).set u none).length := hl
      rw [List.length_set] at q
      exact q
    by_cases z : u = v
    · rw [z, List.getElem?_set_self hl']
    · rw [List.getElem?_set_ne z]
      refine ih v ?_ hl'
      rcases List.mem_cons.mp hv with q | q
      · exact absurd q.symm z
      · exact q
theorem Gr.loose_upd {B B1 : Hp} {A A1 : Ad} {H H1 : Hp} {p : Addr} {h : HO} (g : Gr B A H B1 A1 H1) (hp : H p = none) : Gr B A H B1 A1 (L2.upd H1 p h) :=
  ⟨g.ad, g.ex, fun a q => by
      by_cases z : a = p
      · rw [z, upd_same]; exact fun y => by cases y
      · rw [upd_ne z]; exact g.th a q,
    fun a o u e => by rw [upd_ne (ne_of_none e hp)]; exact g.fz a o u e,
    fun a o e h1 h2 => by
      obtain ⟨q1, q2, q3, q4⟩ := g.fr a o e h1 h2
      exact ⟨by rw [upd_ne (ne_of_none e hp)]; exact q1, q2, q3, q4⟩⟩
theorem tLc_of {K : KW} {mi : MI} {g : MG} {t : MT} {e : ME} {vs : List Nat} {σ : L2.St} {H : Hp} {Q : VK} (h : tF K X0 (fComp mi g t e vs) σ H Q) : tLc (tI K X0 mi) (tG K X0 vs g) (tTt K X0 t) (tE K X0 e) vs σ H Q := by
  obtain ⟨B0, A0, w0, δ0, R0, E0, h⟩ := h
  refine ⟨B0, A0, w0, δ0, R0, E0, Res.post_mono (Res.post_bind h) (fun ds wi hi J Bi Ai Hi gi Ri its => ?_) fun _ _ _ z => z⟩
  intro L hL
  split at hi
  case isFalse => exact hi.elim
  case isTrue hz =>
  have h0L : H L = none := by
    cases q : H L with
    | none => rfl
    | some o => exact absurd hL (gi.th L (by rw [q]; exact fun z => by cases z))
  refine ⟨fun i m H' => m = ds.length - i ∧ i ≤ ds.length ∧ ∃ B A w xs acc, Gr B0 A0 H B A H' ∧ Gr Bi Ai Hi B A H' ∧ Rep K B A w H' ∧ H' L = some (.lst xs) ∧ B L = none ∧ L ∉ A.M ∧ L ∉ A.N ∧ AtL K B A xs acc ∧ acc.length ≤ i ∧
      (compD g t e vs δ0 (ds.drop i) w).post (fun ys w' => FinF K B0 A0 H Q (acc ++ ys) w') (fun _ _ _ => False),
    ⟨ds.length, by simp, Nat.zero_le _, Bi, Ai, wi, [], [], gi.loose_upd h0L, Gr.refl.loose_upd hL, (Ri.loose hL).1, upd_same, Ri.bnone hL, (Ri.notin hL).1, (Ri.notin hL).2, .nil, Nat.le_refl _, ?_⟩, ?_⟩
  · rw [List.drop_zero]
    exact hi
  · rintro i m H1 ⟨rfl, hle, B, A, w, xs, acc, g0, gr, R, hx, hB, hM, hN, tt, hal, h⟩
    by_cases hlt : i < ds.length
    · refine .inr ⟨its.go i B A w H1 hlt gr R, fun H' => i + 1 ≤ ds.length ∧ ∃ B A w xs acc, Gr B0 A0 H B A H' ∧ Gr Bi Ai Hi B A H' ∧ Rep K B A w H' ∧ H' L = some (.lst xs) ∧ B L = none ∧ L ∉ A.M ∧ L ∉ A.N ∧ AtL K B A xs acc ∧ acc.length ≤ i + 1 ∧
        (compD g t e vs δ0 (ds.drop (i + 1)) w).post (fun ys w' => FinF K B0 A0 H Q (acc ++ ys) w') (fun _ _ _ => False), fun H' q => ⟨ds.length - (i + 1), by omega, rfl, q⟩, fun x H2 y => ?_⟩
      obtain ⟨B2, g2, R2, a2⟩ := its.yld i ds[i] B A w H1 x H2 (List.getElem?_eq_getElem hlt) gr R y
      rw [List.drop_eq_getElem_cons hlt] at h
      have h' : ((g ds[i] (wipeD δ0 vs) w).bind fun δ1 w1 => (t δ1 w1).bind fun b w2 =>
        if b = true then (e δ1 w2).bind fun y w3 => (compD g t e vs δ0 (ds.drop (i + 1)) w3).bind fun ys w4 => .ok (y :: ys) w4
        else compD g t e vs δ0 (ds.drop (i + 1)) w2).post (fun ys w' => FinF K B0 A0 H Q (acc ++ ys) w') (fun _ _ _ => False) := h
      have keepL : ∀ {B' : Hp} {A' : Ad} {H' : Hp}, Gr B A H1 B' A' H' → H' L = some (.lst xs) ∧ B' L = none ∧ L ∉ A'.M ∧ L ∉ A'.N := fun {B' A' H'} gg => by
        obtain ⟨q1, q2, q3, q4⟩ := gg.fr L _ hx hM hN
        exact ⟨q1, q2.trans hB, q3, q4⟩
      have E2 : EnvAt K B2 A (L2.wipe σ vs) (wipeD δ0 vs) := ((g0.trans g2).env E0).wipe vs
      refine ⟨B2, A, w, wipeD δ0 vs, ds[i], R2, E2, a2, Res.post_mono (Res.post_bind h') (fun δ3 w3 h3 σ3 B3 A3 H3 g3 R3 E3 wp => ⟨by rw [wp, wipe_wipe], ?_⟩) fun _ _ _ z => z⟩
      refine ⟨B3, A3, w3, δ3, R3, E3, Res.post_mono (Res.post_bind h3) (fun b w4 h4 B4 A4 H4 g4 R4 => ?_) fun _ _ _ z => z⟩
      have g14 := (g2.trans g3).trans g4
      cases b with
      | false =>
        obtain ⟨q1, q2, q3, q4⟩ := keepL g14
        exact ⟨hlt, B4, A4, w4, xs, acc, g0.trans g14, gr.trans g14, R4, q1, q2, q3, q4, tt.mono g14.ex g14.ad, Nat.le_succ_of_le hal, h4⟩
      | true =>
        have h4' : ((e δ3 w4).bind fun y w3 => (compD g t e vs δ0 (ds.drop (i + 1)) w3).bind fun ys w4 => .ok (y :: ys) w4).post (fun ys w' => FinF K B0 A0 H Q (acc ++ ys) w') (fun _ _ _ => False) := h4
        show tE K X0 e σ3 H4 _
        refine ⟨B4, A4, w4, δ3, R4, g4.env E3, Res.post_mono (Res.post_bind h4') (fun dy w5 h5 yv B5 A5 H5 g5 R5 a5 => ?_) fun _ _ _ z => z⟩
        have g15 := g14.trans g5
        obtain ⟨q1, q2, q3, q4⟩ := keepL g15
        have t5 := tt.mono g15.ex g15.ad
        have hlen : xs.length < sizeLine := by
          rw [tt.length, sizeLine_eq]
          omega
        refine ⟨xs, q1, hlen, hlt, B5, A5, w5, xs ++ [yv], acc ++ [dy], (g0.trans g15).loose_upd h0L, (gr.trans g15).loose_upd hL, R5.loose_upd q1 q2 q3 q4 (fun _ z => by cases z), upd_same, q2, q3, q4, t5.append (.cons a5 .nil), by rw [List.length_append, List.length_singleton]; omega, ?_⟩
        refine Res.post_mono (Res.post_bind h5) (fun ys w6 h6 => ?_) fun _ _ _ z => z
        rw [List.append_assoc]
        exact h6
    · have ei : i = ds.length := by omega
      subst ei
      rw [List.drop_length] at h
      have h' : FinF K B0 A0 H Q (acc ++ []) w := h
      rw [List.append_nil] at h'
      exact .inl ⟨its.stop B A w H1 gr R, h' L xs B A H1 g0 R h0L hx hB hM hN tt⟩
section
variable {X : Cx} {elt tg iter : Expr} {ifs : List Expr} {scope : Scope} {pos : Pos} {mi : MI} {g : MG} {t : MT} {e : ME}
/-- [elt for tg in iter if ..] -/
theorem df_comp (own : List (Str × Nat)) (hc : X.calm = true) (hN : X.N.Nodup) (hi : PI X tg iter (tI (kwOf X) X0 mi)) (ok : BlkOk X.N X.env.scope scope own)
    (hg : ∀ (s : Shared) (H : Hp) (C : Addr) (cl : List (Str × Addr)) (fp : List Addr), PG (X.blk s H scope (compEnvC scope cl C X.env) fp) tg (tG (kwOf X) X0 (own.map (·.2)) g))
    (ht : ∀ (s : Shared) (H : Hp) (C : Addr) (cl : List (Str × Addr)) (fp : List Addr), PTs (X.blk s H scope (compEnvC scope cl C X.env) fp) ifs (tTt (kwOf X) X0 t))
    (he : ∀ (s : Shared) (H : Hp) (C : Addr) (cl : List (Str × Addr)) (fp : List Addr), PE (X.blk s H scope (compEnvC scope cl C X.env) fp) elt (tE (kwOf X) X0 e))
    (hs : ∀ x, foldedSetIterable iter X.env x = pure x := by intro _; rfl) : PE X (.ListComp elt [⟨tg, iter, ifs, 0⟩] scope pos) (tF (kwOf X) X0 (fComp mi g t e (own.map (·.2)))) :=
  PE.weaken (pe_lc hc hN hi ok hg ht he hs) fun σ H Q h => tLc_of h
theorem dts_nil {W : XW} : PTs X [] (tTt (kwOf X) W tYes_) := ⟨fun pins s σ H Q I h => pts_nil.run pins s σ H Q I (by
  obtain ⟨B, A, w, δ, R, E, h⟩ := h
  exact h B A H Gr.refl R)⟩
end
end DP

set_option Elab.async false
set_option linter.all false
set_option maxRecDepth 100000
set_option maxHeartbeats 2000000
/-! in, stores, methods of lists and dicts. -/
namespace DP
open PySem L2 PySem.Spec PyProof.Rows

/-! ### in -/
def D.flat : D → Bool
  | .non => true
  | .bl _ => true
  | .int _ => true
  | .str _ => true
  | _ => false
def eqF : D → D → Bool
  | .non, .non => true
  | .bl a, .bl b => a == b
  | .bl a, .int b => (if a then 1 else 0) == b
  | .int a, .bl b => a == (if b then 1 else 0)
  | .int a, .int b => a == b
  | .str a, .str b => a == b
  | _, _ => false
section
variable {K : KW} {B : Hp} {A : Ad}
theorem At.flat {v : V} {d : D} (h : At K B A v d) (f : d.flat = true) : flatV v = true ∧ ∀ {u : V} {e : D}, At K B A u e → e.flat = true → eqV u v = eqF e d := by
  cases d with
  | non =>
    cases h.non_inv
    refine ⟨rfl, fun {u e} a g => ?_⟩
    cases e with
    | non => cases a.non_inv; rfl
    | bl _ => cases a.bl_inv; rfl
    | int _ => cases a.int_inv; rfl
    | str _ => cases a.str_inv; rfl
    | _ => cases g
  | bl b =>
    cases h.bl_inv
    refine ⟨rfl, fun {u e} a g => ?_⟩
    cases e with
    | non => cases a.non_inv; rfl
    | bl _ => cases a.bl_inv; rfl
    | int _ => cases a.int_inv; rfl
    | str _ => cases a.str_inv; rfl
    | _ => cases g
  | int b =>
    cases h.int_inv
    refine ⟨rfl, fun {u e} a g => ?_⟩
    cases e with
    | non => cases a.non_inv; rfl
    | bl _ => cases a.bl_inv; rfl
    | int _ => cases a.int_inv; rfl
    | str _ => cases a.str_inv; rfl
    | _ => cases g
  | str b =>
    cases h.str_inv
    refine ⟨rfl, fun {u e} a g => ?_⟩
    cases e with
    | non => cases a.non_inv; rfl
    | bl _ => cases a.bl_inv; rfl
    | int _ => cases a.int_inv; rfl
    | str _ => cases a.str_inv; rfl
    | _ => cases g
  | _ => cases f
theorem AtL.flatAll : ∀ {vs : List V} {ds : List D}, AtL K B A vs ds → ds.all D.flat = true → vs.all flatV = true
  | _, _, .nil, _ => rfl
  | _, _, .cons h t, f => by
    rw [List.all_cons, Bool.and_eq_true] at f
    rw [List.all_cons, (h.flat f.1).1, AtL.flatAll t f.2]
    rfl
theorem AtL.inV {x : V} {d : D} (hx : At K B A x d) (fx : d.flat = true) : ∀ {vs : List V} {ds : List D}, AtL K B A vs ds → ds.all D.flat = true → L2.inV x vs = ds.any fun e => eqF e d
  | _, _, .nil, _ => rfl
  | _, _, .cons h t, f => by
    rw [List.all_cons, Bool.and_eq_true] at f
    have ih := AtL.inV hx fx t f.2
    unfold L2.inV at ih ⊢
    rw [List.any_cons, List.any_cons, ih, (hx.flat fx).2 h f.1]
end
def opInD (neg : Bool) (dx dy : D) (w : Wd) : Res D := match dKof w dy, keyD dx with
  | some kvs, some k => .ok (.bl (if neg then !(valD kvs k).isSome else (valD kvs k).isSome)) w
  | _, _ => .stuck
def opInS (neg : Bool) (dx dy : D) (w : Wd) : Res D := match seqOf w dy with
  | some xs => if (dx.flat && xs.all D.flat) = true then .ok (.bl (if neg then !xs.any fun e => eqF e dx else xs.any fun e => eqF e dx)) w else .stuck
  | none => opInD neg dx dy w
def opIn (neg : Bool) (dx dy : D) (w : Wd) : Res D := match dx, dy with
  | .str x, .str z => .ok (.bl (if neg then !(!(Builtin.Str.occurrences z x 0 z.length 1).isEmpty) else !(Builtin.Str.occurrences z x 0 z.length 1).isEmpty)) w
  | .str z, .gd ks ds => .ok (.bl (if neg then !((ks.zip ds).lookup z).isSome else ((ks.zip ds).lookup z).isSome)) w
  | dx, dy => opInS neg dx dy w
def rInA (K : KW) (neg : Bool) : R2 := fun x y H Q => (∃ i j, x = .str i ∧ y = .str j ∧ Q (.bl (if neg then !(!(Builtin.Str.occurrences j i 0 j.length 1).isEmpty) else !(Builtin.Str.occurrences j i 0 j.length 1).isEmpty)) H) ∨
  (∃ (d : Addr) (es : Array DictEntry) (n : Nat) (z : Str) (r : Option Value), KDict K.K K.w d es n ∧ x = .str z ∧ y = .ref d ∧ PySem.W.nsIn K.K d z = some r ∧ Q (.bl (if neg then !r.isSome else r.isSome)) H) ∨
  rIn K neg x y H Q ∨ (∃ a o, y = .ref a ∧ DGet H a x o ∧ Q (.bl (if neg then !o.isSome else o.isSome)) H)
theorem op_inA {X : Cx} (hu : X.A.units + 1 < cLine) : OpR X (compareOp .In) (rInA (kwOf X) false) := fun pins s σ H x y v u Q I rx ry h => by
  rcases h with h | ⟨d, es, n, z, r, D, h⟩ | h | ⟨a, o, rfl, g, q⟩
  · exact op_in_str pins s σ H x y v u Q I rx ry h
  · exact op_in_kd D pins s σ H x y v u Q I rx ry ⟨z, r, h⟩
  · exact op_in_seq pins s σ H x y v u Q I rx ry h
  · obtain rfl : u = Value.ref a := ry
    exact d_in hu I g rx fun s' I' => ⟨.bl o.isSome, H, I', rfl, q⟩
theorem op_notInA {X : Cx} (hu : X.A.units + 1 < cLine) : OpR X (compareOp .NotIn) (rInA (kwOf X) true) := fun pins s σ H x y v u Q I rx ry h => by
  rcases h with h | ⟨d, es, n, z, r, D, h⟩ | h | ⟨a, o, rfl, g, q⟩
  · exact op_notin_str pins s σ H x y v u Q I rx ry h
  · exact op_notIn_kd D pins s σ H x y v u Q I rx ry ⟨z, r, h⟩
  · exact op_notIn_seq pins s σ H x y v u Q I rx ry h
  · obtain rfl : u = Value.ref a := ry
    exact d_notIn hu I g rx fun s' I' => ⟨.bl (!o.isSome), H, I', rfl, q⟩
theorem zip_lookup_none {α : Type} : ∀ {ks : List Str} {us : List Value} {ds : List α} {z : Str}, ks.length = us.length → us.length = ds.length → ((ks.zip ds).lookup z).isSome = ((ks.zip us).lookup z).isSome
  | [], [], [], _, _, _ => rfl
  | k :: ks, u :: us, d :: ds, z, h1, h2 => by
    rw [List.zip_cons_cons, List.zip_cons_cons, List.lookup_cons, List.lookup_cons]
    by_cases q : (z == k) = true
    · rw [q]; rfl
    · rw [Bool.not_eq_true] at q
      rw [q]
      exact zip_lookup_none (Nat.succ.inj h1) (Nat.succ.inj h2)
theorem od_in {K : KW} {neg : Bool} : OpD K (rInA K neg) (opIn neg) := by
  intro B A w H x y dx dy Q Ee R hx hy h
  unfold opIn at h
  split at h
  · cases hx.str_inv
    cases hy.str_inv
    exact .inl ⟨_, _, rfl, rfl, FinD.ret h R (.bl _)⟩
  · cases hx.str_inv
    rename_i z ks ds
    cases hy with
    | ref ha => cases ha
    | gd kd rv t =>
      obtain ⟨es, n, kk⟩ := kd.dt
      refine .inr (.inl ⟨_, es, n, z, _, kk, rfl, rfl, kd.at_ z, ?_⟩)
      rw [← zip_lookup_none (ds := ds) kd.ln (by rw [← t.length, ← rv.length])]
      exact FinD.ret h R (.bl _)
  · unfold opInS at h
    split at h
    · rename_i xs e
      split at h
      case isFalse => exact h.elim
      case isTrue hf =>
        rw [Bool.and_eq_true] at hf
        obtain ⟨p, us, rfl, q1, t1⟩ := R.seqAt hy e
        refine .inr (.inr (.inl ⟨p, us, rfl, q1, (hx.flat hf.1).1, t1.flatAll hf.2, ?_⟩))
        rw [t1.inV hx hf.1 hf.2]
        exact FinD.ret h R (.bl _)
    · unfold opInD at h
      split at h
      · rename_i kvs k e1 e2
        obtain ⟨a, vs, rfl, q1, q2, _⟩ := R.dKAt hy e1
        refine .inr (.inr (.inr ⟨a, valV vs k, rfl, .inl ⟨vs, k, q1, hx.key e2, rfl⟩, ?_⟩))
        have e3 : (valV vs k).isSome = (valD kvs k).isSome := by
          cases q : valD kvs k with
          | none => rw [(q2.val k).2 q]; rfl
          | some d =>
            obtain ⟨v, z, _⟩ := (q2.val k).1 d q
            rw [z]; rfl
        rw [e3]
        exact FinD.ret h R (.bl _)
      · exact h.elim

/-! ### o[i] = v -/
/-- may be kept in the object named by o -/
def cln (o d : D) : Bool := match o with
  | .loc _ => d.cl
  | _ => true
/-- a result without a value: the world behind it -/
def opPut (o i d : D) (w : Wd) : Res Unit := match w.get o with
  | some (.lst xs) => (match i with
    | .int k => (match ixN xs.length k with
      | some j => if cln o d = true then .ok () (w.put o (.lst (xs.set j d))) else .stuck
      | none => .stuck)
    | _ => .stuck)
  | some (.dK kvs) => (match keyD i with
    | some k => if cln o d = true ∧ kvs.length < sizeLine then .ok () (w.put o (.dK (putD kvs k d))) else .stuck
    | none => .stuck)
  | _ => .stuck
def rSetA : TSet := fun o i v H Q => rSetL o i v H Q ∨ ∃ a H', o = .ref a ∧ DPut H a i v H' ∧ Q H'
theorem pset_all {X : Cx} (hu : X.A.units + 1 < cLine) : PSet X rSetA := fun pins s σ H o i v ov iv u Q I ro ri rv h => by
  rcases h with h | ⟨a, H', rfl, g, q⟩
  · exact set_list pins s σ H o i v ov iv u Q I ro ri rv h
  · obtain rfl : ov = Value.ref a := ro
    exact d_setItem hu I g ri rv fun s' I' => ⟨H', I', q⟩
theorem D.clL_set {ds : List D} {d : D} (h : D.clL ds = true) (hd : d.cl = true) : ∀ (n : Nat), D.clL (ds.set n d) = true := by
  intro n
  induction ds generalizing n with
  | nil => exact h
  | cons x xs ih =>
    rw [D.clL, Bool.and_eq_true] at h
    cases n with
    | zero => rw [List.set_cons_zero, D.clL, hd, h.2]; rfl
    | succ n => rw [List.set_cons_succ, D.clL, h.1, ih h.2]; rfl
theorem D.clL_app {xs ys : List D} : D.clL (xs ++ ys) = (D.clL xs && D.clL ys) := by
  induction xs with
  | nil => rw [List.nil_append, D.clL]; rfl
  | cons x xs ih => rw [List.cons_append, D.clL, D.clL, ih, Bool.and_assoc]
theorem Rep.clOf {K : KW} {B : Hp} {A : Ad} {w : Wd} {H : Hp} (R : Rep K B A w H) {n : Nat} {o : SO} (h : w.get (.loc n) = some o) : o.cl = true := R.cs o (List.mem_of_getElem? (show w.s[n]? = some o from h))
theorem get_at {K : KW} {B : Hp} {A : Ad} {w : Wd} {H : Hp} {v : V} {d : D} {o : SO} (R : Rep K B A w H) (h : At K B A v d) (hg : w.get d = some o) : ∃ a, v = .ref a ∧ A.at d = some a := by
  cases h with
  | ref ha => exact ⟨_, rfl, ha⟩
  | _ => cases hg
theorem put_ok {K : KW} {B : Hp} {A : Ad} {w : Wd} {H : Hp} {o i v : V} {do_ di dv : D} {Q : Hp → Prop} {Ee : Str → List D → List SO → Prop} (R : Rep K B A w H) (ho : At K B A o do_) (hi : At K B A i di) (hv : At K B A v dv)
    (h : (opPut do_ di dv w).post (fun _ w' => ∀ B' A' H', Gr B A H B' A' H' → Rep K B' A' w' H' → Q H') Ee) : rSetA o i v H Q := by
  unfold opPut at h
  split at h
  · rename_i xs hg
    obtain ⟨a, rfl, ha⟩ := get_at R ho hg
    rcases R.ob do_ _ a hg ha with ⟨z, _⟩ | ⟨hB, us, hH, t⟩
    · cases z
    split at h
    · rename_i k
      cases hi.int_inv
      split at h
      · rename_i j ej
        split at h
        case isFalse => exact h.elim
        case isTrue hc =>
          obtain ⟨R2, g2⟩ := R.upd hg ha (h' := .lst (us.set j v)) (o' := .lst (xs.set j dv)) hH (fun _ z => by cases z) (fun _ _ z => by cases z) hB ⟨_, upd_same, t.set hv j⟩ (fun n e => by
            subst e
            exact D.clL_set (R.clOf hg) hc j)
          exact .inl ⟨a, us, k, j, rfl, rfl, hH, by rw [t.length]; exact ej, h B A _ g2 R2⟩
      · exact h.elim
    · exact h.elim
  · rename_i kvs hg
    obtain ⟨a, rfl, ha⟩ := get_at R ho hg
    rcases R.ob do_ _ a hg ha with ⟨z, _⟩ | ⟨hB, us, hH, t⟩
    · cases z
    split at h
    · rename_i k ek
      split at h
      case isFalse => exact h.elim
      case isTrue hc =>
        obtain ⟨R2, g2⟩ := R.upd hg ha (h' := .dK (putK us k v)) (o' := .dK (putD kvs k dv)) hH (fun _ z => by cases z) (fun _ _ z => by cases z) hB ⟨_, upd_same, t.put k hv⟩ (fun n e => by
          subst e
          exact putD_cl (R.clOf hg) hc.1)
        exact .inr ⟨a, _, rfl, .inl ⟨us, k, hH, hi.key ek, by rw [t.len]; exact hc.2, rfl⟩, h B A _ g2 R2⟩
    · exact h.elim
  · exact h.elim
def gSub_ (mo mi : ME) : MG := fun d δ w => (mo δ w).bind fun o w1 => (mi δ w1).bind fun i w2 => (opPut o i d w2).bind fun _ w3 => .ok δ w3
section
variable {X : Cx} {W : XW} {vs : List Nat} {pos : Pos} {o i e : Expr} {mo mi me : ME}
theorem dg_sub (hu : X.A.units + 1 < cLine) (ho : PE X o (tE (kwOf X) W mo)) (hi : PE X i (tE (kwOf X) W mi))
    (ha : ∀ v, assign (.Subscript o i pos) X.env v = (do
      let ov ← holding [v] (eval o X.env)
      let iv ← holding [v, ov] (eval i X.env)
      standAt pos
      holding [v, ov, iv] (setItem ov iv v)
      release [v, ov, iv] []) := by intro _; rfl) : PG X (.Subscript o i pos) (tG (kwOf X) W vs (gSub_ mo mi)) := by
  refine PG.weaken (pg_sub ho hi (pset_all hu) ha) fun v σ H Q h => ?_
  obtain ⟨B, A, w, δ, d, R, E, a, h⟩ := h
  refine part R E h fun dq w1 ov B1 A1 H1 g1 R1 a1 h1 => ?_
  refine part R1 (g1.env E) h1 fun di w2 iv B2 A2 H2 g2 R2 a2 h2 => ?_
  refine put_ok R2 (g2.at a1) a2 ((g1.trans g2).at a) (Res.post_mono (Res.post_bind h2) (fun _ w3 h3 B3 A3 H3 g3 R3 => ?_) fun _ _ _ z => z)
  have g := (g1.trans g2).trans g3
  exact h3 σ B3 A3 H3 g R3 (g.env E) rfl
end

/-! ### methods of lists -/
def opAppend (o : D) (ds : List D) (w : Wd) : Res D := match w.get o, ds with
  | some (.lst xs), [d] => if xs.length < sizeLine ∧ cln o d = true then .ok .non (w.put o (.lst (xs ++ [d]))) else .stuck
  | _, _ => .stuck
def opPop (o : D) (ds : List D) (w : Wd) : Res D := match w.get o, ds with
  | some (.lst xs), [] => (match xs[xs.length - 1]? with
    | some d => .ok d (w.put o (.lst xs.dropLast))
    | none => .stuck)
  | _, _ => .stuck
def clnL (o : D) (ds : List D) : Bool := match o with
  | .loc _ => D.clL ds
  | _ => true
def opExtend (o : D) (ds : List D) (w : Wd) : Res D := match w.get o, ds with
  | some (.lst xs), [d] => (match lstOf w d with
    | some ys => if xs.length + ys.length ≤ sizeLine ∧ clnL o ys = true then .ok .non (w.put o (.lst (xs ++ ys))) else .stuck
    | none => .stuck)
  | _, _ => .stuck
/-- a method by values -/
def MtD (K : KW) (T : String) (r : V → List V → Hp → VK → Prop) (op : D → List D → Wd → Res D) : Prop := ∀ {B : Hp} {A : Ad} {w : Wd} {H : Hp} {x : V} {vs : List V} {dx : D} {ds : List D} {Q : VK} {Ee : Str → List D → List SO → Prop},
  Rep K B A w H → At K B A x dx → AtL K B A vs ds → (op dx ds w).post (FinD K B A H Q) Ee → r x vs H Q
/-- the receiver is of the type T -/
def isT (T : String) (d : D) (w : Wd) : Bool := match d with
  | .str _ => T == "str"
  | .lst _ => T == "list"
  | .loc n => (match w.s[n]? with
    | some (.lst _) => T == "list"
    | some (.dK _) => T == "dict"
    | _ => false)
  | .own n => (match w.l[n]? with
    | some (.lst _) => T == "list"
    | some (.dK _) => T == "dict"
    | _ => false)
  | _ => false
theorem isT_ok {K : KW} {B : Hp} {A : Ad} {w : Wd} {H : Hp} {x : V} {d : D} {T : String} (R : Rep K B A w H) (h : At K B A x d) (e : isT T d w = true) : tyV K.K T x H := by
  have stored : ∀ (o : SO) (a : Addr) (d : D), w.get d = some o → A.at d = some a → (match o with | .lst _ => T == "list" | .dK _ => T == "dict" | _ => false) = true → tyV K.K T (.ref a) H := by
    intro o a d hg ha e
    rcases R.ob d o a hg ha with ⟨z, _⟩ | ⟨hB, z⟩
    · subst z; cases e
    · cases o with
      | lst ds =>
        obtain ⟨xs, z1, _⟩ := z
        exact .inl ⟨by simpa using e, xs, SqL.of z1⟩
      | dK kvs =>
        obtain ⟨xs, z1, _⟩ := z
        exact .inr (.inr (.inl ⟨by simpa using e, .inl ⟨xs, z1⟩⟩))
      | _ => cases e
  cases h with
  | str x => exact (show T = "str" by simpa [isT] using e)
  | lst hb t => exact .inl ⟨by simpa [isT] using e, _, SqL.of (R.ext _ _ hb)⟩
  | ref ha =>
    cases d with
    | loc n =>
      have e' : (match w.s[n]? with | some (.lst _) => T == "list" | some (.dK _) => T == "dict" | _ => false) = true := e
      cases q : w.s[n]? with
      | none => rw [q] at e'; cases e'
      | some o =>
        rw [q] at e'
        refine stored o _ (.loc n) q ha ?_
        cases o <;> exact e'
    | own n =>
      have e' : (match w.l[n]? with | some (.lst _) => T == "list" | some (.dK _) => T == "dict" | _ => false) = true := e
      cases q : w.l[n]? with
      | none => rw [q] at e'; cases e'
      | some o =>
        rw [q] at e'
        refine stored o _ (.own n) q ha ?_
        cases o <;> exact e'
    | _ => cases ha
  | _ => cases e
def eMt (T : String) (op : D → List D → Wd → Res D) (mo : ME) (ma : MA) : ME := fun δ w => (mo δ w).bind fun o w1 => if isT T o w1 = true then (ma δ w1).bind fun ds w2 => op o ds w2 else .stuck
section
variable {X : Cx} {W : XW} {o e : Expr} {es : List Expr} {mo : ME} {ma : MA} {T id : String} {name : Str} {apos cpos : Pos} {r : V → List V → Hp → VK → Prop} {op : D → List D → Wd → Res D}
theorem de_mt (pa : PlainAttrs T) (slot : Slot T name id) (hty : typeOf (.builtin id) = pure (.type "method_descriptor")) (hm : MtR X id r) (hd : MtD (kwOf X) T r op) (ho : PE X o (tE (kwOf X) W mo)) (ha : PA X (e :: es) (tAr (kwOf X) W ma))
    (hbase : attributeBase o name X.env (eval o X.env) = eval o X.env := by rfl)
    (hfew : ((backTo cpos (starEach (e :: es) X.env)).all (fun x => !x.1) && (backToKw cpos (keywordEach [] X.env)).all (fun x => x.1.isSome)
      && decide ((e :: es).length + ([] : List Keyword).length + (if ([] : List Keyword).isEmpty then 0 else 1) < 30)) = true := by rfl)
    (hline : (apos.endLine == cpos.line) = true := by rfl) (hs : starEach (e :: es) X.env = (false, eval e X.env) :: starEach es X.env := by rfl) (hplain : (backTo cpos (starEach es X.env)).any (·.1) = false := by rfl) :
    PE X (.Call (.Attribute o name apos) (e :: es) [] cpos) (tE (kwOf X) W (eMt T op mo ma)) := by
  refine PE.weaken (pe_bm pa slot hty hm ho ha hbase hfew hline hs hplain) fun σ H Q h => ?_
  obtain ⟨B, A, w, δ, R, E, h⟩ := h
  refine part R E h fun d w1 v B1 A1 H1 g1 R1 a1 h1 => ?_
  split at h1
  case isFalse => exact h1.elim
  case isTrue ht =>
    refine ⟨isT_ok R1 a1 ht, ?_⟩
    refine partA R1 (g1.env E) h1 fun ds w2 vs B2 A2 H2 g2 R2 a2 h2 => ?_
    exact hd R2 (g2.at a1) a2 (post_shift h2 (g1.trans g2))
theorem de_mt0 (pa : PlainAttrs T) (slot : Slot T name id) (hty : typeOf (.builtin id) = pure (.type "method_descriptor")) (hm : MtR X id r) (hd : MtD (kwOf X) T r op) (ho : PE X o (tE (kwOf X) W mo))
    (hbase : attributeBase o name X.env (eval o X.env) = eval o X.env := by rfl) (hline : (apos.endLine == cpos.line) = true := by rfl) : PE X (.Call (.Attribute o name apos) [] [] cpos) (tE (kwOf X) W (eMt T op mo aNil)) := by
  refine PE.weaken (pe_bm0 pa slot hty hm ho hbase hline) fun σ H Q h => ?_
  obtain ⟨B, A, w, δ, R, E, h⟩ := h
  refine part R E h fun d w1 v B1 A1 H1 g1 R1 a1 h1 => ?_
  split at h1
  case isFalse => exact h1.elim
  case isTrue ht => exact ⟨isT_ok R1 a1 ht, hd R1 a1 .nil (post_shift h1 g1)⟩
end
theorem md_append {K : KW} : MtD K "list" rAppend opAppend := by
  intro B A w H x vs dx ds Q Ee R hx t h
  unfold opAppend at h
  split at h
  · rename_i xs d hg
    obtain ⟨a, rfl, ha⟩ := get_at R hx hg
    rcases R.ob dx _ a hg ha with ⟨z, _⟩ | ⟨hB, us, hH, tt⟩
    · cases z
    split at h
    case isFalse => exact h.elim
    case isTrue hc =>
      cases t with
      | cons a1 t =>
        cases t
        obtain ⟨R2, g2⟩ := R.upd hg ha (h' := .lst (us ++ [_])) (o' := .lst (xs ++ [d])) hH (fun _ z => by cases z) (fun _ _ z => by cases z) hB ⟨_, upd_same, tt.append (.cons a1 .nil)⟩ (fun n e => by
          subst e
          show D.clL (xs ++ [d]) = true
          have q0 : D.clL xs = true := R.clOf hg
          rw [D.clL_app, q0, D.clL, D.clL]
          have q : d.cl = true := hc.2
          rw [q]; rfl)
        exact ⟨a, us, _, rfl, rfl, hH, by rw [tt.length]; exact hc.1, h _ B A _ g2 R2 .non⟩
  · exact h.elim
theorem D.clL_drop {ds : List D} (h : D.clL ds = true) : D.clL ds.dropLast = true := by
  induction ds with
  | nil => exact h
  | cons x xs ih =>
    cases xs with
    | nil => rfl
    | cons y ys =>
      rw [D.clL, Bool.and_eq_true] at h
      show D.clL (x :: (y :: ys).dropLast) = true
      rw [D.clL, h.1, ih h.2]
      rfl
theorem md_pop {K : KW} : MtD K "list" rPop opPop := by
  intro B A w H x vs dx ds Q Ee R hx t h
  unfold opPop at h
  split at h
  · rename_i xs hg
    obtain ⟨a, rfl, ha⟩ := get_at R hx hg
    rcases R.ob dx _ a hg ha with ⟨z, _⟩ | ⟨hB, us, hH, tt⟩
    · cases z
    split at h
    · rename_i d e
      cases t
      obtain ⟨v, e1, e2⟩ := tt.get e
      obtain ⟨R2, g2⟩ := R.upd hg ha (h' := .lst us.dropLast) (o' := .lst xs.dropLast) hH (fun _ z => by cases z) (fun _ _ z => by cases z) hB ⟨_, upd_same, tt.dropLast⟩ (fun n e => by
        subst e
        exact D.clL_drop (R.clOf hg))
      exact ⟨a, us, v, rfl, rfl, hH, by rw [tt.length]; exact e1, h _ B A _ g2 R2 e2⟩
    · exact h.elim
  · exact h.elim
theorem md_extend {K : KW} : MtD K "list" rExtend opExtend := by
  intro B A w H x vs dx ds Q Ee R hx t h
  unfold opExtend at h
  split at h
  · rename_i xs d hg
    obtain ⟨a, rfl, ha⟩ := get_at R hx hg
    rcases R.ob dx _ a hg ha with ⟨z, _⟩ | ⟨hB, us, hH, tt⟩
    · cases z
    cases t with
    | cons a1 t =>
      cases t
      split at h
      · rename_i ys e
        obtain ⟨b, zs, rfl, hb, tz⟩ := R.lstAt a1 e
        split at h
        case isFalse => exact h.elim
        case isTrue hc =>
          obtain ⟨R2, g2⟩ := R.upd hg ha (h' := .lst (us ++ zs)) (o' := .lst (xs ++ ys)) hH (fun _ z => by cases z) (fun _ _ z => by cases z) hB ⟨_, upd_same, tt.append tz⟩ (fun n e => by
            subst e
            show D.clL (xs ++ ys) = true
            have q0 : D.clL xs = true := R.clOf hg
            rw [D.clL_app, q0]
            have q : D.clL ys = true := hc.2
            rw [q]; rfl)
          exact ⟨a, b, us, zs, rfl, rfl, hH, hb, by rw [tt.length, tz.length]; exact hc.1, h _ B A _ g2 R2 .non⟩
      · exact h.elim
  · exact h.elim
end DP

set_option Elab.async false
set_option linter.all false
set_option maxRecDepth 100000
set_option maxHeartbeats 2000000
/-! New dicts; dicts that are walked; comprehensions that are named. -/
namespace DP
open PySem L2 PySem.Spec PyProof.Rows

/-- a new dict, named by nobody yet -/
abbrev FinK (K : KW) (B : Hp) (A : Ad) (H : Hp) (Q : VK) : List (Key × D) → Wd → Prop := fun kvs w' => ∀ p xs B' A' H', Gr B A H B' A' H' → Rep K B' A' w' H' → H p = none → H' p = some (.dK xs) → B' p = none → p ∉ A'.M → p ∉ A'.N → AtK K B' A' xs kvs → Q (.ref p) H'
abbrev MK := Env → Wd → Res (List (Key × D))
def tK (K : KW) (W : XW) (m : MK) : TE := fun σ H Q => ∃ B A w δ, Rep K B A w H ∧ EnvAt K B A σ δ ∧ (m δ w).post (FinK K B A H Q) (W.P B A H)
def eOwnK (m : MK) : ME := fun δ w => (m δ w).bind fun kvs w1 => .ok (.own w1.l.length) ⟨w1.s, w1.l ++ [.dK kvs]⟩
def eLocK (m : MK) : ME := fun δ w => (m δ w).bind fun kvs w1 => if (kvs.all fun p => p.2.cl) = true then .ok (.loc w1.s.length) ⟨w1.s ++ [.dK kvs], w1.l⟩ else .stuck
section
variable {K : KW} {W : XW} {m : MK} {σ : L2.St} {H : Hp} {Q : VK}
theorem tK_own (h : tE K W (eOwnK m) σ H Q) : tK K W m σ H Q := by
  obtain ⟨B, A, w, δ, R, E, h⟩ := h
  refine ⟨B, A, w, δ, R, E, Res.post_mono (Res.post_bind h) (fun ds w1 h1 p xs B' A' H' g R' hp hx hB hM hN t => ?_) fun _ _ _ z => z⟩
  refine h1 (.ref p) B' _ H' (g.own hp) (R'.adopt hx hB hM hN ⟨xs, hx, t⟩) (.ref (d := .own _) ?_)
  show (A'.N ++ [p])[w1.l.length]? = some p
  rw [← R'.ln, List.getElem?_append_right (Nat.le_refl _), Nat.sub_self]
  rfl
theorem tK_loc (h : tE K W (eLocK m) σ H Q) : tK K W m σ H Q := by
  obtain ⟨B, A, w, δ, R, E, h⟩ := h
  refine ⟨B, A, w, δ, R, E, Res.post_mono (Res.post_bind h) (fun ds w1 h1 p xs B' A' H' g R' hp hx hB hM hN t => ?_) fun _ _ _ z => z⟩
  split at h1
  case isFalse => exact h1.elim
  case isTrue hc =>
    refine h1 (.ref p) B' _ H' (g.loc hp) (R'.adoptS hx hB hM hN ⟨xs, hx, t⟩ hc) (.ref (d := .loc _) ?_)
    show (A'.M ++ [p])[w1.s.length]? = some p
    rw [← R'.lm, List.getElem?_append_right (Nat.le_refl _), Nat.sub_self]
    rfl
theorem none_back {H H1 : Hp} {p : Addr} (th : ∀ a, H a ≠ none → H1 a ≠ none) (hp : H1 p = none) : H p = none := by
  cases e : H p with
  | none => rfl
  | some o => exact absurd hp (th p (by rw [e]; exact fun z => by cases z))
theorem FinK.new {B : Hp} {A : Ad} {w : Wd} {kvs : List (Key × D)} {xs : List (Key × V)} {p : Addr} {H0 : Hp} {B0 : Hp} {A0 : Ad} (k : FinK K B0 A0 H0 Q kvs w) (g : Gr B0 A0 H0 B A H) (R : Rep K B A w H) (h : AtK K B A xs kvs) (hp : H p = none) : Q (.ref p) (L2.upd H p (.dK xs)) := by
  obtain ⟨R2, g2⟩ := R.loose (h := .dK xs) hp
  exact k p xs B A _ (g.trans g2) R2 (none_back g.th hp) upd_same (R.bnone hp) (R.notin hp).1 (R.notin hp).2 h
end
section
variable {X : Cx} {W : XW} {pos p : Pos} {e : Expr} {es : List Expr} {m : MK} {mr : MA} {T : String} {x : Str} {r : List V → Hp → VK → Prop}
theorem de_ownK (h : PE X e (tK (kwOf X) W m)) : PE X e (tE (kwOf X) W (eOwnK m)) := PE.weaken h fun _ _ _ q => tK_own q
theorem de_locK (h : PE X e (tK (kwOf X) W m)) : PE X e (tE (kwOf X) W (eLocK m)) := PE.weaken h fun _ _ _ q => tK_loc q
def kNew : MK := fun _ w => .ok [] w
theorem dk_new : PE X (.Dict [] [] pos) (tK (kwOf X) W kNew) := PE.weaken pe_dnewK fun σ H Q h p hp => by
  obtain ⟨B, A, w, δ, R, E, h⟩ := h
  exact FinK.new h Gr.refl R .nil hp
/-! displays -/
def pairsM : List (ME × ME) → Env → Wd → Res (List (D × D))
  | [], _, w => .ok [] w
  | (mk, mv) :: r, δ, w => (mk δ w).bind fun k w1 => (mv δ w1).bind fun v w2 => (pairsM r δ w2).bind fun ps w3 => .ok ((k, v) :: ps) w3
def keysD : List (D × D) → Option (List (Key × D))
  | [] => some []
  | (k, v) :: r => match keyD k, keysD r with
    | some k, some r => some ((k, v) :: r)
    | _, _ => none
def mergeD (a b : List (Key × D)) : List (Key × D) := b.foldl (fun acc kv => putD acc kv.1 kv.2) a
def kDisp (ps : List (ME × ME)) : MK := fun δ w => (pairsM ps δ w).bind fun rs w1 => match keysD rs with
  | some kvs => if kvs.length ≤ 15 then .ok (mergeD [] kvs) w1 else .stuck
  | none => .stuck
def AtP (K : KW) (B : Hp) (A : Ad) : List (V × V) → List (D × D) → Prop := Paired fun p q => At K B A p.1 q.1 ∧ At K B A p.2 q.2
theorem keysD_at {K : KW} {B : Hp} {A : Ad} : ∀ {vs : List (V × V)} {rs : List (D × D)} {kvs : List (Key × D)}, AtP K B A vs rs → keysD rs = some kvs → ∃ us : List (Key × V), vs = us.map (fun kv => (kV kv.1, kv.2)) ∧ AtK K B A us kvs
  | _, _, _, .nil, e => by cases e; exact ⟨[], rfl, .nil⟩
  | (a, b) :: vs, (k, v) :: rs, kvs, .cons h t, e => by
    unfold keysD at e
    split at e
    · rename_i k' r' e1 e2
      cases e
      obtain ⟨us, rfl, q⟩ := keysD_at t e2
      have ha : a = kV k' := h.1.key e1
      subst ha
      exact ⟨(k', b) :: us, rfl, .cons ⟨rfl, h.2⟩ q⟩
    · cases e
theorem AtK.merge {K : KW} {B : Hp} {A : Ad} : ∀ {us : List (Key × V)} {ds : List (Key × D)} {vs : List (Key × V)} {es : List (Key × D)}, AtK K B A us ds → AtK K B A vs es → AtK K B A (mergeK vs us) (mergeD es ds)
  | _, _, _, _, .nil, t => t
  | (k1, v) :: us, (k2, d) :: ds, vs, es, .cons h r, t => by
    have hk : k1 = k2 := h.1
    subst hk
    have r' : AtK K B A us ds := r
    show AtK K B A (mergeK (putK vs k1 v) us) (mergeD (putD es k1 d) ds)
    exact AtK.merge r' (t.put k1 h.2)
theorem pairs_ok {K : KW} {W : XW} {σ : L2.St} {δ : Env} : ∀ (ps : List (ME × ME)) {B : Hp} {A : Ad} {w : Wd} {H : Hp} {Q : List (V × V) → Hp → Prop}, Rep K B A w H → EnvAt K B A σ δ →
    (pairsM ps δ w).post (fun rs w' => ∀ vs B' A' H', Gr B A H B' A' H' → Rep K B' A' w' H' → AtP K B' A' vs rs → Q vs H') (W.P B A H) → tPairs (ps.map fun p => (tE K W p.1, tE K W p.2)) σ H Q
  | [], B, A, w, H, Q, R, E, h => h [] B A H Gr.refl R .nil
  | (mk, mv) :: r, B, A, w, H, Q, R, E, h => by
    show tE K W mk σ H fun x H1 => tE K W mv σ H1 fun y H2 => tPairs (r.map fun p => (tE K W p.1, tE K W p.2)) σ H2 fun ps H3 => Q ((x, y) :: ps) H3
    refine part R E h fun dk w1 vk B1 A1 H1 g1 R1 a1 h1 => ?_
    refine part R1 (g1.env E) h1 fun dv w2 vv B2 A2 H2 g2 R2 a2 h2 => ?_
    refine pairs_ok r R2 (g2.env (g1.env E)) (Res.post_mono (Res.post_bind h2) (fun rs w3 h3 vs B3 A3 H3 g3 R3 t => ?_) fun _ _ _ z => z)
    have g23 := g2.trans g3
    exact h3 _ B3 A3 H3 (g1.trans g23) R3 (.cons ⟨g23.at a1, g3.at a2⟩ t)
theorem dk_disp {keys : List (Option Expr)} {values : List Expr} {ps : List (ME × ME)} (h : PPs X pos keys values (ps.map fun p => (tE (kwOf X) W p.1, tE (kwOf X) W p.2))) (hall : keys.all (·.isSome) = true := by rfl) (hl : keys.length = values.length := by rfl) (h0 : keys ≠ [] := by exact fun z => by cases z)
    (h15 : keys.length ≤ 15 := by decide) : PE X (.Dict keys values pos) (tK (kwOf X) W (kDisp ps)) := by
  refine PE.weaken (pe_disp h hall hl h0 h15) fun σ H Q h p hp => ?_
  obtain ⟨B, A, w, δ, R, E, h⟩ := h
  obtain ⟨R1, g1⟩ := R.loose (h := .dK []) hp
  refine pairs_ok ps R1 (g1.env E) (Res.post_mono (Res.post_bind h) (fun rs w2 h2 vs B2 A2 H2 g2 R2 t => ?_) fun _ _ _ z => W.mono g1 z)
  obtain ⟨q1, q2, q3, q4⟩ := g2.fr p _ upd_same (R.notin hp).1 (R.notin hp).2
  refine ⟨q1, ?_⟩
  split at h2
  · rename_i kvs ek
    obtain ⟨us, rfl, tk⟩ := keysD_at t ek
    split at h2
    case isFalse => exact h2.elim
    case isTrue hz =>
      refine ⟨us, rfl, by rw [tk.len]; exact hz, ?_⟩
      have hB : B2 p = none := q2.trans (R.bnone hp)
      exact h2 p _ B2 A2 _ ((g1.trans g2).loose_upd hp) (R2.loose_upd q1 hB q3 q4 fun _ z => by cases z) hp upd_same hB q3 q4 (tk.merge .nil)
  · exact h2.elim
/-! a built-in function's new dict -/
def CallK (K : KW) (r : List V → Hp → VK → Prop) (op : List D → Wd → Res (List (Key × D))) : Prop := ∀ {B0 : Hp} {A0 : Ad} {H0 : Hp} {B : Hp} {A : Ad} {w : Wd} {H : Hp} {vs : List V} {ds : List D} {Q : VK} {Ee : Str → List D → List SO → Prop},
  Gr B0 A0 H0 B A H → Rep K B A w H → AtL K B A vs ds → (op ds w).post (FinK K B0 A0 H0 Q) Ee → r vs H Q
def kB (op : List D → Wd → Res (List (Key × D))) (m : MA) : MK := fun δ w => (m δ w).bind fun ds w1 => op ds w1
theorem dk_ct {op : List D → Wd → Res (List (Key × D))} (hc : CallR X (.type T) r) (ho : CallK (kwOf X) r op) (hm : X.mg x = none) (hv : bootBuiltins x = some (.type T)) (ha : PA X (e :: es) (tAr (kwOf X) W mr)) (hg : Gl X x := by rfl) (hn : x ≠ "__name__" := by decide) (hdb : (x == ("__debug__" : Str)) = false := by decide)
    (he : starEach (e :: es) X.env = (false, eval e X.env) :: starEach es X.env := by rfl) (hpl : (backTo pos (starEach es X.env)).any (·.1) = false := by rfl) : PE X (.Call (.Name x p) (e :: es) [] pos) (tK (kwOf X) W (kB op mr)) :=
  PE.weaken (pe_callTy hc hg hm hv ha hn hdb he hpl) fun _ _ _ h => by
    obtain ⟨B, A, w, δ, R, E, h⟩ := h
    exact partA R E h fun ds w1 vs B1 A1 H1 g R1 a h1 => ho g R1 a h1
/-- dict of a list of pairs -/
def twoD : List D → Option (List (Key × D))
  | [] => some []
  | .tup [k, v] :: r => (match keyD k, twoD r with
    | some k, some r => some ((k, v) :: r)
    | _, _ => none)
  | _ :: _ => none
def opDictP (ds : List D) (w : Wd) : Res (List (Key × D)) := match ds with
  | [d] => (match lstOf w d with
    | some xs => (match twoD xs with
      | some kvs => .ok (mergeD [] kvs) w
      | none => .stuck)
    | none => .stuck)
  | _ => .stuck
theorem twoD_at {K : KW} {B : Hp} {A : Ad} {H : Hp} (hB : Ex B H) : ∀ {vs : List V} {ds : List D} {kvs : List (Key × D)}, AtL K B A vs ds → twoD ds = some kvs →
    ∃ (ps : List Addr) (us : List (Key × V)), vs = ps.map V.ref ∧ Paired (fun p kv => SqT K H p [kV kv.1, kv.2]) ps us ∧ AtK K B A us kvs
  | _, _, _, .nil, e => by cases e; exact ⟨[], [], rfl, .nil, .nil⟩
  | v :: vs, d :: ds, kvs, .cons h t, e => by
    unfold twoD at e
    split at e
    · rename_i q
      cases q
    · rename_i k v' r q
      cases q
      split at e
      · rename_i k' r' e1 e2
        cases e
        obtain ⟨ps, us, rfl, q1, q2⟩ := twoD_at hB t e2
        cases h with
        | tup hs tt =>
          cases tt with
          | cons a1 tt =>
            cases tt with
            | cons a2 tt =>
              cases tt
              have hk := a1.key e1
              subst hk
              exact ⟨_ :: ps, (k', _) :: us, rfl, .cons (ex_t hB hs) q1, .cons ⟨rfl, a2⟩ q2⟩
        | ref ha => cases ha
      · cases e
    · cases e
theorem ck_dictP {K : KW} : CallK K (fun xs H Q => ∃ (a : Addr) (ps : List Addr) (kvs : List (Key × V)), xs = [.ref a] ∧ SqL K.K H a (ps.map V.ref) ∧ Paired (fun p kv => SqT K.K H p [kV kv.1, kv.2]) ps kvs ∧
    ∀ p, H p = none → Q (.ref p) (L2.upd H p (.dK (mergeK [] kvs)))) opDictP := by
  intro B0 A0 H0 B A w H vs ds Q Ee g R t h
  unfold opDictP at h
  split at h
  · rename_i d
    cases t with
    | cons a t =>
      cases t
      split at h
      · rename_i xs e
        obtain ⟨b, zs, rfl, hb, tz⟩ := R.lstAt a e
        split at h
        · rename_i kvs ek
          obtain ⟨ps, us, rfl, q1, q2⟩ := twoD_at R.ext tz ek
          exact ⟨b, ps, us, rfl, SqL.of hb, q1, fun p hp => FinK.new h g R (q2.merge .nil) hp⟩
        · exact h.elim
      · exact h.elim
  · exact h.elim
end

/-! ### a dict that is walked -/
/-- the store with the dict d locked -/
def lockD (w : Wd) (d : D) : Option Wd := match w.get d with
  | some (.dK kvs) => some (w.put d (.lk kvs))
  | _ => none
def unlockD {α : Type} (d : D) (r : Res α) : Res α := r.bind fun a w => match w.get d with
  | some (.lk kvs) => .ok a (w.put d (.dK kvs))
  | _ => .stuck
def varD (δ : Env) (i : Nat) : Option D := match δ[i]? with
  | some d => d
  | none => none
def withLk {α : Type} (i : Nat) (m : Env → Wd → Res α) : Env → Wd → Res α := fun δ w => match varD δ i with
  | some d => (match lockD w d with
    | some w1 => unlockD d (m δ w1)
    | none => .stuck)
  | none => .stuck
section
variable {K : KW} {W : XW} {B : Hp} {A : Ad} {w : Wd} {H : Hp}
theorem lock_ok {d : D} {v : V} {w1 : Wd} (R : Rep K B A w H) (h : At K B A v d) (e : lockD w d = some w1) : ∃ a vs, v = .ref a ∧ A.at d = some a ∧ H a = some (.dK vs) ∧
    ∀ od, Rep K B A w1 (L2.upd H a (.frz od (.dK vs))) ∧ Gr B A H B A (L2.upd H a (.frz od (.dK vs))) := by
  unfold lockD at e
  split at e
  · rename_i kvs hg
    cases e
    obtain ⟨a, rfl, ha⟩ := get_at R h hg
    rcases R.ob d _ a hg ha with ⟨z, _⟩ | ⟨hB, vs, hH, t⟩
    · cases z
    refine ⟨a, vs, rfl, ha, hH, fun od => ?_⟩
    exact R.upd hg ha (h' := .frz od (.dK vs)) (o' := .lk kvs) hH (fun _ z => by cases z) (fun _ _ z => by cases z) hB ⟨od, vs, upd_same, t⟩ (fun n z => by subst z; exact (show (SO.dK kvs).cl = true from R.clOf hg))
  · cases e
theorem unlock_ok {d : D} {a : Addr} {u : List (Key × V)} {od : Obj} {B' : Hp} {A' : Ad} {H' : Hp} {w' : Wd} {kvs : List (Key × D)} (R : Rep K B A w H) (ha : A.at d = some a) (hH : H a = some (.dK u)) (g : Gr B A (L2.upd H a (.frz od (.dK u))) B' A' H') (R' : Rep K B' A' w' H') (hg : w'.get d = some (.lk kvs)) :
    H' a = some (.frz od (.dK u)) ∧ Rep K B' A' (w'.put d (.dK kvs)) (L2.upd H' a (.dK u)) ∧ Gr B A H B' A' (L2.upd H' a (.dK u)) := by
  have hz : H' a = some (.frz od (.dK u)) := g.fz a od (.dK u) upd_same
  have ha' : A'.at d = some a := g.ad.at ha
  rcases R'.ob d _ a hg ha' with ⟨z, _⟩ | ⟨hB', od2, vs2, hH2, t⟩
  · cases z
  rw [hz] at hH2
  cases hH2
  refine ⟨hz, ⟨fun b x e => ?_, by rw [Wd.put_len.1]; exact R'.lm, by rw [Wd.put_len.2]; exact R'.ln, R'.nd, fun b hb => ?_, R'.cs_put fun n z => ?_, fun d2 o2 b h1 h2 => ?_⟩, ?_⟩
  · rw [upd_ne (fun z => by rw [z, hB'] at e; cases e)]
    exact R'.ext b x e
  · by_cases z : b = a
    · rw [z, upd_same]; exact fun q => by cases q
    · rw [upd_ne z]; exact R'.th b hb
  · subst z
    exact (show (SO.lk kvs).cl = true from R'.clOf hg)
  · by_cases z : d = d2
    · subst z
      rw [Wd.put_same hg] at h1
      cases h1
      rw [ha'] at h2
      cases h2
      exact .inr ⟨hB', u, upd_same, t⟩
    · rw [Wd.put_ne z] at h1
      have ne : b ≠ a := fun q => z (R'.same (by rw [q] at h2; exact ha') (by rw [q] at h2; exact h2))
      rcases R'.ob d2 o2 b h1 h2 with q | ⟨q1, q2⟩
      · exact .inl q
      · exact .inr ⟨q1, q2.mono (.refl _) (.refl _) (upd_ne ne) fun dx e1 e2 => ⟨by rw [upd_ne (fun q => by rw [q, hz] at e1; cases e1)]; exact e1, e2⟩⟩
  · refine ⟨g.ad, g.ex, fun b hb => ?_, fun b o x e => ?_, fun b x e h1 h2 => ?_⟩
    · by_cases z : b = a
      · rw [z, upd_same]; exact fun q => by cases q
      · rw [upd_ne z]
        exact g.th b (by rw [upd_ne z]; exact hb)
    · have ne : b ≠ a := fun z => by rw [z, hH] at e; cases e
      rw [upd_ne ne]
      exact g.fz b o x (by rw [upd_ne ne]; exact e)
    · have ne : b ≠ a := fun z => by
        rcases List.mem_append.mp (Ad.mem ha) with q | q
        · exact h1 (by rw [z]; exact q)
        · exact h2 (by rw [z]; exact q)
      rw [upd_ne ne]
      exact g.fr b x (by rw [upd_ne ne]; exact e) h1 h2
theorem withLk_ok {α : Type} {i : Nat} {m : Env → Wd → Res α} {δ : Env} {σ : L2.St} {P : α → Wd → Prop} (R : Rep K B A w H) (E : EnvAt K B A σ δ) (h : (withLk i m δ w).post P (W.P B A H)) :
    ∃ a u, H a = some (.dK u) ∧ ∀ od, ∃ w1, Rep K B A w1 (L2.upd H a (.frz od (.dK u))) ∧ EnvAt K B A σ δ ∧ Gr B A H B A (L2.upd H a (.frz od (.dK u))) ∧
      (m δ w1).post (fun x w' => ∀ B' A' H', Gr B A (L2.upd H a (.frz od (.dK u))) B' A' H' → Rep K B' A' w' H' → H' a = some (.frz od (.dK u)) ∧ ∃ w2, Rep K B' A' w2 (L2.upd H' a (.dK u)) ∧ Gr B A H B' A' (L2.upd H' a (.dK u)) ∧ P x w2) (W.P B A (L2.upd H a (.frz od (.dK u)))) := by
  unfold withLk at h
  cases ev : varD δ i with
  | none => rw [ev] at h; exact h.elim
  | some d =>
    rw [ev] at h
    have hδ : δ[i]? = some (some d) := by
      unfold varD at ev
      split at ev
      · rename_i q
        rw [q, ev]
      · cases ev
    obtain ⟨v, hv, a⟩ := E.2 i d hδ
    cases el : lockD w d with
    | none =>
      have h' : (match lockD w d with
        | some w1 => unlockD d (m δ w1)
        | none => .stuck).post P (W.P B A H) := h
      rw [el] at h'
      exact h'.elim
    | some w1 =>
      have h0 : (match lockD w d with
        | some w1 => unlockD d (m δ w1)
        | none => .stuck).post P (W.P B A H) := h
      rw [el] at h0
      obtain ⟨p, u, rfl, ha, hH, hl⟩ := lock_ok R a el
      refine ⟨p, u, hH, fun od => ⟨w1, (hl od).1, E, (hl od).2, ?_⟩⟩
      have h' : (unlockD d (m δ w1)).post P (W.P B A H) := h0
      refine Res.post_mono (Res.post_bind h') (fun x w' h1 B' A' H' g R' => ?_) fun _ _ _ z => W.mono (hl od).2 z
      split at h1
      · rename_i kvs hg
        obtain ⟨q1, q2, q3⟩ := unlock_ok R ha hH g R' hg
        exact ⟨q1, _, q2, q3, h1⟩
      · exact h1.elim
end
section
variable {X : Cx} {W : XW} {pos : Pos} {st : Stmt} {e : Expr} {i : Nat}
theorem ds_lock (i : Nat) {m : MS} (h : PS X st (tSt (kwOf X) W m)) : PS X st (tSt (kwOf X) W (withLk i m)) := by
  refine PS.weaken (ps_lock h) fun U σ H q => ?_
  obtain ⟨B, A, w, δ, R, E, q⟩ := q
  obtain ⟨a, u, hH, go⟩ := withLk_ok R E q
  refine ⟨a, _, hH, True.intro, fun od => ?_⟩
  obtain ⟨w1, R1, E1, g1, h1⟩ := go od
  refine ⟨B, A, w1, δ, R1, E1, Res.post_mono h1 (fun r w' h2 σ' B' A' H' g R' E' => ?_) fun _ _ _ z => z⟩
  obtain ⟨q1, w2, R2, g2, h3⟩ := h2 B' A' H' g R'
  obtain ⟨f, δ'⟩ := r
  have z := h3 σ' B' A' _ g2 R2 E'
  cases f with
  | nx => exact ⟨q1, z⟩
  | br => exact ⟨q1, z⟩
  | ct => exact ⟨q1, z⟩
  | rt d => exact fun v a => ⟨q1, z v a⟩
theorem df_lock (i : Nat) {m : MF} (h : PE X e (tF (kwOf X) W m)) : PE X e (tF (kwOf X) W (withLk i m)) := by
  refine PE.weaken (pe_lock h) fun σ H Q q => ?_
  obtain ⟨B, A, w, δ, R, E, q⟩ := q
  obtain ⟨a, u, hH, go⟩ := withLk_ok R E q
  refine ⟨a, _, hH, True.intro, fun od => ?_⟩
  obtain ⟨w1, R1, E1, g1, h1⟩ := go od
  refine ⟨B, A, w1, δ, R1, E1, Res.post_mono h1 (fun ds w' h2 p xs B' A' H' g R' hp hx hB hM hN t => ?_) fun _ _ _ z => z⟩
  obtain ⟨q1, w2, R2, g2, h3⟩ := h2 B' A' H' g R'
  have ne : p ≠ a := fun z => by rw [z, upd_same] at hp; cases hp
  rw [upd_ne ne] at hp
  exact ⟨q1, h3 p xs B' A' _ g2 R2 hp (by rw [upd_ne ne]; exact hx) hB hM hN t⟩
/-- the dict at slot i, locked, by its keys -/
def lkOf (w : Wd) (d : D) : Option (List (Key × D)) := match w.get d with
  | some (.lk kvs) => some kvs
  | _ => none
def iKeysL (m : ME) : MI := fun δ w => (m δ w).bind fun d w1 => match lkOf w1 d with
  | some kvs => .ok (kvs.map fun kv => keyOf kv.1) w1
  | none => .stuck
def iItemsL (m : ME) : MI := fun δ w => (m δ w).bind fun d w1 => match lkOf w1 d with
  | some kvs => .ok (kvs.map fun kv => .tup [keyOf kv.1, kv.2]) w1
  | none => .stuck
theorem lk_at {K : KW} {B : Hp} {A : Ad} {w : Wd} {H : Hp} {v : V} {d : D} {kvs : List (Key × D)} (R : Rep K B A w H) (h : At K B A v d) (e : lkOf w d = some kvs) : ∃ a od vs, v = .ref a ∧ H a = some (.frz od (.dK vs)) ∧ AtK K B A vs kvs := by
  unfold lkOf at e
  split at e
  · rename_i kvs' hg
    cases e
    obtain ⟨a, rfl, ha⟩ := get_at R h hg
    rcases R.ob d _ a hg ha with ⟨z, _⟩ | ⟨hB, od, vs, hH, t⟩
    · cases z
    exact ⟨a, od, vs, rfl, hH, t⟩
  · cases e
theorem AtK.getP {K : KW} {B : Hp} {A : Ad} : ∀ {vs : List (Key × V)} {ds : List (Key × D)} {i : Nat} {p : Key × D}, AtK K B A vs ds → ds[i]? = some p → ∃ v, vs[i]? = some (p.1, v) ∧ At K B A v p.2
  | _, _, _, _, .nil, e => by simp at e
  | (k1, v) :: vs, (k2, d) :: ds, 0, p, .cons h t, e => by
    rw [List.getElem?_cons_zero] at e
    cases e
    have hk : k1 = k2 := h.1
    subst hk
    exact ⟨v, rfl, h.2⟩
  | x :: vs, y :: ds, i + 1, p, .cons h t, e => by
    rw [List.getElem?_cons_succ] at e
    obtain ⟨v, q1, q2⟩ := AtK.getP t e
    exact ⟨v, by rw [List.getElem?_cons_succ]; exact q1, q2⟩
theorem its_keys {K : KW} {B : Hp} {A : Ad} {H : Hp} {a : Addr} {od : Obj} {vs : List (Key × V)} {kvs : List (Key × D)} (h : H a = some (.frz od (.dK vs))) (t : AtK K B A vs kvs) : Its K B A H (Itk a od vs) (kvs.map fun kv => keyOf kv.1) where
  go := fun i B' A' w' H' hi g R => ⟨g.fz _ _ _ h, by rw [List.length_map] at hi; rw [t.len]; exact hi⟩
  stop := fun B' A' w' H' g R => ⟨g.fz _ _ _ h, by rw [List.length_map, t.len]; exact Nat.le_refl _⟩
  yld := fun i d B1 A1 w1 H1 x H2 hd g R y => by
    obtain ⟨e, k, v, hk, ex⟩ := y
    subst e ex
    rw [List.getElem?_map] at hd
    cases q : kvs[i]? with
    | none => rw [q] at hd; cases hd
    | some p =>
      rw [q] at hd
      cases hd
      obtain ⟨v', q1, q2⟩ := t.getP q
      rw [hk] at q1
      cases q1
      exact ⟨B1, Gr.refl, R, at_key _⟩
theorem its_items {K : KW} {B : Hp} {A : Ad} {H : Hp} {a : Addr} {od : Obj} {vs : List (Key × V)} {kvs : List (Key × D)} (h : H a = some (.frz od (.dK vs))) (t : AtK K B A vs kvs) : Its K B A H (Iti a od vs) (kvs.map fun kv => .tup [keyOf kv.1, kv.2]) where
  go := fun i B' A' w' H' hi g R => ⟨g.fz _ _ _ h, by rw [List.length_map] at hi; rw [t.len]; exact hi⟩
  stop := fun B' A' w' H' g R => ⟨g.fz _ _ _ h, by rw [List.length_map, t.len]; exact Nat.le_refl _⟩
  yld := fun i d B1 A1 w1 H1 x H2 hd g R y => by
    obtain ⟨T, k, v, hk, ex, hT, eH⟩ := y
    subst ex eH
    rw [List.getElem?_map] at hd
    cases q : kvs[i]? with
    | none => rw [q] at hd; cases hd
    | some p =>
      rw [q] at hd
      cases hd
      obtain ⟨v', q1, q2⟩ := t.getP q
      rw [hk] at q1
      cases q1
      have gz := Gr.frozen (o := .tup [kV p.1, v]) (B := B1) (A := A1) hT (R.bnone hT)
      exact ⟨_, gz, R.frozen hT, .tup (.inl (.inl upd_same)) (.cons (at_key _) (.cons ((g.trans gz).at q2) .nil))⟩
theorem di_keys {tg : Expr} {me : ME} (he : PE X e (tE (kwOf X) W me)) : PI X tg e (tI (kwOf X) W (iKeysL me)) := by
  refine PI.weaken (pi_keys he) fun σ H R h => ?_
  obtain ⟨B, A, w, δ, R0, E, h⟩ := h
  refine part R0 E h fun d w1 v B1 A1 H1 g R1 a h1 => ?_
  cases q : lkOf w1 d with
  | none => rw [q] at h1; exact h1.elim
  | some kvs =>
    rw [q] at h1
    obtain ⟨p, od, vs, rfl, hH, t⟩ := lk_at R1 a q
    exact ⟨p, od, rfl, .inl ⟨vs, hH, h1 _ B1 A1 H1 g R1 (its_keys hH t)⟩⟩
theorem di_items {elts : List Expr} {kk : Nat} {tpos apos cpos : Pos} {me : ME} (he : PE X e (tE (kwOf X) W me)) (hbase : attributeBase e "items" X.env (eval e X.env) = eval e X.env := by rfl) (hline : (apos.endLine == cpos.line) = true := by rfl) :
    PI X (.Tuple elts kk tpos) (.Call (.Attribute e "items" apos) [] [] cpos) (tI (kwOf X) W (iItemsL me)) := by
  refine PI.weaken (pi_items he hbase hline) fun σ H R h => ?_
  obtain ⟨B, A, w, δ, R0, E, h⟩ := h
  refine part R0 E h fun d w1 v B1 A1 H1 g R1 a h1 => ?_
  cases q : lkOf w1 d with
  | none => rw [q] at h1; exact h1.elim
  | some kvs =>
    rw [q] at h1
    obtain ⟨p, od, vs, rfl, hH, t⟩ := lk_at R1 a q
    exact ⟨p, od, vs, rfl, hH, h1 _ B1 A1 H1 g R1 (its_items hH t)⟩
/-- name = [.. for ..] -/
theorem ds_setLc {j : Nat} {y : Str} {py spos : Pos} {elt tg iter : Expr} {ifs : List Expr} {scope : Scope} {mi : MI} {g : MG} {t : MT} {me mw : ME} (own : List (Str × Nat)) (hw : ∀ {σ : L2.St} {H : Hp} {Q : VK}, tE (kwOf X) X0 mw σ H Q → tF (kwOf X) X0 (fComp mi g t me (own.map (·.2))) σ H Q)
    (hc : X.calm = true) (hN : X.N.Nodup) (hy : X.N[j]? = some y) (hyl : X.env.scope.names.lookup y = some .local) (hsw : swapsWith (.ListComp elt [⟨tg, iter, ifs, 0⟩] scope pos) (some (.Name y py)) spos.line X.env = pure true)
    (hi : PI X tg iter (tI (kwOf X) X0 mi)) (ok : BlkOk X.N X.env.scope scope own)
    (hg : ∀ (s : Shared) (H : Hp) (C : Addr) (cl : List (Str × Addr)) (fp : List Addr), PG (X.blk s H scope (compEnvC scope cl C X.env) fp) tg (tG (kwOf X) X0 (own.map (·.2)) g))
    (ht : ∀ (s : Shared) (H : Hp) (C : Addr) (cl : List (Str × Addr)) (fp : List Addr), PTs (X.blk s H scope (compEnvC scope cl C X.env) fp) ifs (tTt (kwOf X) X0 t))
    (he : ∀ (s : Shared) (H : Hp) (C : Addr) (cl : List (Str × Addr)) (fp : List Addr), PE (X.blk s H scope (compEnvC scope cl C X.env) fp) elt (tE (kwOf X) X0 me))
    (hs : ∀ x, foldedSetIterable iter X.env x = pure x := by intro _; rfl) : PS X (.Assign [.Name y py] (.ListComp elt [⟨tg, iter, ifs, 0⟩] scope pos) spos) (tSt (kwOf X) X0 (sSet j mw)) := by
  refine PS.weaken (ps_setLc hc hN hy hyl hsw hi ok hg ht he hs) fun U σ H h => ?_
  obtain ⟨B, A, w, δ, R, E, h⟩ := h
  show tLc _ _ _ _ _ σ H _
  refine tLc_of (hw ⟨B, A, w, δ, R, E, Res.post_mono (Res.post_bind h) (fun d w1 h1 v B1 A1 H1 g1 R1 a => ?_) fun _ _ _ z => z⟩)
  exact h1 _ B1 A1 H1 g1 R1 ((g1.env E).set a j)
end
end DP

set_option Elab.async false
set_option linter.all false
set_option maxRecDepth 100000
set_option maxHeartbeats 2000000
/-! repr; op=; enumerate. -/
namespace DP
open PySem L2 PySem.Spec PyProof.Rows

/-! ### repr -/
def rpL (f : D → Option PyData) : List D → Option (List PyData)
  | [] => some []
  | d :: ds => match f d, rpL f ds with
    | some p, some ps => some (p :: ps)
    | _, _ => none
def keyP : Key → PyData
  | .inl i => .int i
  | .inr x => .str x
def rpK (f : D → Option PyData) : List (Key × D) → Option (List (PyData × PyData))
  | [] => some []
  | kv :: r => match f kv.2, rpK f r with
    | some p, some ps => some ((keyP kv.1, p) :: ps)
    | _, _ => none
def rpO (f : D → Option PyData) : Option SO → Option PyData
  | some (.lst xs) => (rpL f xs).map .list
  | some (.dK kvs) => (rpK f kvs).map .dict
  | some (.lk kvs) => (rpK f kvs).map .dict
  | _ => none
/-- what is shown of a datum, so deep at most -/
def D.rp (w : Wd) : Nat → D → Option PyData
  | 0, _ => none
  | _ + 1, .non => some .none
  | _ + 1, .bl b => some (.bool b)
  | _ + 1, .int i => some (.int i)
  | _ + 1, .str x => some (.str x)
  | n + 1, .tup xs => (rpL (D.rp w n) xs).map .tuple
  | n + 1, .lst xs => (rpL (D.rp w n) xs).map .list
  | n + 1, .loc k => rpO (D.rp w n) w.s[k]?
  | n + 1, .own k => rpO (D.rp w n) w.l[k]?
  | _ + 1, _ => none
section
variable {X : Cx} {pins : List (Addr × Obj)} {σ : L2.St} {H : Hp} {s : Shared} {B : Hp} {A : Ad} {w : Wd}
/-- nothing that is tracked lies where the modules' table lies -/
theorem far (I : Inv X pins σ H s) (hs : (X.K.lookup sysModules).isSome = true) : H sysModules = none := by
  cases q : X.K.lookup sysModules with
  | none => rw [q] at hs; cases hs
  | some o => exact (I.bs _ _ (I.ok.mod.kin _ _ q)).2
theorem rdsL {f : D → Option PyData} (hf : ∀ {v : V} {u : Value} {d : D} {p : PyData}, At (kwOf X) B A v d → RelV v u → f d = some p → ∃ as, Reads s.heap u p as ∧ sysModules ∉ as) :
    ∀ {vs : List V} {us : List Value} {ds : List D} {ps : List PyData}, AtL (kwOf X) B A vs ds → Vals vs us → rpL f ds = some ps → ∃ as, ReadsAll s.heap us ps as ∧ sysModules ∉ as
  | _, _, _, _, .nil, .nil, e => by cases e; exact ⟨[], .nil, fun z => nomatch z⟩
  | _, _, _, _, .cons (d := d) (ds := ds) h t, .cons r rs, e => by
    unfold rpL at e
    cases q1 : f d with
    | none => rw [q1] at e; cases e
    | some p =>
      cases q2 : rpL f ds with
      | none => rw [q1, q2] at e; cases e
      | some ps =>
        rw [q1, q2] at e
        cases e
        obtain ⟨a1, r1, n1⟩ := hf h r q1
        obtain ⟨a2, r2, n2⟩ := rdsL hf t rs q2
        exact ⟨_, .cons r1 r2, fun z => (List.mem_append.mp z).elim n1 n2⟩
theorem rdsK {f : D → Option PyData} {P : Program} (hf : ∀ {v : V} {u : Value} {d : D} {p : PyData}, At (kwOf X) B A v d → RelV v u → f d = some p → ∃ as, Reads s.heap u p as ∧ sysModules ∉ as) :
    ∀ {vs : List (Key × V)} {us : List (Key × Value)} {es : List DictEntry} {ds : List (Key × D)} {ps : List (PyData × PyData)}, AtK (kwOf X) B A vs ds → KV vs us → Pairs (mixKind P X.w) es us → rpK f ds = some ps →
      ∃ as bs, ReadsAll s.heap (es.map (·.key)) (ps.map (·.1)) as ∧ ReadsAll s.heap (es.map (·.val)) (ps.map (·.2)) bs ∧ sysModules ∉ as ∧ sysModules ∉ bs
  | _, _, _, _, _, .nil, .nil, .nil, e => by cases e; exact ⟨[], [], .nil, .nil, (fun z => nomatch z), (fun z => nomatch z)⟩
  | (k0, v0) :: vs, (k1, u1) :: us, en :: es, (k2, d) :: ds, ps, .cons h t, .cons r rs, .cons hk hv hp, e => by
    unfold rpK at e
    cases q1 : f d with
    | none => rw [q1] at e; cases e
    | some p =>
      cases q2 : rpK f ds with
      | none => rw [q1, q2] at e; cases e
      | some ps' =>
        rw [q1, q2] at e
        cases e
        have e1 : k0 = k2 := h.1
        have e2 : k0 = k1 := r.1
        subst e1 e2
        have hv' : en.val = u1 := hv
        obtain ⟨a1, r1, n1⟩ := hf h.2 r.2 q1
        obtain ⟨a2, b2, r2, r3, n2, n3⟩ := rdsK hf t rs hp q2
        have kr : Reads s.heap en.key (keyP k0) [] := by
          rcases keyIs_shape (show keyIs k0 en.key = true from hk) with ⟨i, t, ek, ev⟩ | ⟨x, t, ek, ev⟩
          · rw [ek, ev]; exact .int i t
          · rw [ek, ev]; exact .str x t
        refine ⟨[] ++ a2, a1 ++ b2, .cons kr r2, ?_, fun z => (List.mem_append.mp z).elim (fun y => by cases y) n2, fun z => (List.mem_append.mp z).elim n1 n3⟩
        show ReadsAll s.heap (en.val :: es.map (·.val)) (p :: ps'.map (·.2)) (a1 ++ b2)
        rw [hv']
        exact .cons r1 r3
theorem rdsO {f : D → Option PyData} (I : Inv X pins σ H s) (hs : H sysModules = none) (hf : ∀ {v : V} {u : Value} {d : D} {p : PyData}, At (kwOf X) B A v d → RelV v u → f d = some p → ∃ as, Reads s.heap u p as ∧ sysModules ∉ as)
    {a : Addr} {o : SO} {p : PyData} (h : SOAt (kwOf X) B A H a o) (e : rpO f (some o) = some p) : ∃ as, Reads s.heap (.ref a) p as ∧ sysModules ∉ as := by
  have dic : ∀ {kvs : List (Key × D)} {vs : List (Key × V)}, Rd H a (.dK vs) → AtK (kwOf X) B A vs kvs → (rpK f kvs).map PyData.dict = some p → ∃ as, Reads s.heap (.ref a) p as ∧ sysModules ∉ as := by
    intro kvs vs hd t e
    cases q : rpK f kvs with
    | none => rw [q] at e; cases e
    | some ps =>
      rw [q] at e
      cases e
      obtain ⟨_, hne, us, kv, o, es, ep, ho, hx, hdt, _, hp, _⟩ := dk_rd I.hok hd
      obtain ⟨as, bs, r1, r2, n1, n2⟩ := rdsK hf t kv hp q
      refine ⟨_, .dict ho hx.1 hdt r1 r2, fun z => ?_⟩
      rcases List.mem_append.mp z with z | z
      · rcases List.mem_cons.mp z with z | z
        · rw [← z] at hne
          cases hne
        · exact n1 z
      · exact n2 z
  cases o with
  | lst ds =>
    obtain ⟨xs, hH, t⟩ := h
    have e' : (rpL f ds).map PyData.list = some p := e
    cases q : rpL f ds with
    | none => rw [q] at e'; cases e'
    | some ps =>
      rw [q] at e'
      cases e'
      obtain ⟨its, rv, ⟨o, n, ho, hc, _, hd⟩, _⟩ := I.list (SqL.of (K := X.K) hH)
      obtain ⟨as, r1, n1⟩ := rdsL hf t rv q
      refine ⟨_, .list ho hc hd r1, fun z => ?_⟩
      rcases List.mem_cons.mp z with z | z
      · rw [← z, hs] at hH; cases hH
      · exact n1 z
  | dK kvs =>
    obtain ⟨vs, hH, t⟩ := h
    exact dic (.inl hH) t e
  | lk kvs =>
    obtain ⟨od, vs, hH, t⟩ := h
    exact dic (.inr ⟨od, hH⟩) t e
  | gone => cases e
  | ins _ _ => cases e
theorem rds (I : Inv X pins σ H s) (R : Rep (kwOf X) B A w H) (hs : H sysModules = none) : ∀ (n : Nat) {v : V} {u : Value} {d : D} {p : PyData}, At (kwOf X) B A v d → RelV v u → D.rp w n d = some p → ∃ as, Reads s.heap u p as ∧ sysModules ∉ as
  | 0, _, _, _, _, _, _, e => by cases e
  | n + 1, v, u, d, p, h, r, e => by
    cases h with
    | non => cases e; cases r; exact ⟨_, .none, fun z => by cases z⟩
    | bl b => cases e; cases r; exact ⟨_, .bool b, fun z => by cases z⟩
    | int i => cases e; obtain ⟨t, rfl⟩ := r; exact ⟨_, .int i t, fun z => by cases z⟩
    | str x => cases e; obtain ⟨t, rfl⟩ := r; exact ⟨_, .str x t, fun z => by cases z⟩
    | ty _ => cases e
    | gd _ _ _ => cases e
    | scr _ => cases e
    | @tup a xs ds hq t =>
      have e' : (rpL (D.rp w n) ds).map PyData.tuple = some p := e
      cases q : rpL (D.rp w n) ds with
      | none => rw [q] at e'; cases e'
      | some ps =>
        rw [q] at e'
        cases e'
        cases r
        obtain ⟨its, rv, ⟨o, ho, hc, m, hd⟩, _⟩ := I.tuple (ex_t R.ext hq)
        obtain ⟨as, r1, n1⟩ := rdsL (fun h r e => rds I R hs n h r e) t rv q
        exact ⟨as, .tuple ho hc hd r1, n1⟩
    | @lst a xs ds hB t =>
      cases r
      exact rdsO I hs (fun h r e => rds I R hs n h r e) (o := .lst ds) ⟨xs, R.ext _ _ hB, t⟩ e
    | ref ha =>
      cases r
      cases d with
      | loc k =>
        have e' : rpO (D.rp w n) w.s[k]? = some p := e
        cases q : w.s[k]? with
        | none => rw [q] at e'; cases e'
        | some o =>
          rw [q] at e'
          rcases R.ob (.loc k) o _ q ha with ⟨z, _⟩ | ⟨_, z⟩
          · subst z; cases e'
          · exact rdsO I hs (fun h r e => rds I R hs n h r e) z e'
      | own k =>
        have e' : rpO (D.rp w n) w.l[k]? = some p := e
        cases q : w.l[k]? with
        | none => rw [q] at e'; cases e'
        | some o =>
          rw [q] at e'
          rcases R.ob (.own k) o _ q ha with ⟨z, _⟩ | ⟨_, z⟩
          · subst z; cases e'
          · exact rdsO I hs (fun h r e => rds I R hs n h r e) z e'
      | _ => cases ha
end
/-- what may be shown -/
def PyData.okShown (p : PyData) : Bool := p.showable && (decide (p.depth ≤ 64) && decide (p.shown.length ≤ sizeLine))
def opRepr (ds : List D) (w : Wd) : Res D := match ds with
  | [d] => (match d.rp w 70 with
    | some p => if PyData.okShown p = true then .ok (.str p.shown) w else .stuck
    | none => .stuck)
  | _ => .stuck
def rRepr (X : Cx) : List V → Hp → VK → Prop := fun xs H Q => ∃ x B A w d p, xs = [x] ∧ Rep (kwOf X) B A w H ∧ At (kwOf X) B A x d ∧ d.rp w 70 = some p ∧ PyData.okShown p = true ∧ Q (.str p.shown) H
theorem call_reprA {X : Cx} (hg : X.A.guards = some []) (hu : X.A.units + 66 < cLine) (hs : (X.K.lookup sysModules).isSome = true) : CallR X (.builtin "repr") (rRepr X) := by
  intro pins s σ H xs us Q I r h
  obtain ⟨x, B, A, w, d, p, rfl, R, a, e, ok, q⟩ := h
  obtain ⟨u, rfl, ru⟩ := vals1 r
  unfold PyData.okShown at ok
  rw [Bool.and_eq_true, Bool.and_eq_true] at ok
  have o2 := of_decide_eq_true ok.2.1
  have o3 := of_decide_eq_true ok.2.2
  obtain ⟨as, rd, ns⟩ := rds I R (far I hs) 70 a ru e
  cases rd with
  | none => exact PySem.P.repr_of_none ⟨.str _, H, I.tok _, ⟨_, rfl⟩, q⟩
  | bool b => exact PySem.P.repr_of_bool ⟨.str _, H, I.tok _, ⟨_, rfl⟩, q⟩
  | int i t => exact PySem.P.repr_of_int (of_decide_eq_true (by simpa [PyData.showable] using ok.1)) ⟨.str _, H, I.tok _, ⟨_, rfl⟩, q⟩
  | str x t => exact PySem.P.repr_of_str ⟨.str _, H, I.tok _, ⟨_, rfl⟩, q⟩ o3
  | list h1 h2 h3 h4 => exact repr_of_reads' (.list h1 h2 h3 h4) ok.1 (fun _ => ns) hg (by omega) (fun _ _ z => z) (fun h' u tk hk => ⟨.str _, H, I.kept (t' := tk) hk, ⟨_, rfl⟩, q⟩) o3
  | tuple h1 h2 h3 h4 => exact repr_of_reads' (.tuple h1 h2 h3 h4) ok.1 (fun _ => ns) hg (by omega) (fun _ _ z => z) (fun h' u tk hk => ⟨.str _, H, I.kept (t' := tk) hk, ⟨_, rfl⟩, q⟩) o3
  | dict h1 h2 h3 h4 h5 => exact repr_of_reads' (.dict h1 h2 h3 h4 h5) ok.1 (fun _ => ns) hg (by omega) (fun _ _ z => z) (fun h' u tk hk => ⟨.str _, H, I.kept (t' := tk) hk, ⟨_, rfl⟩, q⟩) o3
theorem cd_repr {X : Cx} : CallD (kwOf X) (rRepr X) opRepr := by
  intro B A w H vs ds Q Ee R t h
  unfold opRepr at h
  split at h
  · rename_i d
    cases t with
    | cons a t =>
      cases t
      split at h
      · rename_i p e
        split at h
        case isFalse => exact h.elim
        case isTrue hz => exact ⟨_, B, A, w, d, p, rfl, R, a, e, hz, FinD.ret h R (.str _)⟩
      · exact h.elim
  · exact h.elim

/-! ### op= -/
def mulOkS (i j : Int) : Bool := decide (-(2 ^ 64) < i ∧ i < 2 ^ 64) || decide (-(2 ^ 64) < j ∧ j < 2 ^ 64)
def sAug (i : Nat) (op : D → D → Wd → Res D) (m : ME) : MS := fun δ w => match varD δ i with
  | some d => (m δ w).bind fun e w1 => (op d e w1).bind fun r w2 => .ok (.nx, δ.set i (some r)) w2
  | none => .stuck
def sAugS (mo mi : ME) (op : D → D → Wd → Res D) (m : ME) : MS := fun δ w => (mo δ w).bind fun o w1 => (mi δ w1).bind fun i w2 => (opIxR o i w2).bind fun d w3 => (m δ w3).bind fun e w4 => (op d e w4).bind fun r w5 => (opPut o i r w5).bind fun _ w6 => .ok (.nx, δ) w6
theorem varD_some {δ : Env} {i : Nat} {d : D} (e : varD δ i = some d) : δ[i]? = some (some d) := by
  unfold varD at e
  split at e
  · rename_i q
    rw [q, e]
  · cases e
section
variable {X : Cx} {W : XW} {pos : Pos} {e o i : Expr} {me mo mi : ME} {op : Operator} {ti : TIp} {f : D → D → Wd → Res D}
theorem ds_aug (j : Nat) {x : Str} {p' : Pos} (hN : X.N.Nodup) (hp : PIp X op ti) (hd : OpD (kwOf X) ti f) (he : PE X e (tE (kwOf X) W me)) (hj : X.N[j]? = some x := by rfl) (hx : Loc X.env.scope x := by first | exact Or.inl rfl | exact Or.inr rfl)
    (hf : X.fn x = true ∨ X.env.scope.names.lookup x = some .local := by first | exact .inl rfl | exact .inr rfl) : PS X (.AugAssign (.Name x p') op e pos) (tSt (kwOf X) W (sAug j f me)) := by
  refine PS.weaken (ps_aug (i := j) hN hj hx he hp hf) fun U σ H h => ?_
  obtain ⟨B, A, w, δ, R, E, h⟩ := h
  unfold sAug at h
  cases q : varD δ j with
  | none => rw [q] at h; exact h.elim
  | some d =>
    rw [q] at h
    obtain ⟨v, hv, a⟩ := E.2 j d (varD_some q)
    refine ⟨v, hv, ?_⟩
    have h' : ((me δ w).bind fun e w1 => (f d e w1).bind fun r w2 => .ok (.nx, δ.set j (some r)) w2).post (FinS (kwOf X) B A H U) (W.P B A H) := h
    refine part R E h' fun d2 w1 v2 B1 A1 H1 g R1 a2 h1 => ?_
    refine hd R1 (g.at a) a2 (Res.post_mono (Res.post_bind h1) (fun r w2 h2 v3 B3 A3 H3 g3 R3 a3 => ?_) fun _ _ _ z => z)
    exact h2 _ B3 A3 H3 (g.trans g3) R3 (((g.trans g3).env E).set a3 j)
end
/-- ints alone -/
def opAddI (dx dy : D) (w : Wd) : Res D := match dx, dy with
  | .int i, .int j => .ok (.int (i + j)) w
  | _, _ => .stuck
def opMulI (dx dy : D) (w : Wd) : Res D := match dx, dy with
  | .int i, .int j => if mulOkS i j = true then .ok (.int (i * j)) w else .stuck
  | _, _ => .stuck
def opFdivI (dx dy : D) (w : Wd) : Res D := match dx, dy with
  | .int i, .int j => if 0 < j ∧ j < 1073741824 then .ok (.int (i / j)) w else .stuck
  | _, _ => .stuck
theorem od_addI {K : KW} : OpD K (rI0 fun i j => .int (i + j)) opAddI := by
  intro B A w H x y dx dy Q Ee R hx hy h
  unfold opAddI at h
  split at h
  · cases hx.int_inv
    cases hy.int_inv
    exact ⟨_, _, rfl, rfl, FinD.ret h R (.int _)⟩
  · exact h.elim
theorem od_mulI {K : KW} : OpD K (rI CMul fun i j => .int (i * j)) opMulI := by
  intro B A w H x y dx dy Q Ee R hx hy h
  unfold opMulI at h
  split at h
  · rename_i i j
    cases hx.int_inv
    cases hy.int_inv
    split at h
    case isFalse => exact h.elim
    case isTrue hc =>
      refine ⟨_, _, rfl, rfl, ?_, FinD.ret h R (.int _)⟩
      unfold mulOkS at hc
      rw [Bool.or_eq_true, decide_eq_true_iff, decide_eq_true_iff] at hc
      exact hc
  · exact h.elim
theorem od_fdivI {K : KW} : OpD K (rI CDiv fun i j => .int (i / j)) opFdivI := by
  intro B A w H x y dx dy Q Ee R hx hy h
  unfold opFdivI at h
  split at h
  · cases hx.int_inv
    cases hy.int_inv
    split at h
    case isFalse => exact h.elim
    case isTrue hc => exact ⟨_, _, rfl, rfl, hc, FinD.ret h R (.int _)⟩
  · exact h.elim
section
variable {X : Cx} {W : XW} {pos : Pos} {e o i : Expr} {me mo mi : ME} {f : D → D → Wd → Res D}
def rGet (K : KW) : R2 := fun x y H Q => rIxL K.K x y H Q ∨ rIxDG x y H Q
theorem pget_all (hu : X.A.units + 1 < cLine) : PGet X (rGet (kwOf X)) := by
  intro pins s σ H x y v u Q I rx ry h
  rcases h with ⟨p, xs, i, z, rfl, rfl, hq, he, q⟩ | ⟨a, r, rfl, g, q⟩
  · cases rx
    obtain ⟨t, rfl⟩ := ry
    obtain ⟨its, r, pl, hz⟩ := I.list hq
    obtain ⟨j, h1, h2, h3, h4, h5⟩ := atI_get he
    obtain ⟨w, ew, rw'⟩ := r.get h2
    have hl := r.length
    have hn := line63
    have fin : EP X pins σ Q w s := ⟨z, H, I, rw', q⟩
    by_cases h0 : 0 ≤ i
    · have hj : i.toNat = j := Option.some.inj ((seqIndex_of h0 h5).symm.trans h1)
      exact wpAny_getItem_list pl.isList h0 (by omega) (by rw [hj]; simpa using ew) fin
    · have hj : (i + (its.toArray.size : Int)).toNat = j := by
        have q := (seqIndex_neg (by omega) h4).symm.trans h1
        rw [List.size_toArray, ← hl]
        exact Option.some.inj q
      exact wpAny_getItem_list_neg pl.isList (by omega) (by rw [List.size_toArray]; omega) (by omega) (by rw [hj]; simpa using ew) fin
  · obtain rfl : v = Value.ref a := rx
    exact d_getItem hu I g ry fun w' s' I' r' => ⟨r, H, I', r', q⟩
theorem od_get {K : KW} : OpD K (rGet K) opIxR := by
  intro B A w H x y dx dy Q Ee R hx hy h
  unfold opIxR at h
  split at h
  case h_2 =>
    unfold opIxD at h
    split at h
    case h_2 => exact h.elim
    case h_1 kvs k e1 e2 =>
      cases e3 : valD kvs k with
      | none => rw [e3] at h; exact h.elim
      | some d =>
        rw [e3] at h
        obtain ⟨a, vs, rfl, q1, q2, _⟩ := R.dKAt hx e1
        obtain ⟨v, z1, z2⟩ := (q2.val k).1 d e3
        exact .inr ⟨a, v, rfl, .inl ⟨vs, k, q1, hy.key e2, z1.symm⟩, FinD.ret h R z2⟩
  case h_1 xs i e1 =>
    cases hy.int_inv
    cases e : L2.atI xs i with
    | none => rw [e] at h; exact h.elim
    | some d =>
      rw [e] at h
      obtain ⟨a, us, rfl, q1, t1⟩ := R.lstAt hx e1
      obtain ⟨v, z1, z2⟩ := t1.atI e
      exact .inl ⟨a, us, i, v, rfl, rfl, SqL.of q1, z1, FinD.ret h R z2⟩
theorem ds_augS {op : Operator} {ti : TIp} {tpos : Pos} (hu : X.A.units + 1 < cLine) (hp : PIp X op ti) (hd : OpD (kwOf X) ti f) (ho : PE X o (tE (kwOf X) W mo)) (hi : PE X i (tE (kwOf X) W mi)) (he : PE X e (tE (kwOf X) W me))
    (ha : ∀ ov iv new, augStore i ov iv new = (do holding [new, ov, iv] (setItem ov iv new); release [new, ov, iv] []; pure .next) := by intros; rfl) : PS X (.AugAssign (.Subscript o i tpos) op e pos) (tSt (kwOf X) W (sAugS mo mi f me)) := by
  refine PS.weaken (ps_augS ho hi (pget_all hu) he hp (pset_all hu) ha) fun U σ H h => ?_
  obtain ⟨B, A, w, δ, R, E, h⟩ := h
  refine part R E h fun do_ w1 ov B1 A1 H1 g1 R1 a1 h1 => ?_
  refine part R1 (g1.env E) h1 fun di w2 iv B2 A2 H2 g2 R2 a2 h2 => ?_
  refine od_get R2 (g2.at a1) a2 (Res.post_mono (Res.post_bind h2) (fun dx w3 h3 xv B3 A3 H3 g3 R3 a3 => ?_) fun _ _ _ z => z)
  have g13 := (g1.trans g2).trans g3
  refine ⟨B3, A3, w3, δ, R3, g13.env E, Res.post_mono (Res.post_bind h3) (fun de w4 h4 ev B4 A4 H4 g4 R4 a4 => ?_) fun _ _ _ z => W.mono g3 z⟩
  refine hd R4 (g4.at a3) a4 (Res.post_mono (Res.post_bind h4) (fun dr w5 h5 rv B5 A5 H5 g5 R5 a5 => ?_) fun _ _ _ z => z)
  have g35 := (g3.trans g4).trans g5
  refine put_ok R5 ((g2.trans g35).at a1) (g35.at a2) a5 (Res.post_mono (Res.post_bind h5) (fun _ w6 h6 B6 A6 H6 g6 R6 => ?_) fun _ _ _ z => z)
  have g := (((g13.trans g4).trans g5).trans g6)
  exact h6 σ B6 A6 H6 g R6 (g.env E)
end
end DP

set_option Elab.async false
set_option linter.all false
set_option maxRecDepth 100000
set_option maxHeartbeats 2000000
/-! Instances: attributes, methods, making. -/
namespace DP
open PySem L2 PySem.Spec PyProof.Rows

theorem RoomG.make {k : Nat} {A : Around} (r : RoomG (k + 1) A) (C : Addr) (us : List Value) (kw : List (Str × Value)) : RoomG k (A.under (.builtin "type.__call__" ⟨.ref C :: us, kw⟩)) := ⟨r.rm.make C us kw, by
  first
    | exact r.gd
    | (simp only [Around.under]; exact r.gd)⟩

def putFD (f : Str) (d : D) : List (Str × D) → List (Str × D)
  | [] => [(f, d)]
  | (g, x) :: r => if g = f then (g, d) :: r else (g, x) :: putFD f d r
section
variable {K : KW} {B : Hp} {A : Ad} {w : Wd} {H : Hp}
theorem AtK.putF (f : Str) {v : V} {d : D} (hv : At K B A v d) : ∀ {vs : List (Str × V)} {ds : List (Str × D)}, AtK K B A vs ds → AtK K B A (L2.putF f v vs) (putFD f d ds)
  | _, _, .nil => .cons ⟨rfl, hv⟩ .nil
  | (k1, v1) :: vs, (k2, d1) :: ds, .cons h t => by
    have hk : k1 = k2 := h.1
    subst hk
    have t' : AtK K B A vs ds := t
    show AtK K B A (if k1 = f then (k1, v) :: vs else (k1, v1) :: L2.putF f v vs) (if k1 = f then (k1, d) :: ds else (k1, d1) :: putFD f d ds)
    by_cases q : k1 = f
    · rw [if_pos q, if_pos q]; exact .cons ⟨rfl, hv⟩ t
    · rw [if_neg q, if_neg q]; exact .cons ⟨rfl, h.2⟩ (AtK.putF f hv t')
theorem putFD_cl {f : Str} {d : D} (hd : d.cl = true) : ∀ {fs : List (Str × D)}, (fs.all fun p => p.2.cl) = true → ((putFD f d fs).all fun p => p.2.cl) = true
  | [], _ => by
    unfold putFD
    rw [List.all_cons, hd]; rfl
  | (g, x) :: r, h => by
    rw [List.all_cons, Bool.and_eq_true] at h
    unfold putFD
    by_cases q : g = f
    · rw [if_pos q, List.all_cons, hd, h.2]; rfl
    · rw [if_neg q, List.all_cons, h.1, putFD_cl hd h.2]; rfl
theorem AtK.look (f : Str) : ∀ {vs : List (Str × V)} {ds : List (Str × D)}, AtK K B A vs ds → (∀ d, ds.lookup f = some d → ∃ v, vs.lookup f = some v ∧ At K B A v d) ∧ (ds.lookup f = none → vs.lookup f = none)
  | _, _, .nil => ⟨(fun d e => nomatch (show (none : Option D) = some d from e)), (fun _ => rfl)⟩
  | (k1, v1) :: vs, (k2, d1) :: ds, .cons h t => by
    have hk : k1 = k2 := h.1
    subst hk
    obtain ⟨i1, i2⟩ := AtK.look f (vs := vs) (ds := ds) t
    rw [List.lookup_cons, List.lookup_cons]
    by_cases q : (f == k1) = true
    · rw [q]
      exact ⟨fun d e => by cases e; exact ⟨v1, rfl, h.2⟩, fun e => by cases e⟩
    · rw [Bool.not_eq_true] at q
      rw [q]
      exact ⟨i1, i2⟩
/-- an instance of the class C -/
def insOf (C : Str) (w : Wd) (d : D) : Option (List (Str × D)) := match w.get d with
  | some (.ins C' fs) => if C' = C then some fs else none
  | _ => none
theorem ins_at {C : Str} {v : V} {d : D} {fs : List (Str × D)} (R : Rep K B A w H) (h : At K B A v d) (e : insOf C w d = some fs) :
    ∃ a dx vs, v = .ref a ∧ A.at d = some a ∧ w.get d = some (.ins C fs) ∧ H a = some (.ins (clsA K C) dx vs) ∧ H dx = some (.own a) ∧ B dx = none ∧ B a = none ∧ AtK K B A vs fs := by
  unfold insOf at e
  split at e
  · rename_i C' fs' hg
    by_cases q : C' = C
    · rw [if_pos q] at e
      cases e
      subst q
      obtain ⟨a, rfl, ha⟩ := get_at R h hg
      rcases R.ob d _ a hg ha with ⟨z, _⟩ | ⟨hB, dx, vs, h1, h2, h3, t⟩
      · cases z
      exact ⟨a, dx, vs, rfl, ha, hg, h1, h2, h3, hB, t⟩
    · rw [if_neg q] at e; cases e
  · cases e
end
/-- a class's facts -/
structure ClsF (K : KW) (C : Str) (fs : List Str) : Prop where
  cls : Cls K.K (clsA K C)
  no : ∀ f ∈ fs, NoAttr K.K (clsA K C) f
def opFld (C f : Str) (d : D) (w : Wd) : Res D := match insOf C w d with
  | some fs => (match fs.lookup f with
    | some x => .ok x w
    | none => .stuck)
  | none => .stuck
/-- o.f = d -/
def opPutF (C f : Str) (o d : D) (w : Wd) : Res Unit := match insOf C w o with
  | some fs => if fs.length < 1000 ∧ cln o d = true then .ok () (w.put o (.ins C (putFD f d fs))) else .stuck
  | none => .stuck
def rPutF (K : KW) (C f : Str) : V → V → Hp → (Hp → Prop) → Prop := fun x y H Q => ∃ a dx fs, x = .ref a ∧ H a = some (.ins (clsA K C) dx fs) ∧ Cls K.K (clsA K C) ∧ NoAttr K.K (clsA K C) f ∧ fs.length < 1000 ∧ Q (L2.upd H a (.ins (clsA K C) dx (putF f y fs)))
theorem putf_ok {K : KW} {B : Hp} {A : Ad} {w : Wd} {H : Hp} {C f : Str} {o v : V} {d_o dv : D} {Q : Hp → Prop} {Ee : Str → List D → List SO → Prop} (c : Cls K.K (clsA K C)) (n : NoAttr K.K (clsA K C) f) (R : Rep K B A w H) (ho : At K B A o d_o) (hv : At K B A v dv)
    (h : (opPutF C f d_o dv w).post (fun _ w' => ∀ B' A' H', Gr B A H B' A' H' → Rep K B' A' w' H' → Q H') Ee) : rPutF K C f o v H Q := by
  unfold opPutF at h
  cases q : insOf C w d_o with
  | none => rw [q] at h; exact h.elim
  | some fs =>
    rw [q] at h
    have h : (if fs.length < 1000 ∧ cln d_o dv = true then Res.ok () (w.put d_o (.ins C (putFD f dv fs))) else .stuck).post (fun _ w' => ∀ B' A' H', Gr B A H B' A' H' → Rep K B' A' w' H' → Q H') Ee := h
    obtain ⟨a, dx, vs, rfl, ha, hg, h1, h2, h3, hB, t⟩ := ins_at R ho q
    split at h
    case isFalse => exact h.elim
    case isTrue hz =>
      have ne : dx ≠ a := fun z => by rw [z, h1] at h2; cases h2
      obtain ⟨R2, g2⟩ := R.upd hg ha (h' := .ins (clsA K C) dx (putF f v vs)) (o' := .ins C (putFD f dv fs)) h1 (fun _ z => by cases z) (fun _ _ z => by cases z) hB ⟨dx, _, upd_same, by rw [upd_ne ne]; exact h2, h3, t.putF f hv⟩ (fun n z => by
        subst z
        exact putFD_cl hz.2 (R.clOf hg))
      exact ⟨a, dx, vs, rfl, h1, c, n, by rw [t.len]; exact hz.1, h B A _ g2 R2⟩
section
variable {X : Cx} {W : XW} {pos apos cpos p : Pos} {e o : Expr} {es : List Expr} {mo me : ME} {mr : MA} {C f m : Str} {fs : List Str}
def eFld (C f : Str) (m : ME) : ME := fun δ w => (m δ w).bind fun d w1 => opFld C f d w1
theorem de_fld (c : Cls X.K (clsA (kwOf X) C)) (n : NoAttr X.K (clsA (kwOf X) C) f) (he : PE X e (tE (kwOf X) W me)) (hb : attributeBase e f X.env (eval e X.env) = eval e X.env := by rfl) : PE X (.Attribute e f pos) (tE (kwOf X) W (eFld C f me)) := by
  refine PE.weaken (pe_fld he hb) fun σ H Q h => ?_
  obtain ⟨B, A, w, δ, R, E, h⟩ := h
  refine part R E h fun d w1 v B1 A1 H1 g R1 a1 h1 => ?_
  unfold opFld at h1
  cases q : insOf C w1 d with
  | none => rw [q] at h1; exact h1.elim
  | some fs =>
    rw [q] at h1
    obtain ⟨a, dx, vs, rfl, ha, hg, e1, e2, e3, hB, t⟩ := ins_at R1 a1 q
    cases l : fs.lookup f with
    | none =>
      have h1 : (match fs.lookup f with
        | some x => Res.ok x w1
        | none => .stuck).post (FinD (kwOf X) B A H Q) (W.P B1 A1 H1) := h1
      rw [l] at h1
      exact h1.elim
    | some x =>
      have h1 : (match fs.lookup f with
        | some x => Res.ok x w1
        | none => .stuck).post (FinD (kwOf X) B A H Q) (W.P B1 A1 H1) := h1
      rw [l] at h1
      obtain ⟨v, l2, av⟩ := (t.look f).1 x l
      exact ⟨a, _, dx, vs, v, rfl, e1, c, n, l2, h1 v B1 A1 H1 g R1 av⟩
/-- o.f = e -/
def sFldM (C f : Str) (mo mv : ME) : MS := fun δ w => (mv δ w).bind fun d w1 => (mo δ w1).bind fun o w2 => (opPutF C f o d w2).bind fun _ w3 => .ok (.nx, δ) w3
theorem ds_fld {pos' : Pos} {value : Expr} {mv : ME} (c : Cls X.K (clsA (kwOf X) C)) (n : NoAttr X.K (clsA (kwOf X) C) f) (ho : PE X o (tE (kwOf X) W mo)) (hv : PE X value (tE (kwOf X) W mv)) (hs : swapsWith value (some (.Attribute o f pos')) pos.line X.env = pure false := by rfl) :
    PS X (.Assign [.Attribute o f pos'] value pos) (tSt (kwOf X) W (sFldM C f mo mv)) := by
  refine PS.weaken (ps_fld ho hv hs) fun U σ H h => ?_
  obtain ⟨B, A, w, δ, R, E, h⟩ := h
  refine part R E h fun dv w1 v B1 A1 H1 g1 R1 a1 h1 => ?_
  refine part R1 (g1.env E) h1 fun d_o w2 ov B2 A2 H2 g2 R2 a2 h2 => ?_
  have g12 := g1.trans g2
  obtain ⟨a, dx, fs, e1, e2, e3, e4, e5, e6⟩ := putf_ok c n R2 a2 (g2.at a1) (Q := fun H' => U.nx σ H') (Res.post_mono (Res.post_bind h2) (fun _ w3 h3 B3 A3 H3 g3 R3 => h3 σ B3 A3 H3 (g12.trans g3) R3 ((g12.trans g3).env E)) fun _ _ _ z => z)
  exact ⟨a, _, dx, fs, e1, e2, e3, e4, e5, e6⟩
/-- target o.f -/
def gFldM (C f : Str) (mo : ME) : MG := fun d δ w => (mo δ w).bind fun o w1 => (opPutF C f o d w1).bind fun _ w2 => .ok δ w2
theorem dg_fld {vs : List Nat} (c : Cls X.K (clsA (kwOf X) C)) (n : NoAttr X.K (clsA (kwOf X) C) f) (ho : PE X o (tE (kwOf X) W mo))
    (ha : ∀ v, assign (.Attribute o f pos) X.env v = (do
      let ov ← holding [v] (eval o X.env)
      standAt pos.atName
      holding [v, ov] (setAttr ov f v)
      release [v, ov] []) := by intro _; rfl) : PG X (.Attribute o f pos) (tG (kwOf X) W vs (gFldM C f mo)) := by
  refine ⟨fun pins s σ H v u Q I r h => ?_⟩
  rw [ha]
  have hq : tE (kwOf X) W mo σ H fun x H1 => rPutF (kwOf X) C f x v H1 fun H2 => Q σ H2 := by
    obtain ⟨B, A, w, δ, d, R, E, a, h⟩ := h
    refine part R E h fun d_o w1 ov B1 A1 H1 g1 R1 a1 h1 => ?_
    exact putf_ok c n R1 a1 (g1.at a) (Res.post_mono (Res.post_bind h1) (fun _ w3 h3 B3 A3 H3 g3 R3 => h3 σ B3 A3 H3 (g1.trans g3) R3 ((g1.trans g3).env E) rfl) fun _ _ _ z => z)
  refine wpAny_bind (wpAny_holding (thn (ho.run pins s σ H _ I hq) fun ov s1 ⟨x, H1, I1, r1, q1⟩ => ?_))
  obtain ⟨a, dx, fs, rfl, e2, e3, e4, e5, e6⟩ := q1
  obtain rfl : ov = Value.ref a := r1
  refine wpAny_bind (wpAny_standAt (wpAny_bind (wpAny_holding (setattr_ok I1 e2 e3 e4 e5 r fun s2 I2 => ?_))))
  exact wpAny_release ⟨σ, _, I2, e6⟩
end

/-! ### methods -/
section
variable {X : Cx} {CX : CXT} {k : Nat} {g : Addr} {fd : FuncData} {ps : List Str} {sp : Sp} {E : XK} {x m : Str} {p pos apos : Pos} {e o : Expr} {es : List Expr} {ta : TE} {t : TA} {Ca : Addr}
def tMethG (Ca : Addr) (m : Str) (sp : Sp) (E : XK) (ta : TE) (t : TA) : TE := fun σ H Q => ta σ H fun x H1 => ∃ a dx fs, x = .ref a ∧ H1 a = some (.ins Ca dx fs) ∧ fs.lookup m = none ∧ t σ H1 fun vs H2 => sp (x :: vs) H2 Q E
theorem pe_methG {pl : Sem Bool} (he : PE X o ta) (c : Cls X.K Ca) (hm : Meth X.K Ca m g) (F : FnG X.prog X.w X.K X.mg X.base CX k g fd ps sp) (hr : RoomG k X.A) (hb : Binds X.K fd ps []) (hx : Passes CX X E) (ha : PA X (e :: es) t)
    (hst : starEach (e :: es) X.env = (false, eval e X.env) :: starEach es X.env := by rfl) (hpl : (backTo pos (starEach es X.env)).any (·.1) = false := by rfl)
    (ht : eval (.Call (.Attribute o m apos) (e :: es) [] pos) X.env = (do
      let ov ← eval o X.env
      standAt apos.atName
      let (f, first) ← holding [ov] (getMethod ov m pl)
      callWith pos f first (backTo pos (starEach (e :: es) X.env)) (backToKw pos (keywordEach [] X.env))) := by rfl) :
    PE X (.Call (.Attribute o m apos) (e :: es) [] pos) (tMethG Ca m sp E ta t) := by
  refine ⟨fun pins s σ H Q I h => ?_⟩
  refine PySem.W.methodCall_KW (pl := pl) (thn (he.run pins s σ H _ I h) fun u s1 hq => ?_) ht
  obtain ⟨x, H1, I1, rx, a, dx, fs, rfl, ea, l, q⟩ := hq
  obtain rfl : u = Value.ref a := rx
  refine getmeth_ok I1 ea c hm l ?_
  refine PySem.W.callWith_K (first := [.ref a]) (h₀ := X.base) I.ok.mod.kin hm.kp (thn (ha.run pos pins s1 σ H1 _ I1 q) fun us s2 hq2 => ?_) hst hpl
  obtain ⟨vs, H2, I2, r, q2⟩ := hq2
  exact ⟨I2.kIn, run_fnG (us := .ref a :: us) (vs := .ref a :: vs) F hr hb hx I2 (.cons rfl r) q2⟩
theorem pe_methG0 {pl : Sem Bool} (he : PE X o ta) (c : Cls X.K Ca) (hm : Meth X.K Ca m g) (F : FnG X.prog X.w X.K X.mg X.base CX k g fd ps sp) (hr : RoomG k X.A) (hb : Binds X.K fd ps []) (hx : Passes CX X E)
    (ht : eval (.Call (.Attribute o m apos) [] [] pos) X.env = (do
      let ov ← eval o X.env
      standAt apos.atName
      let (f, first) ← holding [ov] (getMethod ov m pl)
      callWith pos f first (backTo pos (starEach [] X.env)) (backToKw pos (keywordEach [] X.env))) := by rfl) :
    PE X (.Call (.Attribute o m apos) [] [] pos) (tMethG Ca m sp E ta tNil) := by
  refine ⟨fun pins s σ H Q I h => ?_⟩
  refine PySem.W.methodCall_KW (pl := pl) (thn (he.run pins s σ H _ I h) fun u s1 hq => ?_) ht
  obtain ⟨x, H1, I1, rx, a, dx, fs, rfl, ea, l, q⟩ := hq
  obtain rfl : u = Value.ref a := rx
  refine getmeth_ok I1 ea c hm l ?_
  exact PySem.W.callWith_K0 (first := [.ref a]) I1.kIn hm.kp (run_fnG (us := [.ref a]) (vs := [.ref a]) F hr hb hx I1 (.cons rfl .nil) q)
theorem run_makeG {pins : List (Addr × Obj)} {σ : L2.St} {H : Hp} {s : Shared} {Q : VK} {us : List Value} {vs : List V} (M : Mk X.K Ca g) (F : FnG X.prog X.w X.K X.mg X.base CX k g fd ps sp) (hr : RoomG (k + 1) X.A) (hb : Binds X.K fd ps []) (hx : Passes CX X E) (I : Inv X pins σ H s) (r : Vals vs us)
    (h : ∀ x dx, H x = none → H dx = none → dx ≠ x → sp (.ref x :: vs) (L2.upd (L2.upd H dx (.own x)) x (.ins Ca dx [])) (fun v H2 => v = .non ∧ Q (.ref x) H2) E) :
    wpAny (model X.prog X.w) X.A (call (.ref Ca) us) (EP X pins σ Q) X.xe s := by
  have q0 := h (s.heap.objs.size + 1) s.heap.objs.size (I.hok.fresh (Nat.le_succ _)) (I.hok.fresh (Nat.le_refl _)) (Nat.ne_of_lt (Nat.lt_succ_self _))
  have J := Inv.made (C := Ca) I
  have rr : Vals (V.ref (s.heap.objs.size + 1) :: vs) (Value.ref (s.heap.objs.size + 1) :: us) := .cons rfl r
  have hbd := hb _ (Value.ref (s.heap.objs.size + 1) :: us) J.kIn (by
    rw [List.append_nil, ← rr.length]
    exact F.len _ _ _ _ q0)
  rw [List.append_nil] at hbd
  refine wpAny_call (make_map (f := g) I.kIn M.makes M.init (beq_iff_eq.mp M.fn) (codeAny_mono (F.run _ X.stack _ _ ⟨Value.ref (s.heap.objs.size + 1) :: us, []⟩ _ _ _ E (hr.make Ca us []) (J.env0.make Ca us []) hbd rr q0) fun z s' hz => ?_))
  cases z with
  | error e => exact hx pins σ _ _ e s' J hz
  | ok fl =>
    cases fl with
    | ret u =>
      obtain ⟨v, H', I3, rv, ev, q3⟩ := J.after hz
      subst ev
      exact ⟨rv, ⟨V.ref (s.heap.objs.size + 1), H', I3, rfl, q3⟩⟩
    | next => exact False.elim hz
    | brk => exact False.elim hz
    | cont => exact False.elim hz
def tMakeG (Ca : Addr) (sp : Sp) (E : XK) (t : TA) : TE := fun σ H Q => t σ H fun vs H1 => ∀ x dx, H1 x = none → H1 dx = none → dx ≠ x → sp (.ref x :: vs) (L2.upd (L2.upd H1 dx (.own x)) x (.ins Ca dx [])) (fun v H2 => v = .non ∧ Q (.ref x) H2) E
theorem pe_makeG (M : Mk X.K Ca g) (F : FnG X.prog X.w X.K X.mg X.base CX k g fd ps sp) (hr : RoomG (k + 1) X.A) (hg : Gl X x) (hm : X.mg x = some (.ref Ca)) (hb : Binds X.K fd ps []) (hx : Passes CX X E)
    (ha : PA X (e :: es) t) (hdb : (x == ("__debug__" : Str)) = false := by decide) (he : starEach (e :: es) X.env = (false, eval e X.env) :: starEach es X.env := by rfl) (hpl : (backTo pos (starEach es X.env)).any (·.1) = false := by rfl) :
    PE X (.Call (.Name x p) (e :: es) [] pos) (tMakeG Ca sp E t) := by
  refine ⟨fun pins s σ H Q I h => ?_⟩
  refine wpAny_Call_Name_kw (ld_glob I hg hm ?_ hdb)
  refine PySem.W.callWith_K (h₀ := X.base) I.ok.mod.kin M.kp (thn (ha.run pos pins s σ H _ I h) fun us s1 hq => ?_) he hpl
  obtain ⟨vs, H1, I1, r, q⟩ := hq
  exact ⟨I1.kIn, run_makeG M F hr hb hx I1 r q⟩
theorem pe_makeG0 (M : Mk X.K Ca g) (F : FnG X.prog X.w X.K X.mg X.base CX k g fd ps sp) (hr : RoomG (k + 1) X.A) (hg : Gl X x) (hm : X.mg x = some (.ref Ca)) (hb : Binds X.K fd ps []) (hx : Passes CX X E)
    (hdb : (x == ("__debug__" : Str)) = false := by decide) : PE X (.Call (.Name x p) [] [] pos) (tMakeG Ca sp E tNil) := by
  refine ⟨fun pins s σ H Q I h => ?_⟩
  refine wpAny_Call_Name_kw (ld_glob I hg hm ?_ hdb)
  exact PySem.W.callWith_K0 I.kIn M.kp (run_makeG (us := []) M F hr hb hx I .nil h)
end
section
variable {X : Cx} {k n : Nat} {g : Addr} {fd : FuncData} {ps : List Str} {F : FN} {x m C : Str} {p pos apos : Pos} {e o : Expr} {es : List Expr} {mo : ME} {mr : MA}
def eMth (C m : Str) (F : FN) (mo : ME) (ma : MA) : ME := fun δ w => (mo δ w).bind fun o w1 => match insOf C w1 o with
  | some fs => if (fs.lookup m).isNone = true then (ma δ w1).bind fun ds w2 => callM F (o :: ds) w2 else .stuck
  | none => .stuck
theorem mth_ok {ta : TA} (hl : LenA mr n) (hta : ta = tAr (kwOf X) X0 mr) {σ : L2.St} {H : Hp} {Q : VK} (h : tE (kwOf X) X0 (eMth C m F mo mr) σ H Q) : tMethG (clsA (kwOf X) C) m (spD (kwOf X) (n + 1) F) E0 (tE (kwOf X) X0 mo) ta σ H Q := by
  obtain ⟨B, A, w, δ, R, E, h⟩ := h
  subst hta
  refine part R E h fun d w1 v B1 A1 H1 g1 R1 a1 h1 => ?_
  cases q : insOf C w1 d with
  | none => rw [q] at h1; exact h1.elim
  | some fs =>
    rw [q] at h1
    obtain ⟨a, dx, vs, rfl, ha, hg, e1, e2, e3, hB, t⟩ := ins_at R1 a1 q
    have h1 : (if (fs.lookup m).isNone = true then (mr δ w1).bind fun ds w2 => callM F (d :: ds) w2 else .stuck).post (FinD (kwOf X) B A H Q) (X0.P B1 A1 H1) := h1
    split at h1
    case isFalse => exact h1.elim
    case isTrue hz =>
      refine ⟨a, dx, vs, rfl, e1, (t.look m).2 (Option.isNone_iff_eq_none.mp hz), ?_⟩
      cases z : mr δ w1 with
      | ok ds w2 =>
        have hlen := hl δ w1 ds w2 z
        refine ⟨B1, A1, w1, δ, R1, g1.env E, ?_⟩
        rw [z] at h1 ⊢
        intro us B2 A2 H2 g2 R2 a2
        exact call_ok (by rw [List.length_cons, a2.length, hlen]) R2 (.cons (g2.at a1) a2) (post_shift h1 (g1.trans g2))
      | exc c as s => rw [z] at h1; exact h1.elim
      | stuck => rw [z] at h1; exact h1.elim
theorem de_mth {pl : Sem Bool} (c : Cls X.K (clsA (kwOf X) C)) (hm : Meth X.K (clsA (kwOf X) C) m g) (G : FnG X.prog X.w X.K X.mg X.base CX0 k g fd ps (spD (kwOf X) (n + 1) F)) (hr : RoomG k X.A) (hb : Binds X.K fd ps []) (ho : PE X o (tE (kwOf X) X0 mo)) (ha : PA X (e :: es) (tAr (kwOf X) X0 mr)) (hlen : LenA mr n)
    (hst : starEach (e :: es) X.env = (false, eval e X.env) :: starEach es X.env := by rfl) (hpl : (backTo pos (starEach es X.env)).any (·.1) = false := by rfl)
    (ht : eval (.Call (.Attribute o m apos) (e :: es) [] pos) X.env = (do
      let ov ← eval o X.env
      standAt apos.atName
      let (f, first) ← holding [ov] (getMethod ov m pl)
      callWith pos f first (backTo pos (starEach (e :: es) X.env)) (backToKw pos (keywordEach [] X.env))) := by rfl) :
    PE X (.Call (.Attribute o m apos) (e :: es) [] pos) (tE (kwOf X) X0 (eMth C m F mo mr)) :=
  PE.weaken (pe_methG (E := E0) ho c hm G hr hb pass0 ha hst hpl ht) fun σ H Q h => mth_ok hlen rfl h
theorem de_mth0 {pl : Sem Bool} (c : Cls X.K (clsA (kwOf X) C)) (hm : Meth X.K (clsA (kwOf X) C) m g) (G : FnG X.prog X.w X.K X.mg X.base CX0 k g fd ps (spD (kwOf X) 1 F)) (hr : RoomG k X.A) (hb : Binds X.K fd ps []) (ho : PE X o (tE (kwOf X) X0 mo))
    (ht : eval (.Call (.Attribute o m apos) [] [] pos) X.env = (do
      let ov ← eval o X.env
      standAt apos.atName
      let (f, first) ← holding [ov] (getMethod ov m pl)
      callWith pos f first (backTo pos (starEach [] X.env)) (backToKw pos (keywordEach [] X.env))) := by rfl) :
    PE X (.Call (.Attribute o m apos) [] [] pos) (tE (kwOf X) X0 (eMth C m F mo aNil)) :=
  PE.weaken (pe_methG0 (E := E0) ho c hm G hr hb pass0 ht) fun σ H Q h => by
    obtain ⟨B, A, w, δ, R, E, h⟩ := h
    refine part R E h fun d w1 v B1 A1 H1 g1 R1 a1 h1 => ?_
    cases q : insOf C w1 d with
    | none => rw [q] at h1; exact h1.elim
    | some fs =>
      rw [q] at h1
      obtain ⟨a, dx, vs, rfl, ha, hg, e1, e2, e3, hB, t⟩ := ins_at R1 a1 q
      have h1 : (if (fs.lookup m).isNone = true then callM F (d :: []) w1 else .stuck).post (FinD (kwOf X) B A H Q) (X0.P B1 A1 H1) := h1
      split at h1
      case isFalse => exact h1.elim
      case isTrue hz => exact ⟨a, dx, vs, rfl, e1, (t.look m).2 (Option.isNone_iff_eq_none.mp hz), call_ok (E := E0) rfl R1 (.cons a1 .nil) (post_shift h1 g1)⟩
/-! making -/
def opMake (C : Str) (F : FN) (ds : List D) (w : Wd) : Res D := (callM F (.loc w.s.length :: ds) ⟨w.s ++ [.ins C []], w.l⟩).bind fun d w1 => match d with
  | .non => .ok (.loc w.s.length) w1
  | _ => .stuck
def eMake (C : Str) (F : FN) (m : MA) : ME := fun δ w => (m δ w).bind fun ds w1 => opMake C F ds w1
theorem make_ok {B : Hp} {A : Ad} {w : Wd} {H : Hp} {vs : List V} {ds : List D} {Q : VK} (hl : vs.length = n) (R : Rep (kwOf X) B A w H) (t : AtL (kwOf X) B A vs ds) (h : (opMake C F ds w).post (FinD (kwOf X) B A H Q) (fun _ _ _ => False)) :
    ∀ x dx, H x = none → H dx = none → dx ≠ x → spD (kwOf X) (n + 1) F (.ref x :: vs) (L2.upd (L2.upd H dx (.own x)) x (.ins (clsA (kwOf X) C) dx [])) (fun v H2 => v = .non ∧ Q (.ref x) H2) E0 := by
  intro x dx hx hdx ne
  obtain ⟨R1, g1⟩ := R.loose (h := .own x) hdx
  have hx1 : (L2.upd H dx (.own x)) x = none := by rw [upd_ne (Ne.symm ne)]; exact hx
  obtain ⟨R2, g2⟩ := R1.loose (h := .ins (clsA (kwOf X) C) dx []) hx1
  have g12 := g1.trans g2
  have e2 : (L2.upd (L2.upd H dx (.own x)) x (.ins (clsA (kwOf X) C) dx [])) dx = some (.own x) := by rw [upd_ne ne]; exact upd_same
  have R3 := R2.adoptS (o := .ins C []) upd_same (R.bnone hx) (R.notin hx).1 (R.notin hx).2 ⟨dx, [], upd_same, e2, R.bnone hdx, .nil⟩ rfl
  have g3 := g12.loc hx
  have self : At (kwOf X) B ⟨A.M ++ [x], A.N⟩ (.ref x) (.loc w.s.length) := by
    refine .ref (d := .loc _) ?_
    show (A.M ++ [x])[w.s.length]? = some x
    rw [← R.lm, List.getElem?_append_right (Nat.le_refl _), Nat.sub_self]
    rfl
  refine call_ok (by rw [List.length_cons, hl]) R3 (.cons self (t.mono g3.ex g3.ad)) ?_
  refine Res.post_mono (Res.post_bind h) (fun d w1 h1 v B' A' H' g R' a => ?_) fun _ _ _ z => z
  split at h1
  · exact ⟨a.non_inv, h1 _ B' A' H' (g3.trans g) R' (g.at self)⟩
  · exact h1.elim
theorem de_make (M : Mk X.K (clsA (kwOf X) C) g) (G : FnG X.prog X.w X.K X.mg X.base CX0 k g fd ps (spD (kwOf X) (n + 1) F)) (hr : RoomG (k + 1) X.A) (hm : X.mg C = some (.ref (clsA (kwOf X) C))) (hb : Binds X.K fd ps []) (ha : PA X (e :: es) (tAr (kwOf X) X0 mr)) (hlen : LenA mr n) (hg : Gl X C := by rfl)
    (hdb : (C == ("__debug__" : Str)) = false := by decide) (he : starEach (e :: es) X.env = (false, eval e X.env) :: starEach es X.env := by rfl) (hpl : (backTo pos (starEach es X.env)).any (·.1) = false := by rfl) :
    PE X (.Call (.Name C p) (e :: es) [] pos) (tE (kwOf X) X0 (eMake C F mr)) :=
  PE.weaken (pe_makeG (E := E0) M G hr hg hm hb pass0 ha hdb he hpl) fun σ H Q h => by
    obtain ⟨B, A, w, δ, R, E, h⟩ := h
    cases z : mr δ w with
    | ok ds w2 =>
      refine ⟨B, A, w, δ, R, E, ?_⟩
      unfold eMake at h
      rw [z] at h ⊢
      intro vs B1 A1 H1 g1 R1 a1
      exact make_ok (by rw [a1.length]; exact hlen δ w ds w2 z) R1 a1 (post_shift h g1)
    | exc c as s => unfold eMake at h; rw [z] at h; exact h.elim
    | stuck => unfold eMake at h; rw [z] at h; exact h.elim
theorem de_make0 (M : Mk X.K (clsA (kwOf X) C) g) (G : FnG X.prog X.w X.K X.mg X.base CX0 k g fd ps (spD (kwOf X) 1 F)) (hr : RoomG (k + 1) X.A) (hm : X.mg C = some (.ref (clsA (kwOf X) C))) (hb : Binds X.K fd ps []) (hg : Gl X C := by rfl)
    (hdb : (C == ("__debug__" : Str)) = false := by decide) : PE X (.Call (.Name C p) [] [] pos) (tE (kwOf X) X0 (eMake C F aNil)) :=
  PE.weaken (pe_makeG0 (E := E0) M G hr hg hm hb pass0 hdb) fun σ H Q h => by
    obtain ⟨B, A, w, δ, R, E, h⟩ := h
    exact make_ok (n := 0) rfl R .nil h
end
end DP

set_option Elab.async false
set_option linter.all false
set_option maxRecDepth 100000
set_option maxHeartbeats 2000000
/-! enumerate; a written dict's items. -/
namespace DP
open PySem L2 PySem.Spec PyProof.Rows
open PySem.Sem (wp)

set_option maxHeartbeats 1000000 in
theorem meets_enum1 {v : Value} {o : Obj} {H : Heap → Prop} (B : Begins v o H) :
    Meets (Builtin.«enumerate.__new__» ⟨[.type "enumerate", v], []⟩) (fun _ R s => H s.heap ∧
      R (.ok (.ret (.ref (s.heap.push o).objs.size))) { s with heap := (s.heap.push o).push { cls := .type "enumerate", data := .fields #[.none, .bool false, .ref s.heap.objs.size, rawInt 0, .none, .none] } }) :=
  .of_wp fun prog w A R s h => by
    obtain ⟨hp, g, d, tk, os⟩ := s
    obtain ⟨h1, h⟩ := h
    have sb := sub_enumerate
    have it : ∀ {A' : Around} {E : Value → Shared → Prop} {Q : Value → Shared → Prop}, Q (.ref hp.objs.size) ⟨hp.push o, g, d, tk, os⟩ → wpAny (model prog w) A' (pyIter v) Q E ⟨hp, g, d, tk, os⟩ := fun q => B.iter prog w _ _ ⟨hp, g, d, tk, os⟩ _ h1 q
    wp_walk using it
    refine wpAny_stack_any fun st => wpAny_pure ?_
    split
    · rename_i c _ _ _ _ _
      cases (c == Value.type "enumerate")
      · wp_walk using it
        exact ⟨_, rfl, h⟩
      · wp_walk using it
        exact ⟨_, rfl, h⟩
    · wp_walk using it
      exact ⟨_, rfl, h⟩
section
variable {prog : Program} {w : World} {A : Around} {E : Value → Shared → Prop} {s : Shared}
theorem call_enum1 {v : Value} {o : Obj} {H : Heap → Prop} {Q : Value → Shared → Prop} (B : Begins v o H) (h1 : H s.heap)
    (h : ∀ h', IsEnum h' (s.heap.objs.size + 1) s.heap.objs.size 0 .none → h'.get? s.heap.objs.size = some o → (∀ b o, s.heap.get? b = some o → h'.get? b = some o) → Q (.ref (s.heap.objs.size + 1)) { s with heap := h' }) :
    wpAny (model prog w) A (call (.type "enumerate") [v]) Q E s := by
  refine callType_new F.called_enumerate (by decide) (F.typeCall_enumerate_1 _) (F.newCall_enumerate_1 _) (fun obj => F.args_object_init_2 obj _) F.entry_enumerate_new (meets_enum1 B) ⟨h1, ?_⟩
  have z : (s.heap.push o).objs.size = s.heap.objs.size + 1 := Heap.size_push ..
  show _ ∧ _
  rw [z]
  have he : IsEnum ((s.heap.push o).push { cls := .type "enumerate", data := .fields #[.none, .bool false, .ref s.heap.objs.size, rawInt 0, .none, .none] }) (s.heap.objs.size + 1) s.heap.objs.size 0 .none := by
    have q := Heap.get?_push_size (s.heap.push o) (o := { cls := .type "enumerate", data := .fields #[.none, .bool false, .ref s.heap.objs.size, rawInt 0, .none, .none] }) rfl
    rw [z] at q
    exact q
  exact ⟨⟨_, he, rfl⟩, h _ he (Heap.get?_push_of_some _ (Heap.get?_push_size _ B.free)) fun b o x => Heap.get?_push_of_some _ (Heap.get?_push_of_some _ x)⟩
end
/-- the tuple at a, item by item, each in a new pair -/
def IteT (K : PySem.W.Frag) (a : Addr) : It :=
  ⟨fun i H => ∃ (xs : List V) (x : V), SqT K H a xs ∧ xs[i]? = some x, fun i H v H' => ∃ T x, v = .ref T ∧ H T = none ∧ H' = L2.upd H T (.tup [.int (i : Nat), x]) ∧ ∀ xs, SqT K H a xs → xs[i]? = some x, fun i H => ∃ xs : List V, SqT K H a xs ∧ xs.length = i⟩
theorem turn_enumT {P : Program} {w : World} {K : PySem.W.Frag} {elts : List Expr} {kk : Nat} {tpos : Pos} (a e it : Addr) :
    Turn P w K (.Tuple elts kk tpos) (IteT K a) [e, it] e (fun i h => (∃ old, IsEnum h e it ((i : Nat) : Int) old) ∧ h.IsTupleIter it a i ∧ e ≠ it ∧ a ≠ it ∧ a ≠ e) where
  mem := by simp
  obj := fun i h st b hb => by
    obtain ⟨⟨old, he⟩, ⟨o, ho, hc, hd⟩, _⟩ := st
    have e' : b = e ∨ b = it := by simpa using hb
    rcases e' with z | z
    · rw [z]; exact ⟨_, he, fun v q => nomatch q⟩
    · rw [z]; exact ⟨o, ho, fun v q => by rw [hd] at q; cases q⟩
  keep := fun i h h' st k => let ⟨⟨old, he⟩, hi, hne⟩ := st; ⟨⟨old, k e (by simp) _ he⟩, hi.at fun o q => k it (by simp) o q, hne⟩
  item := by
    intro X hP hw hK hc i pins s σ H E I hf st hg
    subst hP hw hK
    obtain ⟨⟨old, he⟩, hit, hne, hai, hae⟩ := st
    obtain ⟨xs, x, hq, hx⟩ := hg
    obtain ⟨its, rv, p, hz⟩ := I.tuple hq
    obtain ⟨u, hu, ru⟩ := rv.get hx
    have hel : e < s.heap.objs.size := Heap.lt_size he
    have hil : it < s.heap.objs.size := by obtain ⟨_, q, _⟩ := hit; exact Heap.lt_size q
    have hlt : i < its.toArray.size := by
      rw [List.size_toArray]
      exact (List.getElem?_eq_some_iff.mp hu).1
    have hh : X.A.in1.handled = none := I.ok.hd hc
    refine wpAny_pyNext_enum_itemC (Draws.tuple hh it a hai its.toArray) he ⟨hit, p⟩ hlt hne (by simp [hne, Ne.symm hae]) fun y h' tk hy ho hit' hT hsz hk => ?_
    have hyu : y = u := by
      have q1 : its[i]? = some y := by simpa using hy
      rw [hu] at q1
      exact (Option.some.inj q1).symm
    subst hyu
    refine ⟨_, rfl, wpAny_letOwnedTupleGo_enum (s := { s with heap := h', toks := tk + 1 }) ho fun h'' he' sb => ?_⟩
    have hT2 : h''.get? s.heap.objs.size = some { cls := .type "tuple", data := .seq #[.int i tk, y] } := (sb.2 _ (Nat.ne_of_gt hel)).trans hT
    have new : ObjOk X.prog X.w (L2.upd H s.heap.objs.size (.tup [.int (i : Nat), x])) h'' s.heap.objs.size (.tup [.int (i : Nat), x]) :=
      ⟨by show 2 ≤ sizeLine; decide, [.int i tk, y], .cons ⟨_, rfl⟩ (.cons ru .nil), ⟨_, hT2, rfl, _, rfl⟩⟩
    have I1 : Inv X pins σ (L2.upd H s.heap.objs.size (.tup [.int (i : Nat), x])) { s with heap := h'', toks := tk + 1 } :=
      I.turnedNew (ch := [e, it]) (fun b ob hb q => (sb.2 b (fun z => hb (by simp [z]))).trans (hk b ob (fun z => hb (by simp [z])) (fun z => hb (by simp [z])) q)) hf (Nat.le_refl _) new
    refine ⟨.ref s.heap.objs.size, _, I1, rfl, ⟨_, x, rfl, I.hok.fresh (Nat.le_refl _), rfl, fun ys hy => by rw [I.tuple_inj hy hq]; exact hx⟩, ⟨⟨y, ?_⟩, hit'.1.at fun o q => (sb.2 it (Ne.symm hne)).trans q, hne, hai, hae⟩, fun b hb => ?_⟩
    · have e1 : ((i + 1 : Nat) : Int) = (i : Int) + 1 := by omega
      rw [e1]; exact he'
    · have hb' : b < s.heap.objs.size := by
        have e' : b = e ∨ b = it := by simpa using hb
        rcases e' with z | z
        · rw [z]; exact hel
        · rw [z]; exact hil
      rw [upd_ne (Nat.ne_of_lt hb')]
      exact (hf b hb).1
  done := by
    intro X hP hw hK hc i pins s σ H E I hf st hg
    subst hP hw hK
    obtain ⟨⟨old, he⟩, hit, hne, hai, hae⟩ := st
    obtain ⟨xs, hq, hx⟩ := hg
    obtain ⟨its, rv, p, hz⟩ := I.tuple hq
    obtain ⟨f0, f1, f2, f3, f4, f5⟩ := hf it (by simp)
    have hl := rv.length
    have hh : X.A.in1.handled = none := I.ok.hd hc
    have hs : its.toArray.size = i := by rw [List.size_toArray, ← hl]; exact hx
    have hit' : s.heap.IsTupleIter it a its.toArray.size := by rw [hs]; exact hit
    exact wpAny_pyNext_enum_endD (Draws.tuple hh it a hai its.toArray) he ⟨hit', p⟩ fun h' eb => ⟨rfl, I.turned (t' := s.toks) (fun b o hb q => eb b o hb q) f0 f1 f3 f4 f5⟩
  self := fun A i s Q E st h => let ⟨⟨_, he⟩, _⟩ := st; wpAny_pyIter_enum he h
def enumD : Nat → List D → List D
  | _, [] => []
  | n, d :: r => .tup [.int (n : Int), d] :: enumD (n + 1) r
theorem enumD_length : ∀ (n : Nat) (ds : List D), (enumD n ds).length = ds.length
  | _, [] => rfl
  | n, d :: r => by rw [enumD, List.length_cons, List.length_cons, enumD_length (n + 1) r]
theorem enumD_get : ∀ (n : Nat) (ds : List D) (i : Nat) (y : D), (enumD n ds)[i]? = some y → ∃ d, ds[i]? = some d ∧ y = .tup [.int ((n + i : Nat) : Int), d]
  | _, [], i, y, e => by cases e
  | n, d :: r, 0, y, e => by
    rw [enumD, List.getElem?_cons_zero] at e
    cases e
    exact ⟨d, rfl, rfl⟩
  | n, d :: r, i + 1, y, e => by
    rw [enumD, List.getElem?_cons_succ] at e
    obtain ⟨d', q1, q2⟩ := enumD_get (n + 1) r i y e
    exact ⟨d', by rw [List.getElem?_cons_succ]; exact q1, by rw [q2, show n + 1 + i = n + (i + 1) by omega]⟩
def iEnumM (m : MA) : MI := fun δ w => (m δ w).bind fun ds w1 => match ds with
  | [.tup xs] => .ok (enumD 0 xs) w1
  | [.lst xs] => .ok (enumD 0 xs) w1
  | _ => .stuck
section
variable {K : KW} {B : Hp} {A : Ad} {H : Hp}
theorem its_enumL {a : Addr} {xs : List V} {ds : List D} (h : B a = some (.lst xs)) (t : AtL K B A xs ds) : Its K B A H (Ite K a) (enumD 0 ds) where
  go := fun i B' A' w' H' hi g R => by
    rw [enumD_length] at hi
    have hl : i < xs.length := by rw [t.length]; exact hi
    exact ⟨xs, xs[i], SqL.of (R.ext _ _ (g.ex _ _ h)), List.getElem?_eq_getElem hl⟩
  stop := fun B' A' w' H' g R => ⟨xs, SqL.of (R.ext _ _ (g.ex _ _ h)), by rw [enumD_length]; exact Nat.le_of_eq t.length⟩
  yld := fun i d B1 A1 w1 H1 x H2 hd g R y => by
    obtain ⟨T, v, ev, hT, eH, k⟩ := y
    subst ev eH
    obtain ⟨d0, q1, q2⟩ := enumD_get 0 ds i d hd
    subst q2
    obtain ⟨v', hv, av⟩ := t.get q1
    have hx := k xs (SqL.of (R.ext _ _ (g.ex _ _ h)))
    rw [hx] at hv
    cases hv
    have gz := Gr.frozen (o := .tup [.int (i : Nat), v]) (B := B1) (A := A1) hT (R.bnone hT)
    refine ⟨_, gz, R.frozen hT, .tup (.inl (.inl upd_same)) (.cons ?_ (.cons ((g.trans gz).at av) .nil))⟩
    rw [Nat.zero_add]
    exact .int _
theorem its_enumT {a : Addr} {xs : List V} {ds : List D} (h : SqT K B a xs) (t : AtL K B A xs ds) : Its K B A H (IteT K a) (enumD 0 ds) where
  go := fun i B' A' w' H' hi g R => by
    rw [enumD_length] at hi
    have hl : i < xs.length := by rw [t.length]; exact hi
    exact ⟨xs, xs[i], ex_t R.ext (ex_t g.ex h), List.getElem?_eq_getElem hl⟩
  stop := fun B' A' w' H' g R => ⟨xs, ex_t R.ext (ex_t g.ex h), by rw [enumD_length]; exact t.length⟩
  yld := fun i d B1 A1 w1 H1 x H2 hd g R y => by
    obtain ⟨T, v, ev, hT, eH, k⟩ := y
    subst ev eH
    obtain ⟨d0, q1, q2⟩ := enumD_get 0 ds i d hd
    subst q2
    obtain ⟨v', hv, av⟩ := t.get q1
    have hx := k xs (ex_t R.ext (ex_t g.ex h))
    rw [hx] at hv
    cases hv
    have gz := Gr.frozen (o := .tup [.int (i : Nat), v]) (B := B1) (A := A1) hT (R.bnone hT)
    refine ⟨_, gz, R.frozen hT, .tup (.inl (.inl upd_same)) (.cons ?_ (.cons ((g.trans gz).at av) .nil))⟩
    rw [Nat.zero_add]
    exact .int _
end
section
variable {X : Cx} {W : XW} {e : Expr} {p pos tpos : Pos} {elts : List Expr} {kk : Nat} {ma : MA}
theorem di_enum (hm : X.mg "enumerate" = none) (ha : PA X [e] (tAr (kwOf X) W ma)) (hg : Gl X "enumerate" := by rfl) (hs : starEach [e] X.env = [(false, eval e X.env)] := by rfl) :
    PI X (.Tuple elts kk tpos) (.Call (.Name "enumerate" p) [e] [] pos) (tI (kwOf X) W (iEnumM ma)) := by
  refine ⟨fun pins s σ H R I h => ?_⟩
  have hq : tAr (kwOf X) W ma σ H fun vs H1 => (∃ a, vs = [V.ref a] ∧ (∃ xs, SqL X.K H1 a xs) ∧ R (Ite X.K a) H1) ∨ (∃ a, vs = [V.ref a] ∧ (∃ xs, SqT X.K H1 a xs) ∧ R (IteT X.K a) H1) := by
    obtain ⟨B, A, w, δ, R0, E, h⟩ := h
    refine partA R0 E h fun ds w1 vs B1 A1 H1 g R1 t h1 => ?_
    split at h1
    · cases t with
      | cons a t =>
        cases t
        cases a with
        | tup hs t => exact .inr ⟨_, rfl, ⟨_, ex_t R1.ext hs⟩, h1 _ B1 A1 H1 g R1 (its_enumT hs t)⟩
        | ref ha => cases ha
    · cases t with
      | cons a t =>
        cases t
        cases a with
        | lst hs t => exact .inl ⟨_, rfl, ⟨_, SqL.of (R1.ext _ _ hs)⟩, h1 _ B1 A1 H1 g R1 (its_enumL hs t)⟩
        | ref ha => cases ha
    · exact h1.elim
  refine Call_ (ld_blt I hg hm boot_enumerate (PyProof.Rows.callWith_type1 (thn (ha.run pos pins s σ H _ I hq) fun us s1 hz => ?_) hs rfl))
  obtain ⟨vs, H1, I1, r1, q1⟩ := hz
  have two : ∀ b ∈ [s1.heap.objs.size + 1, s1.heap.objs.size], FpOk X pins H1 b := fun b hb => by
    have e' : b = s1.heap.objs.size + 1 ∨ b = s1.heap.objs.size := by simpa using hb
    have hle : s1.heap.objs.size ≤ b := by
      rcases e' with z | z
      · rw [z]; exact Nat.le_add_right _ _
      · rw [z]; exact Nat.le_refl _
    exact I1.fpOk hle (I1.hok.fresh hle)
  rcases q1 with ⟨a, rfl, ⟨xs, hs1⟩, q⟩ | ⟨a, rfl, ⟨xs, hs1⟩, q⟩
  · obtain ⟨u, rfl, ru⟩ := vals1 r1
    cases ru
    obtain ⟨its, rv, p', hz⟩ := I1.list hs1
    refine call_enumerate_list p'.isList fun h' he hit hsz hk => wpAny_pyIter_enum he ?_
    exact ⟨s1.heap.objs.size + 1, [s1.heap.objs.size + 1, s1.heap.objs.size], _, _, H1, rfl, I1.kept (t' := s1.toks) hk, turn_enum a (s1.heap.objs.size + 1) s1.heap.objs.size, ⟨⟨.none, he⟩, hit, Nat.succ_ne_self _⟩, two, q⟩
  · obtain ⟨u, rfl, ru⟩ := vals1 r1
    cases ru
    obtain ⟨its, rv, p', hz⟩ := I1.tuple hs1
    have hlt : a < s1.heap.objs.size := by
      obtain ⟨o, ho, _⟩ := p'
      exact Heap.lt_size ho
    refine call_enum1 (begins_tuple a its.toArray) p' fun h' he hit hk => wpAny_pyIter_enum he ?_
    exact ⟨s1.heap.objs.size + 1, [s1.heap.objs.size + 1, s1.heap.objs.size], _, _, H1, rfl, I1.kept (t' := s1.toks) hk, turn_enumT a (s1.heap.objs.size + 1) s1.heap.objs.size,
      ⟨⟨.none, he⟩, ⟨_, hit, rfl, rfl⟩, Nat.succ_ne_self _, Nat.ne_of_lt hlt, Nat.ne_of_lt (Nat.lt_succ_of_lt hlt)⟩, two, q⟩
end
end DP

set_option Elab.async false
set_option linter.all false
set_option maxRecDepth 100000
set_option maxHeartbeats 2000000
/-! Defs from their bodies' mirrors; the law's end. -/
namespace DP
open PySem L2 PySem.Spec PyProof.Rows

/-! ### a def -/
/-- a def by its body: so many names, so many parameters -/
def fnM (nl np : Nat) (m : MS) : FN := fun ds s => if ds.length = np then (match m (ds.map some ++ List.replicate (nl - ds.length) none) ⟨s, []⟩ with
    | .ok (.rt d, _) w => if d.cl = true then .ok d ⟨w.s, []⟩ else .stuck
    | .ok (.nx, _) w => .ok .non ⟨w.s, []⟩
    | .exc c as s => .exc c as s
    | _ => .stuck) else .stuck
theorem Gr.less {B B' : Hp} {A A' : Ad} {H H' : Hp} {M : List Addr} (hA : A = ⟨M, []⟩) (g : Gr B A H B' A' H') : Gr B A H B' ⟨A'.M, []⟩ H' := by
  subst hA
  exact ⟨⟨g.ad.1, List.prefix_refl _⟩, g.ex, g.th, g.fz, fun a o e h1 h2 => by
    obtain ⟨q1, q2, q3, q4⟩ := g.fr a o e h1 h2
    exact ⟨q1, q2, q3, fun z => nomatch z⟩⟩
theorem env_start {K : KW} {B : Hp} {A : Ad} : ∀ {N : List Str} {vs : List V} {ds : List D}, AtL K B A vs ds → EnvAt K B A (L2.start N vs) (ds.map some ++ List.replicate (N.length - ds.length) none) := by
  intro N vs ds t
  have l := t.length
  unfold L2.start
  refine ⟨by rw [List.length_append, List.length_append, List.length_map, List.length_map, List.length_replicate, List.length_replicate, l], fun i d e => ?_⟩
  by_cases hi : i < ds.length
  · rw [List.getElem?_append_left (by rw [List.length_map]; exact hi), List.getElem?_map] at e
    cases q : ds[i]? with
    | none => rw [q] at e; cases e
    | some d' =>
      rw [q] at e
      cases e
      obtain ⟨v, q1, q2⟩ := t.get q
      exact ⟨v, by rw [List.getElem?_append_left (by rw [List.length_map, l]; exact hi), List.getElem?_map, q1]; rfl, q2⟩
  · rw [List.getElem?_append_right (by rw [List.length_map]; exact Nat.le_of_not_lt hi)] at e
    obtain ⟨_, q⟩ := List.getElem?_eq_some_iff.mp e
    rw [List.getElem_replicate] at q
    cases q
section
variable {P : Program} {w : World} {K : PySem.W.Frag} {mg : Str → Option Value} {base : Heap}
/-- a def of the text -/
theorem fnG_D {CX : CXT} {k : Nat} {x qual : Str} {params : Arguments} {body : List Stmt} {scope : Scope} {dvs : List V} {kws : List (Str × V)} {f : Addr} {fd : FuncData} {N ps : List Str} {sp : Sp} (F : FunD K x qual params body scope dvs kws f fd) (S : FnScope N ps scope) (len : ∀ vs H Q E, sp vs H Q E → vs.length = ps.length)
    (hb : ∀ (cdv : Value) (A : Around) (outer : List PySem.Env) (s : Shared) (H : Hp) (vs : List V) (Q : VK) (E : XK), RoomG k (A.deeper (envOfC qual scope s.heap.objs.size f cdv)) → sp vs H Q E →
      ∃ t, PSs (cxOf CX P w K mg base N qual scope f cdv A outer s H E) body t ∧ t { nx := fun _ H' => Q .non H', rt := Q } (L2.start N vs) H) : FnG P w K mg base CX (k + 1) f fd ps sp := by
  obtain ⟨oc, od, dV, kV, doc, pm, an, cdv, ct, osl, rfl, lk, hcd, _, _⟩ := F.ex
  refine ⟨len, fun A outer s H args us vs Q E hr e0 hbd rv hsp => ?_⟩
  have hl := len _ _ _ _ hsp
  have KX : K.In s.heap := e0.mod.kin.keeps fun b o e => (e0.bs b o e).1
  have lim : s.heap.NoLimit := e0.mod.nolimit.keeps fun b o e => (e0.bs b o e).1
  have hk : ∀ y ∈ ps.zip us, scope.names.lookup y.1 = some .local ∨ (scope.names.lookup y.1 = some .cell ∧ ((cellsFrom (s.heap.objs.size + 1) scope.names []).lookup y.1).isSome = true) := fun y hy => by
    obtain ⟨n, v⟩ := y
    rcases S.par n (List.of_mem_zip hy).1 with q | q
    · exact Or.inl q
    · exact Or.inr ⟨q, PySem.W.cellsFrom_some _ _ _ (Or.inl q)⟩
  refine codeAny_call_function hr.rm.depth (KX _ _ lk) rfl S.co S.gen rfl (PySem.W.codeRec_of KX hcd) (hbd _ _ _ _ ?_)
  refine wpAny_newFunctionEnv_cells S.kind hk fun env he s1 y => ?_
  subst he
  refine ⟨lim.keeps y.toInCall.keep, codeAny_func ?_⟩
  obtain ⟨t, ht, q0⟩ := hb cdv A outer s H vs Q E (hr.deeper _) hsp
  have J0 : Inv (cxOf CX P w K mg base N qual scope f cdv A outer s H E) [] (L2.start N vs) H s1 := inv_start S hr.rm.hd e0 hl rv y
  refine wpAny_mono (ht.run [] s1 (L2.start N vs) H _ J0 q0) (fun fl s' hs => ?_) fun e s' hs => hs
  cases fl with
  | ret u =>
    obtain ⟨v, σ', H', J, rr, q⟩ := hs
    exact ⟨v, H', J.os, J.bare, J.base, J.hok, rr, q⟩
  | next =>
    obtain ⟨σ', H', J, q⟩ := hs
    exact ⟨V.non, H', J.os, J.bare, J.base, J.hok, rfl, q⟩
  | brk =>
    obtain ⟨_, _, _, q⟩ := hs
    exact q.elim
  | cont =>
    obtain ⟨_, _, _, q⟩ := hs
    exact q.elim
/-- a def whose body does as m -/
theorem fnG_M {k : Nat} {x qual : Str} {params : Arguments} {body : List Stmt} {scope : Scope} {dvs : List V} {kws : List (Str × V)} {f : Addr} {fd : FuncData} {N ps : List Str} {m : MS} (F : FunD K x qual params body scope dvs kws f fd) (S : FnScope N ps scope)
    (hb : ∀ (cdv : Value) (A : Around) (outer : List PySem.Env) (s : Shared) (H : Hp) (E : XK), RoomG k (A.deeper (envOfC qual scope s.heap.objs.size f cdv)) →
      PSs (cxOf CX0 P w K mg base N qual scope f cdv A outer s H E).nox body (tSt ⟨K, w⟩ X0 m)) : FnG P w K mg base CX0 (k + 1) f fd ps (spD ⟨K, w⟩ ps.length (fnM N.length ps.length m)) := by
  refine fnG_D F S (fun vs H Q E h => h.1) fun cdv A outer s H vs Q E hr hsp => ⟨tSt ⟨K, w⟩ X0 m, PSs.nox (hb cdv A outer s H E hr), ?_⟩
  obtain ⟨hn, B, M, st, ds, R, t, h⟩ := hsp
  refine ⟨B, ⟨M, []⟩, ⟨st, []⟩, _, R, env_start (N := N) t, ?_⟩
  unfold fnM at h
  rw [if_pos (by rw [← t.length]; exact hn)] at h
  cases q : m (ds.map some ++ List.replicate (N.length - ds.length) none) ⟨st, []⟩ with
  | stuck => rw [q] at h; exact h.elim
  | exc c as s => rw [q] at h; exact h.elim
  | ok r w' =>
    rw [q] at h
    obtain ⟨fl, δ'⟩ := r
    cases fl with
    | br => exact h.elim
    | ct => exact h.elim
    | nx =>
      intro σ' B' A' H' g R' E'
      exact h _ B' A'.M H' (g.less rfl) (Rep.shared (M := A'.M) (N := A'.N) (s := w'.s) (l := w'.l) R') .non
    | rt d =>
      have h : (if d.cl = true then Res.ok d ⟨w'.s, []⟩ else .stuck).post (fun d w' => ∀ v B' M' H', Gr B ⟨M, []⟩ H B' ⟨M', []⟩ H' → Rep ⟨K, w⟩ B' ⟨M', []⟩ ⟨w'.s, []⟩ H' → At ⟨K, w⟩ B' ⟨M', []⟩ v d → Q v H') (fun _ _ _ => False) := h
      split at h
      case isFalse => exact h.elim
      case isTrue hc =>
        intro σ' B' A' H' g R' E' v a
        exact h v B' A'.M H' (g.less rfl) (Rep.shared (M := A'.M) (N := A'.N) (s := w'.s) (l := w'.l) R') (At.clean (M := A'.M) (N := A'.N) a hc)
end

/-! ### what is looked at behind the top -/
def fragP (g : Addr → Option Obj) (n : Nat) : PySem.W.Frag := He.frG g (sysModules :: He.asD g n)
def sysOk (K : PySem.W.Frag) : Bool := (K.lookup sysModules).isSome
abbrev AlP : Type := He.AlT × Bool
def obsP (n : Nat) (fa : List He.Fa) (fn : List He.DefD) (ts : List He.Tab) (ck : List (PySem.W.Frag → Bool)) (g : Addr → Option Obj) : AlP := (He.obsT fa fn ts (fragP g n), sysOk (fragP g n) && ck.all fun c => c (fragP g n))
structure SaysP (fa : List He.Fa) (fn : List He.DefD) (ts : List He.Tab) (ck : List (PySem.W.Frag → Bool)) (w : World) (K : PySem.W.Frag) : Prop where
  t : He.SaysT fa fn ts w K
  c : (sysOk K && ck.all fun c => c K) = true
def hookP (n : Nat) (fa : List He.Fa) (fn : List He.DefD) (ts : List He.Tab) (ck : List (PySem.W.Frag → Bool)) : PySem.W.Hook where
  α := AlP
  obs := fun s => obsP n fa fn ts ck s.heap.get?
  val := fun w => (He.valT fn ts w, true)
  says := fun w h => ∃ K : PySem.W.Frag, K.In h ∧ SaysP fa fn ts ck w K
  of := fun _ _ e => ⟨_, He.frG_in, congrArg (fun z : AlP => z.1) e, congrArg (fun z : AlP => z.2) e⟩
  keeps := fun _ _ _ ⟨K, hK, c⟩ k => ⟨K, PySem.W.Frag.In.keeps hK k, c⟩
theorem obsP_eq {n : Nat} {fa : List He.Fa} {fn : List He.DefD} {ts : List He.Tab} {ck : List (PySem.W.Frag → Bool)} {g : Addr → Option Obj} {s : Shared} (h : ∀ a, g a = s.heap.get? a) : obsP n fa fn ts ck g = (hookP n fa fn ts ck).obs s := by
  have e : g = s.heap.get? := funext h
  rw [e] <;> rfl
theorem SaysP.sys {fa : List He.Fa} {fn : List He.DefD} {ts : List He.Tab} {ck : List (PySem.W.Frag → Bool)} {w : World} {K : PySem.W.Frag} (c : SaysP fa fn ts ck w K) : (K.lookup sysModules).isSome = true := (Bool.and_eq_true_iff.mp c.c).1
theorem SaysP.chk {fa : List He.Fa} {fn : List He.DefD} {ts : List He.Tab} {ck : List (PySem.W.Frag → Bool)} {w : World} {K : PySem.W.Frag} (c : SaysP fa fn ts ck w K) (i : Nat) {f : PySem.W.Frag → Bool} (h : ck[i]? = some f := by rfl) : f K = true :=
  List.all_eq_true.mp (Bool.and_eq_true_iff.mp c.c).2 f (List.mem_of_getElem? h)

/-! ### the law's call -/
/-- from the heap behind the top, for a promise of a def that shows -/
theorem law_callG {P : Program} {w : World} {K : PySem.W.Frag} {mg mb : Str → Option Value} {k : Nat} {fa a : Addr} {fd : FuncData} {x : Str} {F : FN} {s₁ : Shared} {vs : List Value} {ns : List Int}
    (KX : K.In s₁.heap) (hns : s₁.heap.Ns mainGlobals mg) (hb : s₁.heap.Ns builtinsNs mb) (hbb : ∀ x : Str, x ≠ "__name__" → mb x = bootBuiltins x) (hlim : s₁.heap.NoLimit) (hg : s₁.gens = #[])
    (ha : s₁.heap.get? a = some { cls := .type "list", data := .seq vs.toArray }) (hi : IntsAre vs ns) (hl : ns.length ≤ sizeLine) (hr : RoomG k callerA)
    (hF : ∀ base : Heap, K.In base → base.Ns mainGlobals mg → FnG P w K mg base CX0 k fa fd [x] (spD ⟨K, w⟩ 1 F)) (hbind : ∀ (s : Shared) (u : Value), BindsTo s fd ⟨[u], []⟩ [(x, u)])
    (ok : ∃ w', F [.scr ns] [] = .ok (.bl true) w') :
    codeAny (model P w) callerA (.call (.ref fa) ⟨[.ref a], []⟩) (fun r s' => r = .ok (.ret (.bool true)) ∧ OldK s₁.heap s'.heap ∧ s'.os = s₁.os ∧ AllBare s'.gens) s₁ := by
  have rv := vals_ints hi
  -- whatever is tracked of the script
  have main : ∀ H : Hp, (∀ b u, H b = some u → b = a ∧ u = .frz { cls := .type "list", data := .seq vs.toArray } (.lst (ns.map V.int)) ∧ K.lookup a = none) → SqL K H a (ns.map V.int) → HOk P w H s₁.heap →
      codeAny (model P w) callerA (.call (.ref fa) ⟨[.ref a], []⟩) (fun r s' => r = .ok (.ret (.bool true)) ∧ OldK s₁.heap s'.heap ∧ s'.os = s₁.os ∧ AllBare s'.gens) s₁ := by
    intro H only hS hok
    have apart : ∀ {b : Addr} {o : Obj}, s₁.heap.get? b = some o → (∀ es ep, o.data = .dict es ep → H b = none) ∧ (K.lookup b = some o → H b = none) := fun {b o} e => by
      refine ⟨fun es ep d => ?_, fun q => ?_⟩
      · cases z : H b with
        | none => rfl
        | some u =>
          obtain ⟨rfl, _, _⟩ := only b u z
          rw [ha] at e
          cases e
          cases d
      · cases z : H b with
        | none => rfl
        | some u =>
          obtain ⟨rfl, _, kn⟩ := only b u z
          rw [kn] at q
          cases q
    have names : ∀ {b : Addr} {m : Str → Option Value}, s₁.heap.Ns b m → (hidT s₁.heap H).Ns b m := fun {b m} ⟨o, es, ep, e, d, r⟩ => ⟨o, es, ep, hidT_get e ((apart e).1 es ep d), d, r⟩
    have hK : K.In (hidT s₁.heap H) := fun b o e => hidT_get (KX b o e) ((apart (KX b o e)).2 e)
    have e0 : Env0 P w K mg (hidT s₁.heap H) callerA [] s₁ H := ⟨rfl, ⟨hK, names hns, ⟨mb, names hb, hbb⟩, let ⟨mc, h1, h2⟩ := hlim; ⟨mc, names h1, h2⟩⟩, fun b o e => of_hidT e, Nat.le_of_eq (hidT_size _ _), trivial,
      fun b hb => absurd (show b ∈ ([] : List Addr) from hb) (by simp), hok, .of_eq hg⟩
    have R : Rep ⟨K, w⟩ H ⟨[], []⟩ ⟨[], []⟩ H := ⟨.refl _, rfl, rfl, List.nodup_nil, (fun b hb => nomatch hb), (fun o ho => nomatch ho), fun d o b h1 h2 => by
      cases d with
      | loc n => exact absurd h1 (by simp [Wd.get])
      | own n => exact absurd h1 (by simp [Wd.get])
      | _ => cases h1⟩
    obtain ⟨w', ew⟩ := ok
    have sp : spD ⟨K, w⟩ 1 F [.ref a] H (fun v _ => v = .bl true) (fun _ _ _ => False) := by
      refine ⟨rfl, H, [], [], [.scr ns], R, .cons (.scr hS) .nil, ?_⟩
      rw [ew]
      exact fun v B' M' H' g R' q => q.bl_inv
    refine codeAny_mono ((hF _ hK (names hns)).run callerA [] s₁ H ⟨[.ref a], []⟩ [.ref a] [.ref a] _ _ hr e0 (hbind s₁ (.ref a)) (.cons rfl .nil) sp) fun r s' h => ?_
    cases r with
    | error e => exact (show False from h).elim
    | ok fl =>
      cases fl with
      | next => exact False.elim h
      | brk => exact False.elim h
      | cont => exact False.elim h
      | ret u =>
        obtain ⟨v, H', os, bare, un, hok', r', q⟩ := h
        obtain rfl : v = .bl true := q
        obtain rfl : u = Value.bool true := r'
        refine ⟨rfl, OldK.of_keep fun b o e => ?_, os, bare⟩
        cases z : H b with
        | none => exact un.keep b o e z (fun y => absurd (show b ∈ ([] : List Addr) from y) (by simp)) (by simp)
        | some u =>
          obtain ⟨rfl, rfl, _⟩ := only b u z
          obtain ⟨e1, _⟩ := hok b _ z
          obtain ⟨e2, _⟩ := hok' b _ (un.frzs b _ _ z)
          rw [e] at e1
          cases e1
          exact e2
  cases hk : K.lookup a with
  | some o =>
    have e := KX a o hk
    rw [ha] at e
    cases e
    refine main (fun _ => none) (fun b u z => (by cases (show (none : Option HO) = some u from z))) (.inr ⟨_, vs.toArray, _, hk, rfl, rfl, rfl, ?_, by simpa using rv⟩) fun b u z => by cases (show (none : Option HO) = some u from z)
    rw [List.size_toArray, hi.length]
    exact hl
  | none =>
    have at_ : ∀ b u, (if b = a then some (HO.frz { cls := .type "list", data := .seq vs.toArray } (.lst (ns.map V.int))) else none) = some u → b = a ∧ u = .frz { cls := .type "list", data := .seq vs.toArray } (.lst (ns.map V.int)) := fun b u z => by
      by_cases y : b = a
      · rw [if_pos y] at z
        exact ⟨y, (Option.some.inj z).symm⟩
      · rw [if_neg y] at z
        cases z
    refine main (fun b => if b = a then some (.frz { cls := .type "list", data := .seq vs.toArray } (.lst (ns.map V.int))) else none) (fun b u z => ⟨(at_ b u z).1, (at_ b u z).2, hk⟩) (.inl (.inr ⟨_, if_pos rfl⟩)) fun b u z => ?_
    obtain ⟨rfl, rfl⟩ := at_ b u z
    exact ⟨ha, by rw [List.length_map]; exact hl, vs, _, rv, ha⟩
theorem roomG_caller {k : Nat} (h : Room k callerA) : RoomG k callerA := ⟨h, rfl⟩
/-- the goal that the head leaves -/
theorem walkG {l : PySem.W.OpenLaw} {n k : Nat} {q : Program} {loose : List Str} {XP : (Str → Option Value) → Heap → Prop} {YP : World → Heap → Prop} {d : DefRec} {x : Str} {F : FN}
    (hn : l.most = some n) (hn2 : n ≤ sizeLine) (hdf : d.params.defaults = []) (hr : Room k callerA)
    (hF : ∀ (w : World) (mg : Str → Option Value) (fa : Addr) (h : Heap), YP w h → h.Ns mainGlobals mg → mg d.name = some (.ref fa) →
      ∃ (K : PySem.W.Frag) (fd : FuncData), K.In h ∧ (∀ (s : Shared) (u : Value), BindsTo s fd ⟨[u], []⟩ [(x, u)]) ∧ ∀ base : Heap, K.In base → base.Ns mainGlobals mg → FnG l.prog w K mg base CX0 k fa fd [x] (spD ⟨K, w⟩ 1 F))
    (ok : ∀ ns : List Int, ns.length ≤ n → ∃ w', F [.scr ns] [] = .ok (.bl true) w') :
    PySem.W.WalkO q loose XP YP l.row.toRowW d [] (fun f vs => PySem.call f vs) := by
  refine Att.attach_call hn hdf fun w s₀ s₁ mg mb fa o pm cd doc a vs ns G Y ho hd hcd hmg hobj hints hlen hg => ?_
  obtain ⟨K, fd, KX, hb, f⟩ := hF w mg fa _ Y G.T.g hmg
  exact law_callG KX G.T.g G.T.b G.T.builtins G.T.nolimit hg hobj hints (Nat.le_trans hlen hn2) (roomG_caller hr) f hb (ok ns hlen)
end DP

set_option Elab.async false
set_option linter.all false
set_option maxRecDepth 100000
set_option maxHeartbeats 2000000
/-! What the printed texts use: chains, any slice, giving, calls by name, constants. -/
namespace DP
open PySem L2 PySem.Spec PyProof.Rows

theorem PE.or {X : Cx} {e : Expr} {t t' : TE} (h : PE X e t) (h' : PE X e t') : PE X e (fun σ H Q => t σ H Q ∨ t' σ H Q) := ⟨fun pins s σ H Q I q => q.elim (h.run pins s σ H Q I) (h'.run pins s σ H Q I)⟩
/-- any slice without a step; of a list: data -/
def opSlA (d : D) (lo hi : Option Int) (w : Wd) : Res D := match lstOf w d with
  | some xs => .ok (.lst (cutD xs lo hi)) w
  | none => opSl d lo hi w
def eSlA (m : ME) (ml mh : MO) : ME := fun δ w => (m δ w).bind fun d w1 => (ml δ w1).bind fun lo w2 => (mh δ w2).bind fun hi w3 => opSlA d lo hi w3
def opChain (f g : D → D → Wd → Res D) (a b : D) (mc : ME) (δ : Env) (w : Wd) : Res D := (f a b w).bind fun z w1 => match z with
  | .bl true => (mc δ w1).bind fun c w2 => g b c w2
  | .bl false => .ok (.bl false) w1
  | _ => .stuck
def eChain (f g : D → D → Wd → Res D) (ma mb mc : ME) : ME := fun δ w => (ma δ w).bind fun a w1 => (mb δ w1).bind fun b w2 => opChain f g a b mc δ w2
/-- the list at slot i becomes data, whatever the statement then does -/
def sGive (i : Nat) (m : MS) : MS := fun δ w => match varD δ i with
  | some d => (match lstOf w d with
    | some ds => m (δ.set i (some (.lst ds))) (w.put d .gone)
    | none => .stuck)
  | none => .stuck
section
variable {X : Cx} {W : XW} {pos p2 p : Pos} {e a b c : Expr} {es : List Expr} {lo hi : Option Expr} {me ma mb mc : ME} {ml mh : MO} {mr : MA}
theorem de_slA (he : PE X e (tE (kwOf X) W me)) (hl : PO X lo (tO (kwOf X) W ml)) (hh : PO X hi (tO (kwOf X) W mh)) : PE X (.Subscript e (.Slice lo hi none p2) pos) (tE (kwOf X) W (eSlA me ml mh)) := by
  refine PE.weaken (PE.or (de_frz (df_sl he hl hh)) (de_sl he hl hh)) fun σ H Q h => ?_
  obtain ⟨B, A, w, δ, R, E, h⟩ := h
  unfold eSlA at h
  cases q1 : me δ w with
  | stuck => rw [q1] at h; exact h.elim
  | exc c as s => exact .inr ⟨B, A, w, δ, R, E, by unfold eSl; rw [q1] at h ⊢; exact h⟩
  | ok d w1 =>
    cases q2 : ml δ w1 with
    | stuck => rw [q1] at h; unfold Res.bind at h; simp only [q2] at h; exact h.elim
    | exc c as s =>
      refine .inr ⟨B, A, w, δ, R, E, ?_⟩
      rw [q1] at h
      unfold eSl
      rw [q1]
      unfold Res.bind at h ⊢
      simp only [q2] at h ⊢
      exact h
    | ok o w2 =>
      cases q3 : mh δ w2 with
      | stuck => rw [q1] at h; unfold Res.bind at h; simp only [q2, q3] at h; exact h.elim
      | exc c as s =>
        refine .inr ⟨B, A, w, δ, R, E, ?_⟩
        rw [q1] at h
        unfold eSl
        rw [q1]
        unfold Res.bind at h ⊢
        simp only [q2, q3] at h ⊢
        exact h
      | ok u w3 =>
        rw [q1] at h
        unfold Res.bind at h
        simp only [q2, q3] at h
        unfold opSlA at h
        cases q4 : lstOf w3 d with
        | none =>
          rw [q4] at h
          refine .inr ⟨B, A, w, δ, R, E, ?_⟩
          unfold eSl
          rw [q1]
          unfold Res.bind
          simp only [q2, q3]
          exact h
        | some xs =>
          rw [q4] at h
          refine .inl ⟨B, A, w, δ, R, E, ?_⟩
          unfold eFrz fSl
          rw [q1]
          unfold Res.bind
          simp only [q2, q3, q4]
          exact h
theorem chain_of {op op' : CmpOp} {r r' : R2} {f g : D → D → Wd → Res D} (hf : OpD (kwOf X) r f) (hg : OpD (kwOf X) r' g) {σ : L2.St} {H : Hp} {Q : VK} (h : tE (kwOf X) W (eChain f g ma mb mc) σ H Q) : tChain r r' (tE (kwOf X) W ma) (tE (kwOf X) W mb) (tE (kwOf X) W mc) σ H Q := by
  obtain ⟨B, A, w, δ, R, E, h⟩ := h
  refine part R E h fun da w1 va B1 A1 H1 g1 R1 a1 h1 => ?_
  refine part R1 (g1.env E) h1 fun db w2 vb B2 A2 H2 g2 R2 a2 h2 => ?_
  refine hf R2 (g2.at a1) a2 (Res.post_mono (Res.post_bind h2) (fun z w3 h3 vz B3 A3 H3 g3 R3 a3 => ?_) fun _ _ _ z => z)
  have g13 := (g1.trans g2).trans g3
  split at h3
  · cases a3.bl_inv
    refine ⟨true, rfl, ?_⟩
    rw [if_pos rfl]
    refine ⟨B3, A3, w3, δ, R3, g13.env E, Res.post_mono (Res.post_bind h3) (fun dc w4 h4 vc B4 A4 H4 g4 R4 a4 => ?_) fun _ _ _ z => W.mono g3 z⟩
    exact hg R4 ((g3.trans g4).at a2) a4 (post_shift h4 (g13.trans g4))
  · cases a3.bl_inv
    refine ⟨false, rfl, ?_⟩
    rw [if_neg (by decide)]
    exact h3 _ B3 A3 H3 g13 R3 (.bl false)
  · exact h3.elim
theorem de_chain {op op' : CmpOp} {r r' : R2} {f g : D → D → Wd → Res D} (hr : OpR X (compareOp op) r) (ho : OpD (kwOf X) r f) (hr' : OpR X (compareOp op') r') (ho' : OpD (kwOf X) r' g) (ha : PE X a (tE (kwOf X) W ma)) (hb : PE X b (tE (kwOf X) W mb)) (hc : PE X c (tE (kwOf X) W mc))
    (hm : lastMarks [op, op'] [b, c] = false := by with_unfolding_all rfl) : PE X (.Compare a [op, op'] [b, c] pos) (tE (kwOf X) W (eChain f g ma mb mc)) :=
  PE.weaken (pe_chain hr hr' ha hb hc hm) fun _ _ _ h => chain_of (op := op) (op' := op') ho ho' h
theorem dt_chain {op op' : CmpOp} {r r' : R2} {f g : D → D → Wd → Res D} (hr : OpR X (compareOp op) r) (ho : OpD (kwOf X) r f) (hr' : OpR X (compareOp op') r') (ho' : OpD (kwOf X) r' g) (ha : PE X a (tE (kwOf X) W ma)) (hb : PE X b (tE (kwOf X) W mb)) (hc : PE X c (tE (kwOf X) W mc))
    (hm : lastMarks [op, op'] [b, c] = false := by with_unfolding_all rfl) : PT X (.Compare a [op, op'] [b, c] pos) (tTt (kwOf X) W (tB_ (eChain f g ma mb mc))) :=
  PT.weaken (pt_chain hr hr' ha hb hc hm) fun _ _ _ h => chain_of (op := op) (op' := op') ho ho' (tE_bool h)
theorem ds_give (i : Nat) {st : Stmt} {m : MS} (h : PS X st (tSt (kwOf X) W m)) : PS X st (tSt (kwOf X) W (sGive i m)) := by
  refine PS.weaken h fun U σ H q => ?_
  obtain ⟨B, A, w, δ, R, E, q⟩ := q
  unfold sGive at q
  cases ev : varD δ i with
  | none => rw [ev] at q; exact q.elim
  | some d =>
    rw [ev] at q
    have q : (match lstOf w d with
      | some ds => m (δ.set i (some (.lst ds))) (w.put d .gone)
      | none => .stuck).post (FinS (kwOf X) B A H U) (W.P B A H) := q
    cases el : lstOf w d with
    | none => rw [el] at q; exact q.elim
    | some ds =>
      rw [el] at q
      obtain ⟨v, hv, a⟩ := E.2 i d (varD_some ev)
      have set_self : σ.set i (some v) = σ := by
        obtain ⟨hl, e⟩ := List.getElem?_eq_some_iff.mp hv
        rw [← e]
        exact List.set_getElem_self hl
      cases a with
      | ref ha =>
        have hg : w.get d = some (.lst ds) := by
          cases d with
          | loc n => exact soL_some el
          | own n => exact soL_some el
          | _ => cases ha
        obtain ⟨xs, hB, hH, R2, g2, a2⟩ := R.freeze hg ha
        have E2 := (g2.env E).set a2 i
        rw [set_self] at E2
        exact ⟨_, A, _, _, R2, E2, Res.post_mono (postS_shift q g2) (fun _ _ z => z) fun _ _ _ z => W.mono g2 z⟩
      | lst hb t =>
        cases el
        have E2 := E.set (At.lst (K := kwOf X) (A := A) hb t) i
        rw [set_self] at E2
        have ew : w.put (.lst ds) .gone = w := rfl
        rw [ew] at q
        exact ⟨B, A, w, _, R, E2, q⟩
      | _ => cases el
/-- two tests of a comprehension; a test of a comprehension -/
theorem dts_one {m : MT} (h : PT X c (tTt (kwOf X) W m)) : PTs X [c] (tTt (kwOf X) W m) := pts_one h
end

/-! ### defs by name -/
structure DOk (P : Program) (w : World) (K : PySem.W.Frag) (mg : Str → Option Value) (base : Heap) (k : Nat) (x : Str) (ps : List Str) (F : FN) : Prop where
  ex : ∃ (f : Addr) (fd : FuncData), FnG P w K mg base CX0 k f fd ps (spD ⟨K, w⟩ ps.length F) ∧ Binds K fd ps [] ∧ PySem.W.keepIn K (.ref f) = true ∧ mg x = some (.ref f)
section
variable {X : Cx} {j k : Nat} {ps : List Str} {F : FN} {x : Str} {p pos : Pos} {e : Expr} {es : List Expr} {mr : MA}
theorem dc_call (G : DOk X.prog X.w X.K X.mg X.base j x ps F) (hr : RoomG k X.A) (ha : PA X (e :: es) (tAr (kwOf X) X0 mr)) (hlen : LenA mr ps.length) (hjk : j ≤ k := by decide) (hg : Gl X x := by rfl) (hn : (e :: es).length = ps.length := by rfl)
    (hdb : (x == ("__debug__" : Str)) = false := by decide) (he : starEach (e :: es) X.env = (false, eval e X.env) :: starEach es X.env := by rfl) (hpl : (backTo pos (starEach es X.env)).any (·.1) = false := by rfl) :
    PE X (.Call (.Name x p) (e :: es) [] pos) (tE (kwOf X) X0 (eCall F mr)) := by
  obtain ⟨f, fd, G, hb, hk, hm⟩ := G.ex
  exact de_call (G.up hjk) hr hm hk hb ha hg hn hlen hdb he hpl
theorem dc_call0 (G : DOk X.prog X.w X.K X.mg X.base j x [] F) (hr : RoomG k X.A) (hjk : j ≤ k := by decide) (hg : Gl X x := by rfl) (hdb : (x == ("__debug__" : Str)) = false := by decide) : PE X (.Call (.Name x p) [] [] pos) (tE (kwOf X) X0 (eCall F aNil)) := by
  obtain ⟨f, fd, G, hb, hk, hm⟩ := G.ex
  exact de_call0 (G.up hjk) hr hm hk hb hg hdb
end
/-- a method of the class C -/
structure MOk (P : Program) (w : World) (K : PySem.W.Frag) (mg : Str → Option Value) (base : Heap) (k : Nat) (C m : Str) (ps : List Str) (F : FN) : Prop where
  ex : ∃ (f : Addr) (fd : FuncData), FnG P w K mg base CX0 k f fd ps (spD ⟨K, w⟩ ps.length F) ∧ Binds K fd ps [] ∧ Meth K (clsA ⟨K, w⟩ C) m f ∧ Cls K (clsA ⟨K, w⟩ C)
/-- a class with an __init__ of its own -/
structure COk (P : Program) (w : World) (K : PySem.W.Frag) (mg : Str → Option Value) (base : Heap) (k : Nat) (C : Str) (ps : List Str) (F : FN) : Prop where
  ex : ∃ (f : Addr) (fd : FuncData), FnG P w K mg base CX0 k f fd ps (spD ⟨K, w⟩ ps.length F) ∧ Binds K fd ps [] ∧ Mk K (clsA ⟨K, w⟩ C) f ∧ mg C = some (.ref (clsA ⟨K, w⟩ C))
section
variable {X : Cx} {j k n : Nat} {ps : List Str} {F : FN} {x m C s0 : Str} {p pos apos : Pos} {e o : Expr} {es : List Expr} {mo : ME} {mr : MA}
theorem dc_mth {pl : Sem Bool} (G : MOk X.prog X.w X.K X.mg X.base j C m (s0 :: ps) F) (hr : RoomG k X.A) (ho : PE X o (tE (kwOf X) X0 mo)) (ha : PA X (e :: es) (tAr (kwOf X) X0 mr)) (hlen : LenA mr ps.length) (hjk : j ≤ k := by decide)
    (hst : starEach (e :: es) X.env = (false, eval e X.env) :: starEach es X.env := by rfl) (hpl : (backTo pos (starEach es X.env)).any (·.1) = false := by rfl)
    (ht : eval (.Call (.Attribute o m apos) (e :: es) [] pos) X.env = (do
      let ov ← eval o X.env
      standAt apos.atName
      let (f, first) ← holding [ov] (getMethod ov m pl)
      callWith pos f first (backTo pos (starEach (e :: es) X.env)) (backToKw pos (keywordEach [] X.env))) := by rfl) :
    PE X (.Call (.Attribute o m apos) (e :: es) [] pos) (tE (kwOf X) X0 (eMth C m F mo mr)) := by
  obtain ⟨f, fd, G, hb, hm, c⟩ := G.ex
  exact de_mth c hm (G.up hjk) hr hb ho ha hlen hst hpl ht
theorem dc_make (G : COk X.prog X.w X.K X.mg X.base j C (s0 :: ps) F) (hr : RoomG (k + 1) X.A) (ha : PA X (e :: es) (tAr (kwOf X) X0 mr)) (hlen : LenA mr ps.length) (hjk : j ≤ k := by decide) (hg : Gl X C := by rfl)
    (hdb : (C == ("__debug__" : Str)) = false := by decide) (he : starEach (e :: es) X.env = (false, eval e X.env) :: starEach es X.env := by rfl) (hpl : (backTo pos (starEach es X.env)).any (·.1) = false := by rfl) :
    PE X (.Call (.Name C p) (e :: es) [] pos) (tE (kwOf X) X0 (eMake C F mr)) := by
  obtain ⟨f, fd, G, hb, M, hm⟩ := G.ex
  exact de_make M (G.up hjk) hr hm hb ha hlen hg hdb he hpl
end

/-! ### written constants -/
def chkL (f : Value → D → Bool) : List Value → List D → Bool
  | [], [] => true
  | u :: us, d :: ds => f u d && chkL f us ds
  | _, _ => false
def chkD (K : PySem.W.Frag) : Nat → Value → D → Bool
  | 0, _, _ => false
  | _ + 1, .none, .non => true
  | _ + 1, .bool a, .bl b => a == b
  | _ + 1, .int i _, .int j => decide (i = j)
  | _ + 1, .str x _, .str y => decide (x = y)
  | n + 1, .ref a, .tup ds => (match K.lookup a with
    | some ⟨.type c, _, .seq its _, _⟩ => decide (c = "tuple") && (decide (its.size ≤ sizeLine) && chkL (chkD K n) its.toList ds)
    | _ => false)
  | _, _, _ => false
theorem chkL_ok {K : KW} {f : Value → D → Bool} (hf : ∀ u d, f u d = true → ∃ v, RelV v u ∧ ∀ B A, At K B A v d) : ∀ {us : List Value} {ds : List D}, chkL f us ds = true → ∃ vs, Vals vs us ∧ ∀ B A, AtL K B A vs ds
  | [], [], _ => ⟨[], .nil, fun _ _ => .nil⟩
  | u :: us, d :: ds, h => by
    unfold chkL at h
    rw [Bool.and_eq_true] at h
    obtain ⟨v, r, a⟩ := hf u d h.1
    obtain ⟨vs, rs, as⟩ := chkL_ok hf h.2
    exact ⟨v :: vs, .cons r rs, fun B A => .cons (a B A) (as B A)⟩
  | [], _ :: _, h => by cases h
  | _ :: _, [], h => by cases h
theorem chkD_ok {K : KW} : ∀ (n : Nat) (u : Value) (d : D), chkD K.K n u d = true → ∃ v, RelV v u ∧ ∀ B A, At K B A v d
  | 0, _, _, h => by cases h
  | n + 1, u, d, h => by
    unfold chkD at h
    split at h
    · rename_i q; cases q
    · exact ⟨.non, rfl, fun _ _ => .non⟩
    · rename_i a b _
      have e := eq_of_beq h
      subst e
      exact ⟨.bl _, rfl, fun _ _ => .bl _⟩
    · have e := of_decide_eq_true h
      subst e
      exact ⟨.int _, ⟨_, rfl⟩, fun _ _ => .int _⟩
    · have e := of_decide_eq_true h
      subst e
      exact ⟨.str _, ⟨_, rfl⟩, fun _ _ => .str _⟩
    · rename_i m a ds q
      cases q
      split at h
      · rename_i c od its k sl e
        rw [Bool.and_eq_true, Bool.and_eq_true] at h
        have ec := of_decide_eq_true h.1
        subst ec
        obtain ⟨vs, rs, as⟩ := chkL_ok (chkD_ok n) h.2.2
        exact ⟨.ref a, rfl, fun B A => .tup (.inr ⟨_, its, k, e, rfl, rfl, of_decide_eq_true h.2.1, rs⟩) (as B A)⟩
      · cases h
    · cases h
/-- a name's constant, by what is looked at -/
def chkG (x : Str) (d : D) (K : PySem.W.Frag) : Bool := match PySem.W.nsIn K mainGlobals x with
  | some (some u) => chkD K 9 u d
  | _ => false
theorem glo_chk {K : KW} {mg : Str → Option Value} {h : Heap} {x : Str} {d : D} (X : K.K.In h) (G : h.Ns mainGlobals mg) (c : chkG x d K.K = true) : Glo K mg x d := by
  unfold chkG at c
  split at c
  · rename_i u e
    obtain ⟨v, r, a⟩ := chkD_ok 9 u d c
    exact ⟨⟨u, v, PySem.W.mg_of X G e, r, a⟩⟩
  · cases c
theorem find_key : ∀ {es : List DictEntry} {ks : List Str} {us : List Value} (z : Str), es.map keyS = ks.map some → us = es.map (·.val) → (match es.find? (·.key.isStr z) with
      | some e => some (some e.val)
      | none => if es.any (·.refKey) then none else some none) = some ((ks.zip us).lookup z)
  | [], [], us, z, _, eu => by
    subst eu
    rfl
  | [], k :: ks, us, z, h, _ => by cases h
  | e :: es, [], us, z, h, _ => by cases h
  | e :: es, k :: ks, us, z, h, eu => by
    subst eu
    rw [List.map_cons, List.map_cons, List.cons.injEq] at h
    obtain ⟨h1, h2⟩ := h
    have ek : ∃ t, e.key = .str k t := by
      unfold keyS at h1
      split at h1
      · rename_i x t q
        cases h1
        exact ⟨t, q⟩
      · cases h1
    obtain ⟨t, ek⟩ := ek
    have ih := find_key (us := es.map (·.val)) z h2 rfl
    rw [List.map_cons, List.zip_cons_cons, List.lookup_cons, List.find?_cons]
    have es1 : e.key.isStr z = (k == z) := by rw [ek]; rfl
    have er : e.refKey = false := by unfold DictEntry.refKey; rw [ek]
    rw [es1]
    by_cases q : k = z
    · subst q
      rw [beq_self_eq_true]
    · have q1 : (k == z) = false := beq_eq_false_iff_ne.mpr q
      have q2 : (z == k) = false := beq_eq_false_iff_ne.mpr (Ne.symm q)
      rw [q1, q2, List.any_cons, er, Bool.false_or]
      exact ih
/-- a name's dict with text keys -/
def chkK (x : Str) (ks : List Str) (ds : List D) (K : PySem.W.Frag) : Bool := match PySem.W.nsIn K mainGlobals x with
  | some (some (.ref a)) => decide (a = He.ga K x) && (match K.lookup a with
    | some ⟨_, _, .dict es _, _⟩ => decide (es.toList.map keyS = ks.map some) && chkL (chkD K 9) (es.toList.map (·.val)) ds
    | _ => false)
  | _ => false
theorem glo_chkK {K : KW} {mg : Str → Option Value} {h : Heap} {x : Str} {ks : List Str} {ds : List D} (X : K.K.In h) (G : h.Ns mainGlobals mg) (t : ∃ es n, KDict K.K K.w (He.ga K.K x) es n) (c : chkK x ks ds K.K = true) : Glo K mg x (.gd ks ds) := by
  unfold chkK at c
  split at c
  · rename_i a e
    rw [Bool.and_eq_true] at c
    have ea := of_decide_eq_true c.1
    have c2 := c.2
    split at c2
    · rename_i oc od es m sl el
      rw [Bool.and_eq_true] at c2
      obtain ⟨vs, rs, as⟩ := chkL_ok (chkD_ok 9) c2.2
      have hk := of_decide_eq_true c2.1
      subst ea
      have hlen : ks.length = (es.toList.map (·.val)).length := by
        have := congrArg List.length hk
        rw [List.length_map, List.length_map] at this
        rw [List.length_map, this]
      have ti := t
      obtain ⟨es', n', D⟩ := t
      have el2 := D.at_
      rw [el] at el2
      cases el2
      refine ⟨⟨.ref _, .ref _, PySem.W.mg_of X G e, rfl, fun B A => .gd ⟨ti, ⟨_, _, D.at_, hk, rfl, D.low⟩, hlen, fun z => ?_⟩ rs (as B A)⟩⟩
      unfold PySem.W.nsIn
      rw [el]
      exact find_key z hk rfl
    · cases c2
  · cases c
end DP

set_option Elab.async false
set_option linter.all false
set_option maxRecDepth 100000
set_option maxHeartbeats 2000000
/-! New lists by + and *; pop at a place; three names at once; a written dict's items. -/
namespace DP
open PySem L2 PySem.Spec PyProof.Rows

def fCat (ma mb : ME) : MF := fun δ w => (ma δ w).bind fun a w1 => (mb δ w1).bind fun b w2 => match lstOf w2 a, lstOf w2 b with
  | some xs, some ys => if xs.length + ys.length ≤ sizeLine then .ok (xs ++ ys) w2 else .stuck
  | _, _ => .stuck
def fRep (ma mb : ME) : MF := fun δ w => (ma δ w).bind fun a w1 => (mb δ w1).bind fun b w2 => match lstOf w2 a, b with
  | some xs, .int k => if -(2 ^ 63) ≤ k ∧ k < 2 ^ 63 ∧ xs.length * k.toNat ≤ sizeLine then .ok (List.replicate k.toNat xs).flatten w2 else .stuck
  | _, _ => .stuck
/-- list.pop(i) -/
def opPopAt (o : D) (ds : List D) (w : Wd) : Res D := match w.get o, ds with
  | some (.lst xs), [.int i] => (match ixN xs.length i with
    | some j => (match xs[j]? with
      | some d => if -(2 ^ 63) ≤ i ∧ i < 2 ^ 63 then .ok d (w.put o (.lst (xs.eraseIdx j))) else .stuck
      | none => .stuck)
    | none => .stuck)
  | _, _ => .stuck
theorem AtL.erase {K : KW} {B : Hp} {A : Ad} : ∀ {vs : List V} {ds : List D} (n : Nat), AtL K B A vs ds → AtL K B A (vs.eraseIdx n) (ds.eraseIdx n)
  | _, _, _, .nil => .nil
  | _, _, 0, .cons _ t => t
  | _, _, n + 1, .cons h t => .cons h (AtL.erase n t)
theorem D.clL_erase {ds : List D} (h : D.clL ds = true) : ∀ n : Nat, D.clL (ds.eraseIdx n) = true := by
  induction ds with
  | nil => intro n; exact h
  | cons x xs ih =>
    intro n
    rw [D.clL, Bool.and_eq_true] at h
    cases n with
    | zero => exact h.2
    | succ n =>
      show D.clL (x :: xs.eraseIdx n) = true
      rw [D.clL, h.1, ih h.2 n]
      rfl
theorem md_popAt {K : KW} : MtD K "list" rPopAt opPopAt := by
  intro B A w H x vs dx ds Q Ee R hx t h
  unfold opPopAt at h
  split at h
  · rename_i xs i hg
    obtain ⟨a, rfl, ha⟩ := get_at R hx hg
    rcases R.ob dx _ a hg ha with ⟨z, _⟩ | ⟨hB, us, hH, tt⟩
    · cases z
    cases t with
    | cons a1 t =>
      cases t
      cases a1.int_inv
      split at h
      · rename_i j ej
        split at h
        · rename_i d e
          split at h
          case isFalse => exact h.elim
          case isTrue hz =>
            obtain ⟨v, e1, e2⟩ := tt.get e
            obtain ⟨R2, g2⟩ := R.upd hg ha (h' := .lst (us.eraseIdx j)) (o' := .lst (xs.eraseIdx j)) hH (fun _ z => by cases z) (fun _ _ z => by cases z) hB ⟨_, upd_same, tt.erase j⟩ (fun n e => by
              subst e
              have q0 : D.clL xs = true := R.clOf hg
              exact D.clL_erase q0 j)
            exact ⟨a, us, i, j, v, rfl, rfl, hH, hz.1, hz.2, by rw [tt.length]; exact (ixN_seq ej).1, e1, h _ B A _ g2 R2 e2⟩
        · exact h.elim
      · exact h.elim
  · exact h.elim
section
variable {X : Cx} {W : XW} {pos : Pos} {a b c : Expr} {ma mb : ME}
theorem df_cat (ha : PE X a (tE (kwOf X) W ma)) (hb : PE X b (tE (kwOf X) W mb)) : PE X (.BinOp a .Add b pos) (tF (kwOf X) W (fCat ma mb)) := by
  refine PE.weaken (pe_op op_cat ha hb) fun σ H Q h => ?_
  obtain ⟨B, A, w, δ, R, E, h⟩ := h
  refine part R E h fun da w1 va B1 A1 H1 g1 R1 a1 h1 => ?_
  refine part R1 (g1.env E) h1 fun db w2 vb B2 A2 H2 g2 R2 a2 h2 => ?_
  split at h2
  · rename_i xs ys e1 e2
    split at h2
    case isFalse => exact h2.elim
    case isTrue hz =>
      obtain ⟨p, us, rfl, q1, t1⟩ := R2.lstAt (g2.at a1) e1
      obtain ⟨q, ws, rfl, q2, t2⟩ := R2.lstAt a2 e2
      exact ⟨p, q, us, ws, rfl, rfl, q1, q2, by rw [t1.length, t2.length]; exact hz, fun l hl => FinF.new h2 (g1.trans g2) R2 (t1.append t2) hl⟩
  · exact h2.elim
theorem df_rep (ha : PE X a (tE (kwOf X) W ma)) (hb : PE X b (tE (kwOf X) W mb)) : PE X (.BinOp a .Mult b pos) (tF (kwOf X) W (fRep ma mb)) := by
  refine PE.weaken (pe_op op_rep ha hb) fun σ H Q h => ?_
  obtain ⟨B, A, w, δ, R, E, h⟩ := h
  refine part R E h fun da w1 va B1 A1 H1 g1 R1 a1 h1 => ?_
  refine part R1 (g1.env E) h1 fun db w2 vb B2 A2 H2 g2 R2 a2 h2 => ?_
  split at h2
  · rename_i xs k e1
    cases a2.int_inv
    split at h2
    case isFalse => exact h2.elim
    case isTrue hz =>
      obtain ⟨p, us, rfl, q1, t1⟩ := R2.lstAt (g2.at a1) e1
      exact ⟨p, _, us, rfl, rfl, q1, hz.1, hz.2.1, by rw [t1.length]; exact hz.2.2, fun l hl => FinF.new h2 (g1.trans g2) R2 (t1.rep _) hl⟩
  · exact h2.elim
end

theorem vals_getV : ∀ {vs : List V} {us : List Value} {i : Nat} {u : Value}, Vals vs us → us[i]? = some u → ∃ v, vs[i]? = some v ∧ RelV v u
  | _, _, _, _, .nil, e => by simp at e
  | _, _, 0, _, .cons r _, e => by
    rw [List.getElem?_cons_zero] at e
    cases e
    exact ⟨_, rfl, r⟩
  | _, _, i + 1, _, .cons _ t, e => by
    rw [List.getElem?_cons_succ] at e
    obtain ⟨v, q1, q2⟩ := vals_getV t e
    exact ⟨v, by rw [List.getElem?_cons_succ]; exact q1, q2⟩
/-! ### items of a written dict -/
def ItG (ks : List Str) (vs : List V) : It :=
  ⟨fun i _ => i < ks.length, fun i H x H' => ∃ T k v, ks[i]? = some k ∧ vs[i]? = some v ∧ x = .ref T ∧ H T = none ∧ H' = L2.upd H T (.tup [.str k, v]), fun i _ => i = ks.length⟩
theorem turn_itemsG {P : Program} {w : World} {K : PySem.W.Frag} {elts : List Expr} {kk : Nat} {tpos : Pos} {d : Addr} {es : Array DictEntry} {ep : Nat} {ks : List Str} {us : List Value} {vs : List V} (it : Addr)
    (hd : K.lookup d = some ⟨.type "dict", none, .dict es ep, #[]⟩) (hks : es.toList.map keyS = ks.map some) (hus : es.toList.map (·.val) = us) (rv : Vals vs us) :
    Turn P w K (.Tuple elts kk tpos) (ItG ks vs) [it] it (fun i h => ∃ ok ov, IsItemIter h it d i es.size ep ok ov) where
  mem := by simp
  obj := fun i h st b hb => by
    have e : b = it := by simpa using hb
    subst e
    obtain ⟨ok, ov, e⟩ := st
    exact ⟨_, e, fun v z => nomatch z⟩
  keep := fun i h h' st k => let ⟨ok, ov, e⟩ := st; ⟨ok, ov, k it (by simp) _ e⟩
  item := by
    intro X hP hw hK hc i pins s σ H E I hf st hg
    subst hP hw hK
    have hsz : es.size = ks.length := by
      have q := congrArg List.length hks
      rw [List.length_map, List.length_map, Array.length_toList] at q
      exact q
    have hi : i < es.size := by rw [hsz]; exact hg
    have raw : s.heap.DictRaw d es ep := ⟨_, I.kIn d _ hd, ⟨rfl, rfl, rfl⟩, rfl⟩
    obtain ⟨ok, ov, he⟩ := st
    have hlt : it < s.heap.objs.size := Heap.lt_size he
    have hk : ∃ k t, ks[i]? = some k ∧ es[i].key = .str k t := by
      have q : (es.toList.map keyS)[i]? = (ks.map some)[i]? := by rw [hks]
      rw [List.getElem?_map, List.getElem?_map, Array.getElem?_toList, Array.getElem?_eq_getElem hi] at q
      have q : some (keyS es[i]) = (ks[i]?).map some := q
      cases z : ks[i]? with
      | none => rw [z] at q; cases q
      | some k =>
        rw [z] at q
        have q2 : keyS es[i] = some k := Option.some.inj q
        unfold keyS at q2
        split at q2
        · rename_i x t e
          cases q2
          exact ⟨_, t, rfl, e⟩
        · cases q2
    obtain ⟨k, t, hk1, hk2⟩ := hk
    have hv : ∃ v, vs[i]? = some v ∧ RelV v es[i].val := by
      have q : us[i]? = some es[i].val := by
        rw [← hus, List.getElem?_map, Array.getElem?_toList, Array.getElem?_eq_getElem hi]
        rfl
      exact vals_getV rv q
    obtain ⟨v, hv1, hv2⟩ := hv
    refine PySem.wpAny_pyNext_items_item_raw he raw hi fun h' ho hT hz hkk => ?_
    refine ⟨_, rfl, wpAny_letOwnedTupleGo_items (s := { s with heap := h' }) ho fun h'' he' sb => ?_⟩
    have hT2 : h''.get? s.heap.objs.size = some { cls := .type "tuple", data := .seq #[es[i].key, es[i].val] } := (sb.2 _ (Nat.ne_of_gt hlt)).trans hT
    have new : ObjOk X.prog X.w (L2.upd H s.heap.objs.size (.tup [.str k, v])) h'' s.heap.objs.size (.tup [.str k, v]) :=
      ⟨by show 2 ≤ sizeLine; decide, [es[i].key, es[i].val], .cons ⟨t, hk2⟩ (.cons hv2 .nil), ⟨_, hT2, rfl, _, rfl⟩⟩
    have I1 : Inv X pins σ (L2.upd H s.heap.objs.size (.tup [.str k, v])) { s with heap := h'' } :=
      I.turnedNew (t' := s.toks) (ch := [it]) (fun b ob hb e => (sb.2 b (by simpa using hb)).trans (hkk b ob (by simpa using hb) e)) hf (Nat.le_refl _) new
    refine ⟨.ref s.heap.objs.size, _, I1, rfl, ⟨_, k, v, hk1, hv1, rfl, I.hok.fresh (Nat.le_refl _), rfl⟩, ⟨_, _, he'⟩, fun b hb => ?_⟩
    have e : b = it := by simpa using hb
    rw [e, upd_ne (Nat.ne_of_lt hlt)]
    exact (hf it (by simp)).1
  done := by
    intro X hP hw hK hc i pins s σ H E I hf st hg
    subst hP hw hK
    have hsz : es.size = ks.length := by
      have q := congrArg List.length hks
      rw [List.length_map, List.length_map, Array.length_toList] at q
      exact q
    have hi : i = es.size := by rw [hsz]; exact hg
    subst hi
    have raw : s.heap.DictRaw d es ep := ⟨_, I.kIn d _ hd, ⟨rfl, rfl, rfl⟩, rfl⟩
    obtain ⟨ok, ov, he⟩ := st
    obtain ⟨f0, f1, f2, f3, f4, f5⟩ := hf it (by simp)
    exact PySem.wpAny_pyNext_items_end_raw (I.ok.hd hc) he raw (Nat.le_refl _) fun h' eb => ⟨rfl, I.turned (t' := s.toks) (fun b ob hb e => eb b ob hb e) f0 f1 f3 f4 f5⟩
  self := fun A i s Q E st h => let ⟨_, _, e⟩ := st; PySem.W.kcp_self e h
def zipT : List Str → List D → List D
  | k :: ks, d :: ds => .tup [.str k, d] :: zipT ks ds
  | _, _ => []
theorem zipT_length : ∀ {ks : List Str} {ds : List D}, ks.length = ds.length → (zipT ks ds).length = ks.length
  | [], [], _ => rfl
  | k :: ks, d :: ds, h => by rw [zipT, List.length_cons, List.length_cons, zipT_length (Nat.succ.inj h)]
theorem zipT_get : ∀ {ks : List Str} {ds : List D} {i : Nat} {y : D}, (zipT ks ds)[i]? = some y → ∃ k d, ks[i]? = some k ∧ ds[i]? = some d ∧ y = .tup [.str k, d]
  | [], _, i, y, e => by rw [zipT.eq_def] at e; simp at e
  | _ :: _, [], i, y, e => by rw [zipT.eq_def] at e; simp at e
  | k :: ks, d :: ds, 0, y, e => by
    rw [zipT, List.getElem?_cons_zero] at e
    cases e
    exact ⟨k, d, rfl, rfl, rfl⟩
  | k :: ks, d :: ds, i + 1, y, e => by
    rw [zipT, List.getElem?_cons_succ] at e
    obtain ⟨k', d', q1, q2, q3⟩ := zipT_get e
    exact ⟨k', d', by rw [List.getElem?_cons_succ]; exact q1, by rw [List.getElem?_cons_succ]; exact q2, q3⟩
theorem its_itemsG {K : KW} {B : Hp} {A : Ad} {H : Hp} {ks : List Str} {vs : List V} {ds : List D} (hl : ks.length = ds.length) (t : AtL K B A vs ds) : Its K B A H (ItG ks vs) (zipT ks ds) where
  go := fun i B' A' w' H' hi g R => by rw [zipT_length hl] at hi; exact hi
  stop := fun B' A' w' H' g R => zipT_length hl
  yld := fun i d B1 A1 w1 H1 x H2 hd g R y => by
    obtain ⟨T, k, v, hk, hv, ex, hT, eH⟩ := y
    subst ex eH
    obtain ⟨k', d', q1, q2, q3⟩ := zipT_get hd
    subst q3
    rw [hk] at q1
    cases q1
    obtain ⟨v', e1, a1⟩ := t.get q2
    rw [hv] at e1
    cases e1
    have gz := Gr.frozen (o := .tup [.str k, v]) (B := B1) (A := A1) hT (R.bnone hT)
    exact ⟨_, gz, R.frozen hT, .tup (.inl (.inl upd_same)) (.cons (.str _) (.cons ((g.trans gz).at a1) .nil))⟩
def iItemsG (m : ME) : MI := fun δ w => (m δ w).bind fun d w1 => match d with
  | .gd ks ds => .ok (zipT ks ds) w1
  | _ => .stuck
theorem di_itemsG {X : Cx} {W : XW} {e : Expr} {elts : List Expr} {kk : Nat} {tpos apos cpos : Pos} {me : ME} (he : PE X e (tE (kwOf X) W me)) (hbase : attributeBase e "items" X.env (eval e X.env) = eval e X.env := by rfl) (hline : (apos.endLine == cpos.line) = true := by rfl) :
    PI X (.Tuple elts kk tpos) (.Call (.Attribute e "items" apos) [] [] cpos) (tI (kwOf X) W (iItemsG me)) := by
  refine ⟨fun pins s σ H R I h => ?_⟩
  have hq : tE (kwOf X) W me σ H fun x H1 => ∃ (a : Addr) (ks : List Str) (us : List Value) (vs : List V), x = V.ref a ∧ KD (kwOf X) a ks us ∧ Vals vs us ∧ R (ItG ks vs) H1 := by
    obtain ⟨B, A, w, δ, R0, E, h⟩ := h
    refine part R0 E h fun d w1 v B1 A1 H1 g R1 a h1 => ?_
    cases d with
    | gd ks ds =>
      cases a with
      | gd kd rv t => exact ⟨_, ks, _, _, rfl, kd, rv, h1 _ B1 A1 H1 g R1 (its_itemsG (by rw [kd.ln, ← rv.length, t.length]) t)⟩
      | ref ha => cases ha
    | _ => exact h1.elim
  refine wpAny_Call_method (T := "dict") (id := "dict.items") hbase rfl hline F.plainAttrs_dict F.slot_dict_items F.type_dict_items (thn (he.run pins s σ H _ I hq) fun u s1 ⟨x, H1, I1, rx, a, ks, us, vs, ex, kd, rv, q⟩ => ?_)
  subst ex
  obtain rfl : u = Value.ref a := rx
  obtain ⟨es, ep, hk, hks, hus, hs⟩ := kd.it
  have raw : s1.heap.DictRaw a es ep := ⟨_, I1.kIn a _ hk, ⟨rfl, rfl, rfl⟩, rfl⟩
  refine ⟨raw.typeIs, fun b eb => ⟨_, by cases eb; exact I1.kIn a _ hk, rfl⟩, ?_⟩
  have I2 : Inv X pins σ H1 { s1 with heap := s1.heap.push { cls := .type "dict_items", data := .fields #[.ref a] } } := I1.kept (t' := s1.toks) fun b ob q => Heap.get?_push_of_some _ q
  have fin : wpAny (model X.prog X.w) X.A (pyIter (.ref s1.heap.objs.size)) (PIE X pins σ (.Tuple elts kk tpos) R) X.xe { s1 with heap := s1.heap.push { cls := .type "dict_items", data := .fields #[.ref a] } } := by
    refine PySem.wpAny_pyIter_items_raw (d := a) ⟨_, Heap.get?_push_size _ rfl, rfl, rfl⟩ (raw.at fun o e => Heap.get?_push_of_some _ e) (pi_one (tk := s1.toks) I2 _ (turn_itemsG _ hk hks hus rv) ⟨.none, .none, ?_⟩ q)
    exact Heap.get?_push_size _ rfl
  show wpAny _ _ (callWith cpos (.builtin "dict.items") [.ref a] [] []) _ X.xe s1
  exact method_meetsIn F.slot_dict_items F.entry_dict_items rfl (PySem.evalArgs_none ⟨rfl, raw.typeIs, F.args_dict_items_1 _, _, PySem.meets_dict_items_raw a hs, ⟨es, ep, raw⟩, fin⟩)
end DP

set_option Elab.async false
set_option linter.all false
set_option maxRecDepth 100000
set_option maxHeartbeats 2000000
/-! The drawing of choices, as plain functions. -/
namespace DP
open PySem L2

theorem seq_nx {m n : MS} {δ δ' : Env} {w w' : Wd} (h : m δ w = .ok (.nx, δ') w') : sSeq m n δ w = n δ' w' := by unfold sSeq; rw [h]; rfl
theorem seq_rt {m n : MS} {δ δ' : Env} {w w' : Wd} {d : D} (h : m δ w = .ok (.rt d, δ') w') : sSeq m n δ w = .ok (.rt d, δ') w' := by unfold sSeq; rw [h]; rfl
theorem seq_br {m n : MS} {δ δ' : Env} {w w' : Wd} (h : m δ w = .ok (.br, δ') w') : sSeq m n δ w = .ok (.br, δ') w' := by unfold sSeq; rw [h]; rfl
theorem seq_ct {m n : MS} {δ δ' : Env} {w w' : Wd} (h : m δ w = .ok (.ct, δ') w') : sSeq m n δ w = .ok (.ct, δ') w' := by unfold sSeq; rw [h]; rfl
theorem if_t {t : MT} {m n : MS} {δ : Env} {w w' : Wd} (h : t δ w = .ok true w') : sIf t m n δ w = m δ w' := by unfold sIf; rw [h]; rfl
theorem if_f {t : MT} {m n : MS} {δ : Env} {w w' : Wd} (h : t δ w = .ok false w') : sIf t m n δ w = n δ w' := by unfold sIf; rw [h]; rfl
def pickM : MS := (sSeq (sWhile (tAnd_ (tB_ (eOp opGt (eVar 1) (eC (.int 1)))) (tAnd_ (tB_ (eOp opLt (eOp opIx (eVar 0) (eC (.str "left"))) (eC (.int 2)))) (tB_ (eOp opGt (eB opLen (aCons (eOp opIx (eVar 0) (eC (.str "cells"))) aNil)) (eC (.int 0)))))) (sSeq (sAsg (gSub_ (eVar 0) (eC (.str "left"))) (eMt "list" opPop (eOp opIx (eVar 0) (eC (.str "cells"))) aNil)) sNil)) (sSeq (sSet 2 (eOp opIx (eVar 0) (eC (.str "left")))) (sSeq (sIf (tOr_ (tB_ (eOp opLt (eVar 1) (eC (.int 2)))) (tB_ (eOp opGt (eVar 2) (eC (.int 1))))) (sSeq (sAsg (gSub_ (eVar 0) (eC (.str "left"))) (eOp opFdiv (eVar 2) (eB opMax2 (aCons (eC (.int 1)) (aCons (eVar 1) aNil))))) (sSeq (sRet (eOp opMod (eB opInt (aCons (eVar 2) aNil)) (eB opMax2 (aCons (eC (.int 1)) (aCons (eVar 1) aNil))))) sNil)) sNil) (sSeq (sAsg (gSub_ (eVar 0) (eC (.str "turn"))) (eOp opAdd (eOp opIx (eVar 0) (eC (.str "turn"))) (eC (.int 1)))) (sSeq (sSet 3 (eOp opMod (eB opInt (aCons (eOp opAdd (eOp opIx (eVar 0) (eC (.str "mixed"))) (eOp opMul (eOp opIx (eVar 0) (eC (.str "turn"))) (eC (.int 104729)))) aNil)) (eC (.int 998244353)))) (sSeq (sSet 3 (eOp opMod (eB opInt (aCons (eOp opAdd (eOp opMul (eVar 3) (eVar 3)) (eOp opMul (eOp opIx (eVar 0) (eC (.str "turn"))) (eC (.int 17)))) aNil)) (eC (.int 2147483647)))) (sSeq (sAsg (gSub_ (eVar 0) (eC (.str "mixed"))) (eVar 3)) (sSeq (sRet (eOp opMod (eB opInt (aCons (eOp opFdiv (eVar 3) (eC (.int 16))) aNil)) (eVar 1))) sNil))))))))
def pickF : FN := fnM 4 2 pickM
/-- the store with the source in front -/
def src (cells : List Int) (left mixed turn : Int) (rest : List SO) : List SO := .lst (cells.map D.int) :: .dK [(.inr "cells", .loc 0), (.inr "left", .int left), (.inr "mixed", .int mixed), (.inr "turn", .int turn)] :: rest
section
variable {cells : List Int} {left mixed turn many : Int} {rest : List SO} {l : List SO}
abbrev dlt (many : Int) (x y : Option D) : Env := [some (.loc 1), some (.int many), x, y]
theorem t_many {x y : Option D} {w : Wd} : tB_ (eOp opGt (eVar 1) (eC (.int 1))) (dlt many x y) w = .ok (decide (1 < many)) w := rfl
theorem t_left {x y : Option D} : tB_ (eOp opLt (eOp opIx (eVar 0) (eC (.str "left"))) (eC (.int 2))) (dlt many x y) ⟨src cells left mixed turn rest, l⟩ = .ok (decide (left < 2)) ⟨src cells left mixed turn rest, l⟩ := rfl
theorem t_cells {x y : Option D} : tB_ (eOp opGt (eB opLen (aCons (eOp opIx (eVar 0) (eC (.str "cells"))) aNil)) (eC (.int 0))) (dlt many x y) ⟨src cells left mixed turn rest, l⟩ = .ok (decide ((0 : Int) < ((cells.map D.int).length : Int))) ⟨src cells left mixed turn rest, l⟩ := rfl
abbrev pT : MT := (tAnd_ (tB_ (eOp opGt (eVar 1) (eC (.int 1)))) (tAnd_ (tB_ (eOp opLt (eOp opIx (eVar 0) (eC (.str "left"))) (eC (.int 2)))) (tB_ (eOp opGt (eB opLen (aCons (eOp opIx (eVar 0) (eC (.str "cells"))) aNil)) (eC (.int 0))))))
abbrev pB : MS := (sSeq (sAsg (gSub_ (eVar 0) (eC (.str "left"))) (eMt "list" opPop (eOp opIx (eVar 0) (eC (.str "cells"))) aNil)) sNil)
theorem p_test {x y : Option D} : pT (dlt many x y) ⟨src cells left mixed turn rest, l⟩ = .ok (decide (1 < many) && (decide (left < 2) && decide (0 < cells.length))) ⟨src cells left mixed turn rest, l⟩ := by
  unfold pT tAnd_
  rw [t_many]
  show (if decide (1 < many) = true then _ else _) = _
  by_cases h1 : 1 < many
  · rw [decide_eq_true h1, if_pos rfl, t_left]
    show (if decide (left < 2) = true then _ else _) = _
    by_cases h2 : left < 2
    · rw [decide_eq_true h2, if_pos rfl, t_cells, List.length_map]
      congr 1
      simp
    · rw [decide_eq_false h2, if_neg (by decide)]
      rfl
  · rw [decide_eq_false h1, if_neg (by decide)]
    rfl
theorem p_body {x y : Option D} {c : Int} {cs : List Int} : pB (dlt many x y) ⟨src (cs ++ [c]) left mixed turn rest, l⟩ = .ok (.nx, dlt many x y) ⟨src cs c mixed turn rest, l⟩ := by
  have e1 : (cs.map D.int ++ [D.int c])[(cs.map D.int ++ [D.int c]).length - 1]? = some (D.int c) := by simp
  have e2 : (cs.map D.int ++ [D.int c]).dropLast = cs.map D.int := by simp
  have e3 : src (cs ++ [c]) left mixed turn rest = .lst (cs.map D.int ++ [D.int c]) :: .dK [(.inr "cells", .loc 0), (.inr "left", .int left), (.inr "mixed", .int mixed), (.inr "turn", .int turn)] :: rest := by unfold src; rw [List.map_append]; rfl
  have e4 : (eMt "list" opPop (eOp opIx (eVar 0) (eC (.str "cells"))) aNil) (dlt many x y) ⟨.lst (cs.map D.int ++ [D.int c]) :: .dK [(.inr "cells", .loc 0), (.inr "left", .int left), (.inr "mixed", .int mixed), (.inr "turn", .int turn)] :: rest, l⟩
      = (match (cs.map D.int ++ [D.int c])[(cs.map D.int ++ [D.int c]).length - 1]? with
        | some d => Res.ok d ⟨.lst (cs.map D.int ++ [D.int c]).dropLast :: .dK [(.inr "cells", .loc 0), (.inr "left", .int left), (.inr "mixed", .int mixed), (.inr "turn", .int turn)] :: rest, l⟩
        | none => .stuck) := rfl
  rw [e3]
  unfold pB sSeq sAsg
  rw [e4, e1, e2]
  rfl
theorem p_loop {x y : Option D} : ∀ (n : Nat) (cs : List Int) (left : Int) (fuel : Nat), cs.length = n → n < fuel → ∃ cs' left', whileD pT pB fuel (dlt many x y) ⟨src cs left mixed turn rest, l⟩ = .ok (.nx, dlt many x y) ⟨src cs' left' mixed turn rest, l⟩ ∧ cs'.length ≤ cs.length := by
  intro n
  induction n with
  | zero =>
    intro cs left fuel hn hf
    obtain ⟨f, rfl⟩ : ∃ f, fuel = f + 1 := ⟨fuel - 1, by omega⟩
    refine ⟨cs, left, ?_, Nat.le_refl _⟩
    rw [whileD, p_test, hn]
    simp only [Nat.lt_irrefl, decide_false, Bool.and_false]
    rfl
  | succ n ih =>
    intro cs left fuel hn hf
    obtain ⟨f, rfl⟩ : ∃ f, fuel = f + 1 := ⟨fuel - 1, by omega⟩
    rw [whileD, p_test]
    cases hc : (decide (1 < many) && (decide (left < 2) && decide (0 < cs.length))) with
    | false => exact ⟨cs, left, rfl, Nat.le_refl _⟩
    | true =>
      rcases List.eq_nil_or_concat cs with e | ⟨cs0, c, e⟩
      · rw [e] at hn; cases hn
      · rw [List.concat_eq_append] at e
        subst e
        rw [List.length_append, List.length_singleton] at hn
        obtain ⟨cs', left', q1, q2⟩ := ih cs0 c f (by omega) (by omega)
        refine ⟨cs', left', ?_, by rw [List.length_append]; omega⟩
        show (pB (dlt many x y) ⟨src (cs0 ++ [c]) left mixed turn rest, l⟩).bind _ = _
        rw [p_body]
        exact q1
def pTail2 : MS := (sSeq (sAsg (gSub_ (eVar 0) (eC (.str "turn"))) (eOp opAdd (eOp opIx (eVar 0) (eC (.str "turn"))) (eC (.int 1)))) (sSeq (sSet 3 (eOp opMod (eB opInt (aCons (eOp opAdd (eOp opIx (eVar 0) (eC (.str "mixed"))) (eOp opMul (eOp opIx (eVar 0) (eC (.str "turn"))) (eC (.int 104729)))) aNil)) (eC (.int 998244353)))) (sSeq (sSet 3 (eOp opMod (eB opInt (aCons (eOp opAdd (eOp opMul (eVar 3) (eVar 3)) (eOp opMul (eOp opIx (eVar 0) (eC (.str "turn"))) (eC (.int 17)))) aNil)) (eC (.int 2147483647)))) (sSeq (sAsg (gSub_ (eVar 0) (eC (.str "mixed"))) (eVar 3)) (sSeq (sRet (eOp opMod (eB opInt (aCons (eOp opFdiv (eVar 3) (eC (.int 16))) aNil)) (eVar 1))) sNil)))))
def pTail : MS := (sSeq (sSet 2 (eOp opIx (eVar 0) (eC (.str "left")))) (sSeq (sIf (tOr_ (tB_ (eOp opLt (eVar 1) (eC (.int 2)))) (tB_ (eOp opGt (eVar 2) (eC (.int 1))))) (sSeq (sAsg (gSub_ (eVar 0) (eC (.str "left"))) (eOp opFdiv (eVar 2) (eB opMax2 (aCons (eC (.int 1)) (aCons (eVar 1) aNil))))) (sSeq (sRet (eOp opMod (eB opInt (aCons (eVar 2) aNil)) (eB opMax2 (aCons (eC (.int 1)) (aCons (eVar 1) aNil))))) sNil)) sNil) pTail2))
abbrev mx (many : Int) : Int := if many > 1 then many else 1
theorem mul_small {i j : Int} {w : Wd} (h : j.natAbs < 2 ^ 64) : opMul (.int i) (.int j) w = .ok (.int (i * j)) w := by
  show (if (decide (i.natAbs < 2 ^ 64) || decide (j.natAbs < 2 ^ 64)) = true then Res.ok (D.int (i * j)) w else .stuck) = _
  rw [if_pos (by rw [decide_eq_true h, Bool.or_true])]
theorem fdiv_small {i j : Int} {w : Wd} (h : j ≠ 0 ∧ j.natAbs < 1073741824) : opFdiv (.int i) (.int j) w = .ok (.int (i.fdiv j)) w := by
  show (if j ≠ 0 ∧ j.natAbs < 1073741824 then Res.ok (D.int (i.fdiv j)) w else .stuck) = _
  rw [if_pos h]
theorem mod_ok {i j : Int} {w : Wd} (h : j ≠ 0) : opMod (.int i) (.int j) w = .ok (.int (i.fmod j)) w := by
  show (if j ≠ 0 then Res.ok (D.int (i.fmod j)) w else .stuck) = _
  rw [if_pos h]
theorem fmod_range {i j : Int} (h : 0 < j) : 0 ≤ i.fmod j ∧ i.fmod j < j := ⟨Int.fmod_nonneg_of_pos _ h, Int.fmod_lt_of_pos _ h⟩
theorem p_tail (h1 : 1 ≤ many) (h2 : many < 1073741824) : ∃ k left' mixed' turn' δ', pTail (dlt many none none) ⟨src cells left mixed turn rest, l⟩ = .ok (.rt (.int k), δ') ⟨src cells left' mixed' turn' rest, l⟩ ∧ 0 ≤ k ∧ k < many := by
  have hM : mx many = many := by
    unfold mx
    split
    · rfl
    · omega
  have e0 : (sSet 2 (eOp opIx (eVar 0) (eC (.str "left")))) (dlt many none none) ⟨src cells left mixed turn rest, l⟩ = .ok (.nx, dlt many (some (.int left)) none) ⟨src cells left mixed turn rest, l⟩ := rfl
  have e1 : (tOr_ (tB_ (eOp opLt (eVar 1) (eC (.int 2)))) (tB_ (eOp opGt (eVar 2) (eC (.int 1))))) (dlt many (some (.int left)) none) ⟨src cells left mixed turn rest, l⟩ = .ok (decide (many < 2) || decide (1 < left)) ⟨src cells left mixed turn rest, l⟩ := by
    unfold tOr_
    show (if decide (many < 2) = true then _ else _) = _
    by_cases h : many < 2
    · rw [decide_eq_true h, if_pos rfl]
      rfl
    · rw [decide_eq_false h, if_neg (by decide)]
      rfl
  unfold pTail
  rw [sSeq, e0]
  show ∃ k left' mixed' turn' δ', (sSeq _ _) (dlt many (some (.int left)) none) ⟨src cells left mixed turn rest, l⟩ = _ ∧ _
  rw [sSeq, sIf, e1]
  cases hc : (decide (many < 2) || decide (1 < left)) with
  | true =>
    refine ⟨left.fmod (mx many), left.fdiv (mx many), mixed, turn, dlt many (some (.int left)) none, ?_, ?_⟩
    · have a1 : (sAsg (gSub_ (eVar 0) (eC (.str "left"))) (eOp opFdiv (eVar 2) (eB opMax2 (aCons (eC (.int 1)) (aCons (eVar 1) aNil))))) (dlt many (some (.int left)) none) ⟨src cells left mixed turn rest, l⟩ = .ok (.nx, dlt many (some (.int left)) none) ⟨src cells (left.fdiv (mx many)) mixed turn rest, l⟩ := by
        show Res.bind (opFdiv (.int left) (.int (mx many)) ⟨src cells left mixed turn rest, l⟩) _ = _
        rw [fdiv_small (by rw [hM]; omega)]
        rfl
      have a2 : (sRet (eOp opMod (eB opInt (aCons (eVar 2) aNil)) (eB opMax2 (aCons (eC (.int 1)) (aCons (eVar 1) aNil))))) (dlt many (some (.int left)) none) ⟨src cells (left.fdiv (mx many)) mixed turn rest, l⟩ = .ok (.rt (.int (left.fmod (mx many))), dlt many (some (.int left)) none) ⟨src cells (left.fdiv (mx many)) mixed turn rest, l⟩ := by
        show Res.bind (opMod (.int left) (.int (mx many)) ⟨src cells (left.fdiv (mx many)) mixed turn rest, l⟩) _ = _
        rw [mod_ok (by rw [hM]; omega)]
        rfl
      show Res.bind (sSeq _ _ (dlt many (some (.int left)) none) ⟨src cells left mixed turn rest, l⟩) _ = _
      rw [sSeq, a1]
      show Res.bind (sSeq _ _ (dlt many (some (.int left)) none) ⟨src cells (left.fdiv (mx many)) mixed turn rest, l⟩) _ = _
      rw [sSeq, a2]
      rfl
    · rw [hM]
      exact fmod_range (by omega)
  | false =>
    show ∃ k left' mixed' turn' δ', pTail2 (dlt many (some (.int left)) none) ⟨src cells left mixed turn rest, l⟩ = .ok (.rt (.int k), δ') ⟨src cells left' mixed' turn' rest, l⟩ ∧ 0 ≤ k ∧ k < many
    unfold pTail2
    have b1 : (sAsg (gSub_ (eVar 0) (eC (.str "turn"))) (eOp opAdd (eOp opIx (eVar 0) (eC (.str "turn"))) (eC (.int 1)))) (dlt many (some (.int left)) none) ⟨src cells left mixed turn rest, l⟩ = .ok (.nx, dlt many (some (.int left)) none) ⟨src cells left mixed (turn + 1) rest, l⟩ := rfl
    have b2 : (sSet 3 (eOp opMod (eB opInt (aCons (eOp opAdd (eOp opIx (eVar 0) (eC (.str "mixed"))) (eOp opMul (eOp opIx (eVar 0) (eC (.str "turn"))) (eC (.int 104729)))) aNil)) (eC (.int 998244353)))) (dlt many (some (.int left)) none) ⟨src cells left mixed (turn + 1) rest, l⟩
        = .ok (.nx, dlt many (some (.int left)) (some (.int ((mixed + (turn + 1) * 104729).fmod 998244353)))) ⟨src cells left mixed (turn + 1) rest, l⟩ := by
      show Res.bind (Res.bind (Res.bind (Res.bind (Res.bind (opMul (.int (turn + 1)) (.int 104729) ⟨src cells left mixed (turn + 1) rest, l⟩) _) _) _) _) _ = _
      rw [mul_small (by decide)]
      show Res.bind (opMod (.int (mixed + (turn + 1) * 104729)) (.int 998244353) ⟨src cells left mixed (turn + 1) rest, l⟩) _ = _
      rw [mod_ok (by decide)]
      rfl
    have b3 : ∀ m : Int, 0 ≤ m → m < 998244353 → (sSet 3 (eOp opMod (eB opInt (aCons (eOp opAdd (eOp opMul (eVar 3) (eVar 3)) (eOp opMul (eOp opIx (eVar 0) (eC (.str "turn"))) (eC (.int 17)))) aNil)) (eC (.int 2147483647)))) (dlt many (some (.int left)) (some (.int m))) ⟨src cells left mixed (turn + 1) rest, l⟩
        = .ok (.nx, dlt many (some (.int left)) (some (.int ((m * m + (turn + 1) * 17).fmod 2147483647)))) ⟨src cells left mixed (turn + 1) rest, l⟩ := by
      intro m hm1 hm2
      show Res.bind (Res.bind (Res.bind (Res.bind (Res.bind (opMul (.int m) (.int m) ⟨src cells left mixed (turn + 1) rest, l⟩) _) _) _) _) _ = _
      rw [mul_small (by omega)]
      show Res.bind (Res.bind (Res.bind (Res.bind (Res.bind (opMul (.int (turn + 1)) (.int 17) ⟨src cells left mixed (turn + 1) rest, l⟩) _) _) _) _) _ = _
      rw [mul_small (by decide)]
      show Res.bind (opMod (.int (m * m + (turn + 1) * 17)) (.int 2147483647) ⟨src cells left mixed (turn + 1) rest, l⟩) _ = _
      rw [mod_ok (by decide)]
      rfl
    have b4 : ∀ m : Int, (sAsg (gSub_ (eVar 0) (eC (.str "mixed"))) (eVar 3)) (dlt many (some (.int left)) (some (.int m))) ⟨src cells left mixed (turn + 1) rest, l⟩ = .ok (.nx, dlt many (some (.int left)) (some (.int m))) ⟨src cells left m (turn + 1) rest, l⟩ := fun _ => rfl
    have b5 : ∀ m : Int, (sRet (eOp opMod (eB opInt (aCons (eOp opFdiv (eVar 3) (eC (.int 16))) aNil)) (eVar 1))) (dlt many (some (.int left)) (some (.int m))) ⟨src cells left m (turn + 1) rest, l⟩ = .ok (.rt (.int ((m.fdiv 16).fmod many)), dlt many (some (.int left)) (some (.int m))) ⟨src cells left m (turn + 1) rest, l⟩ := by
      intro m
      show Res.bind (Res.bind (Res.bind (Res.bind (opFdiv (.int m) (.int 16) ⟨src cells left m (turn + 1) rest, l⟩) _) _) _) _ = _
      rw [fdiv_small (by decide)]
      show Res.bind (opMod (.int (m.fdiv 16)) (.int many) ⟨src cells left m (turn + 1) rest, l⟩) _ = _
      rw [mod_ok (by omega)]
      rfl
    have r1 := fmod_range (i := mixed + (turn + 1) * 104729) (j := 998244353) (by decide)
    generalize e1 : (mixed + (turn + 1) * 104729).fmod 998244353 = M1 at b2 r1
    generalize e2 : (M1 * M1 + (turn + 1) * 17).fmod 2147483647 = M2
    have b3' := b3 M1 r1.1 r1.2
    rw [e2] at b3'
    refine ⟨(M2.fdiv 16).fmod many, left, M2, turn + 1, dlt many (some (.int left)) (some (.int M2)), ?_, fmod_range (by omega)⟩
    rw [seq_nx b1, seq_nx b2, seq_nx b3', seq_nx (b4 M2), seq_rt (b5 M2)]
theorem pick_ok (hc : cells.length ≤ 63) (h1 : 1 ≤ many) (h2 : many < 1073741824) : ∃ k cells' left' mixed' turn', pickF [.loc 1, .int many] (src cells left mixed turn rest) = .ok (.int k) ⟨src cells' left' mixed' turn' rest, []⟩ ∧ 0 ≤ k ∧ k < many ∧ cells'.length ≤ 63 := by
  obtain ⟨cs', left', q1, q2⟩ := p_loop (many := many) (mixed := mixed) (turn := turn) (rest := rest) (l := []) (x := none) (y := none) cells.length cells left FUEL rfl (by unfold FUEL; omega)
  obtain ⟨k, l2, m2, t2, δ', q3, q4, q5⟩ := p_tail (cells := cs') (left := left') (mixed := mixed) (turn := turn) (rest := rest) (l := []) h1 h2
  refine ⟨k, cs', l2, m2, t2, ?_, q4, q5, by omega⟩
  have e : pickM (dlt many none none) ⟨src cells left mixed turn rest, []⟩ = .ok (.rt (.int k), δ') ⟨src cs' l2 m2 t2 rest, []⟩ := by
    show Res.bind (whileD pT pB FUEL (dlt many none none) ⟨src cells left mixed turn rest, []⟩) _ = _
    rw [q1]
    exact q3
  show (match pickM (dlt many none none) ⟨src cells left mixed turn rest, []⟩ with
    | .ok (.rt d, _) w => if d.cl = true then Res.ok d ⟨w.s, []⟩ else .stuck
    | .ok (.nx, _) w => .ok .non ⟨w.s, []⟩
    | .exc c as s => .exc c as s
    | _ => .stuck) = _
  rw [e]
  rfl
end
end DP

set_option Elab.async false
set_option linter.all false
set_option maxRecDepth 100000
set_option maxHeartbeats 2000000
/-! The source of choices; one of some. -/
namespace DP
open PySem L2
def sourceM : MS := (sSeq (sSet 1 (eC (.int 11))) (sSeq (sFor (iSeq (eVar 0)) (gNm 2) (sSeq (sSet 1 (eOp opMod (eB opInt (aCons (eOp opAdd (eOp opAdd (eOp opMul (eVar 1) (eC (.int 69069))) (eOp opMul (eVar 2) (eC (.int 31)))) (eC (.int 5))) aNil)) (eC (.int 2147483629)))) sNil)) (sSeq (sRet (eLocK (kDisp [((eC (.str "cells")), (eLoc (fRev (eFrz (fComp (iSeq (eVar 0)) (gNm 2) tYes_ (eB opAbs (aCons (eVar 2) aNil)) [2]))))), ((eC (.str "left")), (eC (.int 1))), ((eC (.str "mixed")), (eVar 1)), ((eC (.str "turn")), (eC (.int 0)))]))) sNil)))
def sourceF : FN := fnM 3 1 sourceM
abbrev sB : MS := (sSeq (sSet 1 (eOp opMod (eB opInt (aCons (eOp opAdd (eOp opAdd (eOp opMul (eVar 1) (eC (.int 69069))) (eOp opMul (eVar 2) (eC (.int 31)))) (eC (.int 5))) aNil)) (eC (.int 2147483629)))) sNil)
abbrev env3 (s0 : D) (m : Int) (x : Option D) : Env := [some s0, some (.int m), x]
theorem s_body {s0 : D} {m c : Int} {w : Wd} : sB (env3 s0 m (some (.int c))) w = .ok (.nx, env3 s0 ((m * 69069 + c * 31 + 5).fmod 2147483629) (some (.int c))) w := by
  have e : (sSet 1 (eOp opMod (eB opInt (aCons (eOp opAdd (eOp opAdd (eOp opMul (eVar 1) (eC (.int 69069))) (eOp opMul (eVar 2) (eC (.int 31)))) (eC (.int 5))) aNil)) (eC (.int 2147483629)))) (env3 s0 m (some (.int c))) w = .ok (.nx, env3 s0 ((m * 69069 + c * 31 + 5).fmod 2147483629) (some (.int c))) w := by
    show Res.bind (Res.bind (Res.bind (Res.bind (Res.bind (Res.bind (opMul (.int m) (.int 69069) w) _) _) _) _) _) _ = _
    rw [mul_small (by decide)]
    show Res.bind (Res.bind (Res.bind (Res.bind (Res.bind (Res.bind (opMul (.int c) (.int 31) w) _) _) _) _) _) _ = _
    rw [mul_small (by decide)]
    show Res.bind (opMod (.int (m * 69069 + c * 31 + 5)) (.int 2147483629) w) _ = _
    rw [mod_ok (by decide)]
    rfl
  unfold sB
  rw [seq_nx e]
  rfl
theorem for_nil {g : MG} {b : MS} {δ : Env} {w : Wd} : forD g b [] δ w = .ok (.nx, δ) w := rfl
theorem for_nx {g : MG} {b : MS} {d : D} {ds : List D} {δ δ1 δ2 : Env} {w w1 w2 : Wd} (h1 : g d δ w = .ok δ1 w1) (h2 : b δ1 w1 = .ok (.nx, δ2) w2) : forD g b (d :: ds) δ w = forD g b ds δ2 w2 := by
  rw [forD, h1]
  show Res.bind (b δ1 w1) _ = _
  rw [h2]
  rfl
theorem s_loop {s0 : D} {w : Wd} : ∀ (ns : List Int) (m : Int) (x : Option D), ∃ m' x', forD (gNm 2) sB (ns.map D.int) (env3 s0 m x) w = .ok (.nx, env3 s0 m' x') w
  | [], m, x => ⟨m, x, rfl⟩
  | n :: ns, m, x => by
    obtain ⟨m', x', e⟩ := s_loop (s0 := s0) (w := w) ns ((m * 69069 + n * 31 + 5).fmod 2147483629) (some (.int n))
    refine ⟨m', x', ?_⟩
    rw [List.map_cons, for_nx (δ1 := env3 s0 m (some (.int n))) (w1 := w) rfl s_body]
    exact e
theorem clL_ints : ∀ ns : List Int, D.clL (ns.map D.int) = true
  | [] => rfl
  | n :: ns => by
    rw [List.map_cons, D.clL, clL_ints ns]
    rfl
theorem s_comp {s0 : D} {m : Int} {x : Option D} {w : Wd} : ∀ ns : List Int, compD (gNm 2) tYes_ (eB opAbs (aCons (eVar 2) aNil)) [2] (env3 s0 m x) (ns.map D.int) w = .ok ((ns.map fun i => if i < 0 then -i else i).map D.int) w
  | [] => rfl
  | n :: ns => by
    rw [List.map_cons, compD]
    show Res.bind (compD (gNm 2) tYes_ (eB opAbs (aCons (eVar 2) aNil)) [2] (env3 s0 m x) (ns.map D.int) w) _ = _
    rw [s_comp ns]
    rfl
theorem source_ok {ns : List Int} (h : ns.length ≤ 63) : ∃ cells mixed, sourceF [.scr ns] [] = .ok (.loc 1) ⟨src cells 1 mixed 0 [], []⟩ ∧ cells.length ≤ 63 := by
  obtain ⟨m', x', e⟩ := s_loop (s0 := .scr ns) (w := ⟨[], []⟩) ns 11 none
  refine ⟨(ns.map fun i => if i < 0 then -i else i).reverse, m', ?_, by rw [List.length_reverse, List.length_map]; exact h⟩
  have e1 : (sSet 1 (eC (.int 11))) [some (.scr ns), none, none] ⟨[], []⟩ = .ok (.nx, env3 (.scr ns) 11 none) ⟨[], []⟩ := rfl
  have e2 : (sFor (iSeq (eVar 0)) (gNm 2) sB) (env3 (.scr ns) 11 none) ⟨[], []⟩ = .ok (.nx, env3 (.scr ns) m' x') ⟨[], []⟩ := e
  have e3 : (fComp (iSeq (eVar 0)) (gNm 2) tYes_ (eB opAbs (aCons (eVar 2) aNil)) [2]) (env3 (.scr ns) m' x') ⟨[], []⟩ = .ok ((ns.map fun i => if i < 0 then -i else i).map D.int) ⟨[], []⟩ := by
    show (if (ns.map D.int).length ≤ 10000000 then compD (gNm 2) tYes_ (eB opAbs (aCons (eVar 2) aNil)) [2] (env3 (.scr ns) m' x') (ns.map D.int) ⟨[], []⟩ else .stuck) = _
    rw [if_pos (by rw [List.length_map]; omega), s_comp]
  have e4 : (eLoc (fRev (eFrz (fComp (iSeq (eVar 0)) (gNm 2) tYes_ (eB opAbs (aCons (eVar 2) aNil)) [2])))) (env3 (.scr ns) m' x') ⟨[], []⟩ = .ok (.loc 0) ⟨[.lst ((ns.map fun i => if i < 0 then -i else i).reverse.map D.int)], []⟩ := by
    unfold eLoc fRev eFrz
    rw [e3]
    show (if D.clL ((ns.map fun i => if i < 0 then -i else i).map D.int).reverse = true then Res.ok (D.loc 0) (⟨[.lst ((ns.map fun i => if i < 0 then -i else i).map D.int).reverse], []⟩ : Wd) else .stuck) = _
    rw [← List.map_reverse, if_pos (clL_ints _)]
  have e5 : (sRet (eLocK (kDisp [((eC (.str "cells")), (eLoc (fRev (eFrz (fComp (iSeq (eVar 0)) (gNm 2) tYes_ (eB opAbs (aCons (eVar 2) aNil)) [2]))))), ((eC (.str "left")), (eC (.int 1))), ((eC (.str "mixed")), (eVar 1)), ((eC (.str "turn")), (eC (.int 0)))]))) (env3 (.scr ns) m' x') ⟨[], []⟩
      = .ok (.rt (.loc 1), env3 (.scr ns) m' x') ⟨src ((ns.map fun i => if i < 0 then -i else i).reverse) 1 m' 0 [], []⟩ := by
    show Res.bind (Res.bind (Res.bind (Res.bind ((eLoc (fRev (eFrz (fComp (iSeq (eVar 0)) (gNm 2) tYes_ (eB opAbs (aCons (eVar 2) aNil)) [2])))) (env3 (.scr ns) m' x') ⟨[], []⟩) _) _) _) _ = _
    rw [e4]
    rfl
  have e6 : sourceM [some (.scr ns), none, none] ⟨[], []⟩ = .ok (.rt (.loc 1), env3 (.scr ns) m' x') ⟨src ((ns.map fun i => if i < 0 then -i else i).reverse) 1 m' 0 [], []⟩ := by
    unfold sourceM
    rw [seq_nx e1, seq_nx e2, seq_rt e5]
  show (match sourceM [some (.scr ns), none, none] ⟨[], []⟩ with
    | .ok (.rt d, _) w => if d.cl = true then Res.ok d ⟨w.s, []⟩ else .stuck
    | .ok (.nx, _) w => .ok .non ⟨w.s, []⟩
    | .exc c as s => .exc c as s
    | _ => .stuck) = _
  rw [e6]
  rfl
theorem fn_rt {nl np : Nat} {m : MS} {ds : List D} {s : List SO} {d : D} {δ0 δ' : Env} {w : Wd} (hn : ds.length = np) (he : ds.map some ++ List.replicate (nl - ds.length) none = δ0) (h : m δ0 ⟨s, []⟩ = .ok (.rt d, δ') w) (hc : d.cl = true) : fnM nl np m ds s = .ok d ⟨w.s, []⟩ := by
  unfold fnM
  rw [if_pos hn, he, h]
  exact if_pos hc
theorem fn_nx {nl np : Nat} {m : MS} {ds : List D} {s : List SO} {δ0 δ' : Env} {w : Wd} (hn : ds.length = np) (he : ds.map some ++ List.replicate (nl - ds.length) none = δ0) (h : m δ0 ⟨s, []⟩ = .ok (.nx, δ') w) : fnM nl np m ds s = .ok .non ⟨w.s, []⟩ := by
  unfold fnM
  rw [if_pos hn, he, h]
theorem bind_ok {α β : Type} {a : α} {w : Wd} {f : α → Wd → Res β} : (Res.ok a w).bind f = f a w := rfl
theorem rng_in {n : Nat} (hn : n ≤ 1000000) : -(2 ^ 62) ≤ (n : Int) ∧ (n : Int) < 2 ^ 62 := ⟨by omega, by omega⟩
theorem rng_if {α : Type} {n : Nat} {a b : α} (hn : n ≤ 1000000) : (if -(2 ^ 62) ≤ (n : Int) ∧ (n : Int) < 2 ^ 62 then a else b) = a := if_pos (rng_in hn)
theorem rng_e {m : MA} {δ : Env} {w w1 : Wd} {i : Int} (h : m δ w = .ok [.int i] w1) : iRange1 m δ w = (if -(2 ^ 62) ≤ i ∧ i < 2 ^ 62 then Res.ok (rangeL 0 i.toNat) w1 else .stuck) := by
  unfold iRange1
  rw [h, bind_ok]
theorem range1_ok {m : MA} {δ : Env} {w w1 : Wd} {n : Nat} (h : m δ w = .ok [.int (n : Int)] w1) (hn : n ≤ 1000000) : iRange1 m δ w = .ok (rangeL 0 n) w1 := (rng_e h).trans (rng_if hn)
theorem for_run {mi : MI} {g : MG} {b : MS} {δ : Env} {w w1 : Wd} {ds : List D} (h : mi δ w = .ok ds w1) : sFor mi g b δ w = forD g b ds δ w1 := by
  unfold sFor
  rw [h]
  rfl
def intsF : Nat → Nat → List D
  | _, 0 => []
  | i, n + 1 => .int (i : Nat) :: intsF (i + 1) n
theorem rangeL_ints : ∀ (n i : Nat), rangeL (i : Int) n = intsF i n
  | 0, i => rfl
  | n + 1, i => by
    have ih := rangeL_ints n (i + 1)
    unfold rangeL at ih ⊢
    rw [List.range_succ_eq_map, List.map_cons, List.map_map, intsF, ← ih]
    have e1 : D.int ((i : Int) + ((0 : Nat) : Int)) = D.int ((i : Nat) : Int) := by simp
    have e2 : (List.range n).map ((fun k : Nat => D.int ((i : Int) + (k : Int))) ∘ Nat.succ) = (List.range n).map fun k : Nat => D.int (((i + 1 : Nat) : Int) + (k : Int)) :=
      List.map_congr_left fun k _ => by
        show D.int ((i : Int) + ((k + 1 : Nat) : Int)) = D.int (((i + 1 : Nat) : Int) + (k : Int))
        rw [show (i : Int) + ((k + 1 : Nat) : Int) = ((i + 1 : Nat) : Int) + (k : Int) by omega]
    rw [e1, e2]
theorem rangeL_ints0 (n : Nat) : rangeL 0 n = intsF 0 n := rangeL_ints n 0
end DP

set_option Elab.async false
set_option linter.all false
set_option maxRecDepth 100000
set_option maxHeartbeats 2000000
/-! Calls that see data alone and give data alone: what they leave behind is forgotten. -/
namespace DP
open PySem L2 PySem.Spec PyProof.Rows

mutual
/-- data without any store's object -/
def D.pu : D → Bool
  | .own _ => false
  | .loc _ => false
  | .tup xs => D.puL xs
  | .lst xs => D.puL xs
  | .gd _ ds => D.puL ds
  | .non => true
  | .bl _ => true
  | .int _ => true
  | .str _ => true
  | .ty _ => true
  | .scr _ => true
def D.puL : List D → Bool
  | [] => true
  | d :: ds => d.pu && D.puL ds
end
section
variable {K : KW} {B : Hp} {A A' : Ad}
mutual
theorem At.pu : ∀ {v : V} {d : D}, At K B A v d → d.pu = true → At K B A' v d
  | _, _, .non, _ => .non
  | _, _, .bl b, _ => .bl b
  | _, _, .int i, _ => .int i
  | _, _, .str x, _ => .str x
  | _, _, .ty n, _ => .ty n
  | _, _, .scr h, _ => .scr h
  | _, _, .tup h t, c => .tup h (AtL.pu t (by rw [D.pu] at c; exact c))
  | _, _, .lst h t, c => .lst h (AtL.pu t (by rw [D.pu] at c; exact c))
  | _, _, .gd h r t, c => .gd h r (AtL.pu t (by rw [D.pu] at c; exact c))
  | _, .loc n, .ref h, c => by rw [D.pu] at c; cases c
  | _, .own n, .ref h, c => by rw [D.pu] at c; cases c
  | _, .non, .ref h, _ => by cases h
  | _, .bl _, .ref h, _ => by cases h
  | _, .int _, .ref h, _ => by cases h
  | _, .str _, .ref h, _ => by cases h
  | _, .ty _, .ref h, _ => by cases h
  | _, .tup _, .ref h, _ => by cases h
  | _, .lst _, .ref h, _ => by cases h
  | _, .gd _ _, .ref h, _ => by cases h
  | _, .scr _, .ref h, _ => by cases h
theorem AtL.pu : ∀ {vs : List V} {ds : List D}, AtL K B A vs ds → D.puL ds = true → AtL K B A' vs ds
  | _, _, .nil, _ => .nil
  | _, _, .cons h t, c => by
    rw [D.puL, Bool.and_eq_true] at c
    exact .cons (At.pu h c.1) (AtL.pu t c.2)
end
end
def callP (F : FN) (ds : List D) (w : Wd) : Res D := if D.puL ds = true then (match F ds [] with
    | .ok d _ => if d.pu = true then .ok d w else .stuck
    | _ => .stuck) else .stuck
def eCallP (F : FN) (m : MA) : ME := fun δ w => (m δ w).bind fun ds w1 => callP F ds w1
theorem callP_ok {K : KW} {n : Nat} {F : FN} {B : Hp} {A : Ad} {w : Wd} {H : Hp} {vs : List V} {ds : List D} {Q : VK} {E : XK} (hn : vs.length = n) (R : Rep K B A w H) (h : AtL K B A vs ds)
    (q : (callP F ds w).post (fun d w' => ∀ v B' A' H', Gr B A H B' A' H' → Rep K B' A' w' H' → At K B' A' v d → Q v H') (fun _ _ _ => False)) : spD K n F vs H Q E := by
  unfold callP at q
  split at q
  case isFalse => exact q.elim
  case isTrue hp =>
    have R0 : Rep K B ⟨[], []⟩ ⟨[], []⟩ H := ⟨R.ext, rfl, rfl, List.nodup_nil, (fun b hb => nomatch hb), (fun o ho => nomatch ho), fun d o b h1 h2 => by
      cases d with
      | loc n => exact absurd h1 (by simp [Wd.get])
      | own n => exact absurd h1 (by simp [Wd.get])
      | _ => cases h1⟩
    refine ⟨hn, B, [], [], ds, R0, h.pu hp, ?_⟩
    cases e : F ds [] with
    | exc c as s => rw [e] at q; exact q.elim
    | stuck => rw [e] at q; exact q.elim
    | ok d w' =>
      rw [e] at q
      have q : (if d.pu = true then Res.ok d w else .stuck).post (fun d w' => ∀ v B' A' H', Gr B A H B' A' H' → Rep K B' A' w' H' → At K B' A' v d → Q v H') (fun _ _ _ => False) := q
      split at q
      case isFalse => exact q.elim
      case isTrue hd =>
        intro v B' M' H' g R' a
        have far : ∀ b o, H b = some o → H' b = some o ∧ B' b = B b := fun b o e => by
          obtain ⟨q1, q2, _, _⟩ := g.fr b o e (fun z => nomatch z) (fun z => nomatch z)
          exact ⟨q1, q2⟩
        refine q v B' A H' ⟨.refl _, g.ex, g.th, g.fz, fun b o e h1 h2 => ⟨(far b o e).1, (far b o e).2, h1, h2⟩⟩ ⟨R'.ext, R.lm, R.ln, R.nd, fun b hb => g.th b (R.th b hb), R.cs, fun d2 o2 b h1 h2 => ?_⟩ (a.pu hd)
        rcases R.ob d2 o2 b h1 h2 with ⟨q1, q2⟩ | ⟨q1, q2⟩
        · refine .inl ⟨q1, fun z => ?_⟩
          cases y : B b with
          | none => exact q2 y
          | some u => rw [g.ex b u y] at z; cases z
        · cases y : H b with
          | none => exact absurd y (R.th b (Ad.mem h2))
          | some u =>
            obtain ⟨z1, z2⟩ := far b u y
            refine .inr ⟨z2.trans q1, q2.mono g.ex (.refl _) (z1.trans y.symm) fun dx e1 e2 => ?_⟩
            obtain ⟨y1, y2⟩ := far dx _ e1
            exact ⟨y1, y2.trans e2⟩
section
variable {X : Cx} {j k : Nat} {ps : List Str} {F : FN} {x : Str} {p pos : Pos} {e : Expr} {es : List Expr} {mr : MA}
theorem de_callP {f : Addr} {fd : FuncData} {n : Nat} (G : FnG X.prog X.w X.K X.mg X.base CX0 k f fd ps (spD (kwOf X) n F)) (hr : RoomG k X.A) (hm : X.mg x = some (.ref f)) (hk : PySem.W.keepIn X.K (.ref f) = true)
    (hb : Binds X.K fd ps []) (ha : PA X (e :: es) (tAr (kwOf X) X0 mr)) (hg : Gl X x := by rfl) (hlen : LenA mr n)
    (hdb : (x == ("__debug__" : Str)) = false := by decide) (he : starEach (e :: es) X.env = (false, eval e X.env) :: starEach es X.env := by rfl) (hpl : (backTo pos (starEach es X.env)).any (·.1) = false := by rfl) :
    PE X (.Call (.Name x p) (e :: es) [] pos) (tE (kwOf X) X0 (eCallP F mr)) := by
  refine PE.weaken (pe_callG (E := E0) G hr hg hm hk hb pass0 ha hdb he hpl) fun σ H Q h => ?_
  obtain ⟨B, A, w, δ, R, E, h⟩ := h
  cases q : mr δ w with
  | ok ds w1 =>
    have hl := hlen δ w ds w1 q
    refine ⟨B, A, w, δ, R, E, ?_⟩
    have h' : (callP F ds w1).post (FinD (kwOf X) B A H Q) (X0.P B A H) := by
      unfold eCallP at h
      rw [q] at h
      exact h
    rw [q]
    intro vs B1 A1 H1 g R1 a1
    exact callP_ok (by rw [a1.length]; exact hl) R1 a1 (post_shift h' g)
  | exc c as s =>
    unfold eCallP at h
    rw [q] at h
    exact h.elim
  | stuck =>
    unfold eCallP at h
    rw [q] at h
    exact h.elim
theorem dc_callP (G : DOk X.prog X.w X.K X.mg X.base j x ps F) (hr : RoomG k X.A) (ha : PA X (e :: es) (tAr (kwOf X) X0 mr)) (hlen : LenA mr ps.length) (hjk : j ≤ k := by decide) (hg : Gl X x := by rfl)
    (hdb : (x == ("__debug__" : Str)) = false := by decide) (he : starEach (e :: es) X.env = (false, eval e X.env) :: starEach es X.env := by rfl) (hpl : (backTo pos (starEach es X.env)).any (·.1) = false := by rfl) :
    PE X (.Call (.Name x p) (e :: es) [] pos) (tE (kwOf X) X0 (eCallP F mr)) := by
  obtain ⟨f, fd, G, hb, hk, hm⟩ := G.ex
  exact de_callP (G.up hjk) hr hm hk hb ha hg hlen hdb he hpl
end
end DP

set_option Elab.async false
set_option linter.all false
set_option maxRecDepth 100000
set_option maxHeartbeats 2000000
/-! An instance made without arguments; a list made longer by a tuple's items. -/
namespace DP
open PySem L2 PySem.Spec PyProof.Rows
section
variable {X : Cx} {j k n : Nat} {ps : List Str} {F : FN} {x m C s0 : Str} {p pos apos : Pos}
theorem dc_make0 (G : COk X.prog X.w X.K X.mg X.base j C [s0] F) (hr : RoomG (k + 1) X.A) (hjk : j ≤ k := by decide) (hg : Gl X C := by rfl)
    (hdb : (C == ("__debug__" : Str)) = false := by decide) : PE X (.Call (.Name C p) [] [] pos) (tE (kwOf X) X0 (eMake C F aNil)) := by
  obtain ⟨f, fd, G, hb, M, hm⟩ := G.ex
  exact de_make0 M (G.up hjk) hr hm hb hg hdb
end
theorem extend_tup (l : Addr) (items : Array Value) (n : Nat) (b : Addr) (items2 : Array Value) (hs0 : ¬(!items.isEmpty && Builtin.List.listTooLong (items.size + items2.size)) = true) (hs1 : items.size ≤ sizeLine) (hs2 : items.size + items2.size ≤ sizeLine + 1) :
    Meets (Builtin.«list.extend» ⟨[.ref l, .ref b], []⟩) (fun _ R s => s.heap.get? l = some { cls := .type "list", dict := none, data := .seq items n, slots := #[] } ∧ IsTup s.heap b items2 ∧ R (.ok (.ret Value.none)) { s with heap := s.heap.update l (Obj.mapSeq fun x => x ++ items2), toks := s.toks }) :=
  .of_wp fun prog w A R s h => by
    obtain ⟨hp, g, d, tk, os⟩ := s
    obtain ⟨hl, ⟨⟨oc, od, oda, os2⟩, hb, hc, n2, hd⟩, h⟩ := h
    simp only at hc hd
    subst hc hd
    have f1 := PySem.AutoSeq1.idx_int; have f2 := PySem.AutoSeq1.sub_tuple_tuple; have f3 := PySem.AutoSeq1.sub_list_list; have f4 := PySem.AutoSeq1.sub_tuple_list; have f5 := PySem.AutoSeq1.sub_list_tuple
    have hz' : (items ++ items2).size ≤ sizeLine + 1 := by rw [Array.size_append]; exact hs2
    wp_walk using (PySem.wpAny_updateSeq hl rfl (hz := hs1) (_hz' := hz')), PySem.AutoSeq1.wpAny_loadPart' hl, PySem.AutoSeq1.wpAny_loadPart' hb
    exact ⟨_, rfl, h⟩
def rExtendT (K : KW) : V → List V → Hp → VK → Prop := fun x vs H Q => ∃ l b xs zs, x = .ref l ∧ vs = [.ref b] ∧ H l = some (.lst xs) ∧ SqT K H b zs ∧ xs.length + zs.length ≤ sizeLine ∧ Q .non (upd H l (.lst (xs ++ zs)))
def rExtendA (K : KW) : V → List V → Hp → VK → Prop := fun x vs H Q => rExtend x vs H Q ∨ rExtendT K x vs H Q
theorem mt_extendA {X : Cx} : MtM X "list.extend" (rExtendA (kwOf X)) := by
  intro pins s σ H x vs v us Q I rx rv h
  rcases h with h | h
  · exact mt_extend pins s σ H x vs v us Q I rx rv h
  obtain ⟨l, b, xs, zs, rfl, rfl, hH, hB, hz, q⟩ := h
  cases rx
  obtain ⟨u, rfl, ru⟩ := rv.one
  cases ru
  obtain ⟨z, its, n, r, hl, e⟩ := I.lstM hH
  obtain ⟨its2, r2, p2, z2⟩ := I.tuple hB
  have hl2 := r2.length
  have hsz : its.toArray.size + its2.toArray.size ≤ sizeLine := by rw [List.size_toArray, List.size_toArray]; omega
  have hlong : ¬ (!its.toArray.isEmpty && Builtin.List.listTooLong (its.toArray.size + its2.toArray.size)) = true := by
    rw [notLongL hsz, Bool.and_false]
    exact Bool.false_ne_true
  refine call_meets F.slot_list_extend ⟨_, e, rfl⟩ F.entry_list_extend (F.args_list_extend_2 _ _)
    (extend_tup l its.toArray n b its2.toArray hlong (by rw [List.size_toArray]; omega) (by omega)) ⟨e, p2, ?_⟩
  refine ⟨.non, _, I.lset (its' := its ++ its2) hH e (by simp) (r.append r2) ?_, rfl, q⟩
  rw [List.length_append]
  omega
/-- list.extend by a list or a tuple -/
def opExtendA (o : D) (ds : List D) (w : Wd) : Res D := match w.get o, ds with
  | some (.lst xs), [.tup ys] => if xs.length + ys.length ≤ sizeLine ∧ clnL o ys = true then .ok .non (w.put o (.lst (xs ++ ys))) else .stuck
  | _, _ => opExtend o ds w
theorem md_extendA {K : KW} : MtD K "list" (rExtendA K) opExtendA := by
  intro B A w H x vs dx ds Q Ee R hx t h
  unfold opExtendA at h
  split at h
  · rename_i xs ys hg
    obtain ⟨a, rfl, ha⟩ := get_at R hx hg
    rcases R.ob dx _ a hg ha with ⟨z, _⟩ | ⟨hB, us, hH, tt⟩
    · cases z
    cases t with
    | cons a1 t =>
      cases t
      split at h
      case isFalse => exact h.elim
      case isTrue hc =>
        cases a1 with
        | ref q => cases q
        | tup hb tz =>
          obtain ⟨R2, g2⟩ := R.upd hg ha (h' := .lst (us ++ _)) (o' := .lst (xs ++ ys)) hH (fun _ z => by cases z) (fun _ _ z => by cases z) hB ⟨_, upd_same, tt.append tz⟩ (fun n e => by
              subst e
              show D.clL (xs ++ ys) = true
              have q0 : D.clL xs = true := R.clOf hg
              rw [D.clL_app, q0]
              have q : D.clL ys = true := hc.2
              rw [q]; rfl)
          exact .inr ⟨a, _, us, _, rfl, rfl, hH, ex_t R.ext hb, by rw [tt.length, tz.length]; exact hc.1, h _ B A _ g2 R2 .non⟩
  · obtain q := md_extend R hx t h
    exact .inl q
end DP

set_option Elab.async false
set_option linter.all false
set_option maxRecDepth 100000
set_option maxHeartbeats 2000000
/-! Plain words for the plain laws: equality of data, what is shown, steps, drawn members. -/
namespace DP
open PySem L2

mutual
def eqD : D → D → Bool
  | .non, .non => true
  | .bl a, .bl b => a == b
  | .int a, .int b => decide (a = b)
  | .str a, .str b => decide (a = b)
  | .tup a, .tup b => eqDs a b
  | .lst a, .lst b => eqDs a b
  | _, _ => false
def eqDs : List D → List D → Bool
  | [], [] => true
  | a :: as, b :: bs => eqD a b && eqDs as bs
  | _, _ => false
end
mutual
theorem eqD_ok : ∀ {a b : D}, eqD a b = true → a = b
  | .non, b, h => by cases b <;> first | rfl | (unfold eqD at h; cases h)
  | .bl x, b, h => by
    cases b with
    | bl y => unfold eqD at h; rw [eq_of_beq h]
    | _ => unfold eqD at h; cases h
  | .int x, b, h => by
    cases b with
    | int y => unfold eqD at h; rw [of_decide_eq_true h]
    | _ => unfold eqD at h; cases h
  | .str x, b, h => by
    cases b with
    | str y => unfold eqD at h; rw [of_decide_eq_true h]
    | _ => unfold eqD at h; cases h
  | .tup x, b, h => by
    cases b with
    | tup y => unfold eqD at h; rw [eqDs_ok h]
    | _ => unfold eqD at h; cases h
  | .lst x, b, h => by
    cases b with
    | lst y => unfold eqD at h; rw [eqDs_ok h]
    | _ => unfold eqD at h; cases h
  | .loc _, b, h => by unfold eqD at h; cases b <;> cases h
  | .own _, b, h => by unfold eqD at h; cases b <;> cases h
  | .ty _, b, h => by unfold eqD at h; cases b <;> cases h
  | .gd _ _, b, h => by unfold eqD at h; cases b <;> cases h
  | .scr _, b, h => by unfold eqD at h; cases b <;> cases h
theorem eqDs_ok : ∀ {a b : List D}, eqDs a b = true → a = b
  | [], [], _ => rfl
  | a :: as, b :: bs, h => by
    unfold eqDs at h
    rw [Bool.and_eq_true] at h
    rw [eqD_ok h.1, eqDs_ok h.2]
  | [], _ :: _, h => by unfold eqDs at h; cases h
  | _ :: _, [], h => by unfold eqDs at h; cases h
end
mutual
theorem rp_pu {w w' : Wd} : ∀ (n : Nat) {d : D}, d.pu = true → d.rp w n = d.rp w' n
  | 0, _, _ => rfl
  | n + 1, .non, _ => rfl
  | n + 1, .bl _, _ => rfl
  | n + 1, .int _, _ => rfl
  | n + 1, .str _, _ => rfl
  | n + 1, .tup xs, h => by
    rw [D.pu] at h
    show (rpL (D.rp w n) xs).map PyData.tuple = (rpL (D.rp w' n) xs).map PyData.tuple
    rw [rpL_pu n h]
  | n + 1, .lst xs, h => by
    rw [D.pu] at h
    show (rpL (D.rp w n) xs).map PyData.list = (rpL (D.rp w' n) xs).map PyData.list
    rw [rpL_pu n h]
  | n + 1, .loc _, h => by rw [D.pu] at h; cases h
  | n + 1, .own _, h => by rw [D.pu] at h; cases h
  | n + 1, .ty _, _ => rfl
  | n + 1, .gd _ _, _ => rfl
  | n + 1, .scr _, _ => rfl
theorem rpL_pu {w w' : Wd} : ∀ (n : Nat) {ds : List D}, D.puL ds = true → rpL (D.rp w n) ds = rpL (D.rp w' n) ds
  | n, [], _ => rfl
  | n, d :: ds, h => by
    rw [D.puL, Bool.and_eq_true] at h
    unfold rpL
    rw [rp_pu n h.1, rpL_pu n h.2]
end
def okR (d : D) : Bool := match d.rp ⟨[], []⟩ 70 with
  | some p => PyData.okShown p
  | none => false
def shR (d : D) : Str := match d.rp ⟨[], []⟩ 70 with
  | some p => p.shown
  | none => ""
theorem repr_ok {d : D} {w : Wd} (hp : d.pu = true) (h : okR d = true) : opRepr [d] w = .ok (.str (shR d)) w := by
  have q : opRepr [d] w = (match d.rp w 70 with
    | some p => if PyData.okShown p = true then Res.ok (D.str p.shown) w else .stuck
    | none => .stuck) := rfl
  have e0 : d.rp w 70 = d.rp ⟨[], []⟩ 70 := rp_pu 70 hp
  rw [q, e0]
  unfold okR at h
  unfold shR
  cases e : d.rp ⟨[], []⟩ 70 with
  | none => rw [e] at h; cases h
  | some p =>
    rw [e] at h
    exact if_pos h
theorem ne_str {x : Str} {w : Wd} : opNe (.str x) (.str x) w = .ok (.bl false) w := by
  have q : opNe (.str x) (.str x) w = Res.ok (D.bl (!decide (x = x))) w := rfl
  rw [q, decide_eq_true rfl]
  rfl
theorem eq_str {x : Str} {w : Wd} : opEq (.str x) (.str x) w = .ok (.bl true) w := by
  have q : opEq (.str x) (.str x) w = Res.ok (D.bl (decide (x = x))) w := rfl
  rw [q, decide_eq_true rfl]
def vD (r : Res D) : Option D := match r with
  | .ok d _ => some d
  | _ => none
def isD (o : Option D) (d : D) : Bool := match o with
  | some e => eqD e d
  | none => false

theorem callP_m {F : FN} {m : ME} {d : D} {δ : DP.Env} {w w1 : Wd} (h : m δ w = .ok d w1) : eCallP F (aCons m aNil) δ w = callP F [d] w1 := by
  unfold eCallP aCons
  rw [h]
  rfl
theorem repr_m {m : ME} {d : D} {δ : DP.Env} {w w1 : Wd} (h : m δ w = .ok d w1) (hp : d.pu = true) (ho : okR d = true) : eB opRepr (aCons m aNil) δ w = .ok (.str (shR d)) w1 := by
  unfold eB aCons
  rw [h]
  exact repr_ok hp ho
theorem ne_same {m n : ME} {d : D} {δ : DP.Env} {w : Wd} (hm : m δ w = .ok d w) (hn : n δ w = .ok d w) (hp : d.pu = true) (ho : okR d = true) : tB_ (eOp opNe (eB opRepr (aCons m aNil)) (eB opRepr (aCons n aNil))) δ w = .ok false w := by
  have e1 := repr_m hm hp ho
  have e2 := repr_m hn hp ho
  unfold tB_ eOp
  rw [e1, bind_ok, e2, bind_ok, ne_str, bind_ok]
theorem or_ff {s t : MT} {δ : DP.Env} {w w1 w2 : Wd} (hs : s δ w = .ok false w1) (ht : t δ w1 = .ok false w2) : tOr_ s t δ w = .ok false w2 := by
  unfold tOr_
  rw [hs, bind_ok, if_neg (by decide), ht]

theorem callP_w {F : FN} {ds : List D} {d : D} {w w' : Wd} (h : callP F ds w = .ok d w) : callP F ds w' = .ok d w' := by
  unfold callP at h ⊢
  split at h
  case isFalse => cases h
  case isTrue hp =>
    rw [if_pos hp]
    cases e : F ds [] with
    | exc c as s => rw [e] at h; cases h
    | stuck => rw [e] at h; cases h
    | ok d' w0 =>
      rw [e] at h
      have h : (if d'.pu = true then Res.ok d' w else .stuck) = .ok d w := h
      show (if d'.pu = true then Res.ok d' w' else .stuck) = .ok d w'
      split at h
      case isFalse => cases h
      case isTrue hd =>
        rw [if_pos hd]
        cases h
        rfl

theorem puL_app : ∀ {a b : List D}, D.puL a = true → D.puL b = true → D.puL (a ++ b) = true
  | [], _, _, h => h
  | x :: xs, b, h1, h2 => by
    rw [D.puL, Bool.and_eq_true] at h1
    rw [List.cons_append, D.puL, h1.1, puL_app h1.2 h2]
    rfl

theorem nil_f {t : MT} {m : MS} {δ : DP.Env} {w w1 : Wd} (h : t δ w = .ok false w1) : sIf t m sNil δ w = .ok (.nx, δ) w1 := if_f h

theorem clL_mem : ∀ {xs : List D} {x : D}, D.clL xs = true → x ∈ xs → x.cl = true
  | y :: ys, x, h, hm => by
    rw [D.clL, Bool.and_eq_true] at h
    rcases List.mem_cons.mp hm with e | e
    · rw [e]; exact h.1
    · exact clL_mem h.2 e

def ofM : MS := (sSeq (sRet (eOp opIx (eVar 1) (eCall pickF (aCons (eVar 0) (aCons (eB opLen (aCons (eVar 1) aNil)) aNil))))) sNil)
def ofF : FN := fnM 2 2 ofM

/-- one of some, where the list lies anywhere -/
theorem of_gen {cells : List Int} {left mixed turn : Int} {rest : List SO} {xs : List D} {dl : D} (hc : cells.length ≤ 63) (h0 : xs ≠ []) (hl : xs.length < 1000000) (hx : D.clL xs = true)
    (hlen : ∀ w : Wd, w.s.drop 2 = rest → opLen [dl] w = .ok (.int (xs.length : Int)) w) (hix : ∀ (w : Wd) (n : Nat) (h : n < xs.length), w.s.drop 2 = rest → opIx dl (.int (n : Int)) w = .ok xs[n] w) :
    ∃ x cells' left' mixed' turn', ofF [.loc 1, dl] (src cells left mixed turn rest) = .ok x ⟨src cells' left' mixed' turn' rest, []⟩ ∧ x ∈ xs ∧ cells'.length ≤ 63 := by
  have hpos : 0 < xs.length := List.length_pos_iff.mpr h0
  obtain ⟨k, cells', left', mixed', turn', e, k0, k1, hc'⟩ := pick_ok (cells := cells) (left := left) (mixed := mixed) (turn := turn) (many := (xs.length : Int)) (rest := rest) hc (by omega) (by omega)
  obtain ⟨n, rfl⟩ : ∃ n : Nat, k = (n : Int) := ⟨k.toNat, by omega⟩
  have hn : n < xs.length := by omega
  refine ⟨xs[n], cells', left', mixed', turn', ?_, List.getElem_mem hn, hc'⟩
  have e1 : (eCall pickF (aCons (eVar 0) (aCons (eB opLen (aCons (eVar 1) aNil)) aNil))) [some (.loc 1), some dl] ⟨src cells left mixed turn rest, []⟩ = .ok (.int (n : Int)) ⟨src cells' left' mixed' turn' rest, []⟩ := by
    have a1 : (aCons (eVar 0) (aCons (eB opLen (aCons (eVar 1) aNil)) aNil)) [some (.loc 1), some dl] ⟨src cells left mixed turn rest, []⟩ = .ok [.loc 1, .int (xs.length : Int)] ⟨src cells left mixed turn rest, []⟩ := by
      show Res.bind (Res.bind (opLen [dl] ⟨src cells left mixed turn rest, []⟩) _) _ = _
      rw [hlen _ rfl]
      rfl
    unfold eCall
    rw [a1, bind_ok, callM_nil, e]
  have e2 : ofM [some (.loc 1), some dl] ⟨src cells left mixed turn rest, []⟩ = .ok (.rt xs[n], [some (.loc 1), some dl]) ⟨src cells' left' mixed' turn' rest, []⟩ := by
    have e3 : (sRet (eOp opIx (eVar 1) (eCall pickF (aCons (eVar 0) (aCons (eB opLen (aCons (eVar 1) aNil)) aNil))))) [some (.loc 1), some dl] ⟨src cells left mixed turn rest, []⟩ = .ok (.rt xs[n], [some (.loc 1), some dl]) ⟨src cells' left' mixed' turn' rest, []⟩ := by
      show Res.bind (Res.bind ((eCall pickF (aCons (eVar 0) (aCons (eB opLen (aCons (eVar 1) aNil)) aNil))) [some (.loc 1), some dl] ⟨src cells left mixed turn rest, []⟩) _) _ = _
      rw [e1, bind_ok, hix _ n hn rfl]
      rfl
    unfold ofM
    rw [seq_rt e3]
  exact fn_rt (nl := 2) (np := 2) (m := ofM) (ds := [.loc 1, dl]) (δ0 := [some (.loc 1), some dl]) rfl rfl e2 (clL_mem hx (List.getElem_mem hn))
theorem atI_nat {α : Type} {xs : List α} {n : Nat} (hn : n < xs.length) : L2.atI xs (n : Int) = some xs[n] := by
  unfold L2.atI L2.ixN
  rw [if_pos (by omega), if_pos (by omega), Int.toNat_natCast]
  exact List.getElem?_eq_getElem hn
theorem ix_lst {xs : List D} {n : Nat} (hn : n < xs.length) {w : Wd} : opIx (.lst xs) (.int (n : Int)) w = .ok xs[n] w := by
  show (match L2.atI xs (n : Int) with
    | some d => Res.ok d w
    | none => .stuck) = _
  rw [atI_nat hn]
theorem of_ok {cells : List Int} {left mixed turn : Int} {rest : List SO} {xs : List D} (hc : cells.length ≤ 63) (h0 : xs ≠ []) (hl : xs.length < 1000000) (hx : D.clL xs = true) :
    ∃ x cells' left' mixed' turn', ofF [.loc 1, .lst xs] (src cells left mixed turn rest) = .ok x ⟨src cells' left' mixed' turn' rest, []⟩ ∧ x ∈ xs ∧ cells'.length ≤ 63 :=
  of_gen hc h0 hl hx (fun _ _ => rfl) fun _ _ hn _ => ix_lst hn
theorem clL_of : ∀ {ys : List D}, (∀ y ∈ ys, y.cl = true) → D.clL ys = true
  | [], _ => rfl
  | y :: ys, h => by
    rw [D.clL, h y List.mem_cons_self, clL_of fun z hz => h z (List.mem_cons_of_mem _ hz)]
    rfl

mutual
theorem pu_cl : ∀ {d : D}, d.pu = true → d.cl = true
  | .own _, h => by rw [D.pu] at h; cases h
  | .loc _, h => by rw [D.pu] at h; cases h
  | .tup xs, h => by rw [D.pu] at h; rw [D.cl]; exact pu_clL h
  | .lst xs, h => by rw [D.pu] at h; rw [D.cl]; exact pu_clL h
  | .gd _ ds, h => by rw [D.pu] at h; rw [D.cl]; exact pu_clL h
  | .non, _ => by rw [D.cl]
  | .bl _, _ => by rw [D.cl]
  | .int _, _ => by rw [D.cl]
  | .str _, _ => by rw [D.cl]
  | .ty _, _ => by rw [D.cl]
  | .scr _, _ => by rw [D.cl]
theorem pu_clL : ∀ {ds : List D}, D.puL ds = true → D.clL ds = true
  | [], _ => rfl
  | d :: ds, h => by
    rw [D.puL, Bool.and_eq_true] at h
    rw [D.clL, pu_cl h.1, pu_clL h.2]
    rfl
end

section
variable {m md : ME} {r ma : MA} {δ : DP.Env} {w w1 w2 : Wd} {d x : D} {ds O : List D} {s s' : List SO} {l : List SO} {i j n k : Nat}
theorem acons_ok (h1 : m δ w = .ok d w1) (h2 : r δ w1 = .ok ds w2) : aCons m r δ w = .ok (d :: ds) w2 := by
  unfold aCons
  rw [h1, bind_ok, h2, bind_ok]
theorem anil_ok : aNil δ w = .ok [] w := rfl
theorem tup_ok (h : r δ w = .ok ds w1) (hl : ds.length ≤ 1000) : eTup r δ w = .ok (.tup ds) w1 := by
  unfold eTup
  rw [h, bind_ok, if_pos (Nat.le_trans hl (by decide))]
theorem lst_ok (h : r δ w = .ok ds w1) (hl : ds.length ≤ 1000) : fLst r δ w = .ok ds w1 := by
  unfold fLst
  rw [h, bind_ok, if_pos (Nat.le_trans hl (by decide))]
theorem frz_ok {mf : MF} (h : mf δ w = .ok ds w1) : eFrz mf δ w = .ok (.lst ds) w1 := by
  unfold eFrz
  rw [h, bind_ok]

theorem set_ok (h : m δ w = .ok d w1) : sSet i m δ w = .ok (.nx, δ.set i (some d)) w1 := by
  unfold sSet
  rw [h, bind_ok]
theorem par_ok {a b : D} (h : r δ w = .ok [a, b] w1) : sPar i j r δ w = .ok (.nx, (δ.set i (some a)).set j (some b)) w1 := by
  unfold sPar
  rw [h, bind_ok]
theorem sq2_ok {a b : D} (h : m δ w = .ok (.tup [a, b]) w1) : sAsg (gSq 2 (gCons_ (gNm i) (gCons_ (gNm j) gNil_))) m δ w = .ok (.nx, (δ.set i (some a)).set j (some b)) w1 := by
  unfold sAsg
  rw [h, bind_ok]
  rfl

theorem var_ok (h0 : δ[i]? = some (some d)) : eVar i δ w = .ok d w := by
  unfold eVar
  rw [h0]

end

theorem callF_ok {FF : FN} {ma : MA} {δ : DP.Env} {ds : List D} {x : D} {s s' : List SO} {l : List SO} {w' : Wd} (ha : ma δ ⟨s, l⟩ = .ok ds ⟨s, l⟩) (q : FF ds s = .ok x w') (hw : w'.s = s') (hc : l = [] ∨ D.clL ds = true) : eCall FF ma δ ⟨s, l⟩ = .ok x ⟨s', l⟩ := by
  unfold eCall
  rw [ha, bind_ok]
  unfold callM
  rw [if_pos hc]
  show (match FF ds s with
    | .ok d w' => Res.ok d ⟨w'.s, l⟩
    | .exc c as s => .exc c as s
    | .stuck => .stuck) = _
  rw [q, ← hw]
theorem callF_ok2 {FF : FN} {ma : MA} {δ : DP.Env} {ds : List D} {x : D} {w w1 w' : Wd} (ha : ma δ w = .ok ds w1) (q : FF ds w1.s = .ok x w') (hc : w1.l = [] ∨ D.clL ds = true) : eCall FF ma δ w = .ok x ⟨w'.s, w1.l⟩ := by
  unfold eCall
  rw [ha, bind_ok]
  unfold callM
  rw [if_pos hc, q]
theorem ne_rp {m n : ME} {d e : D} {p : PyData} {δ : DP.Env} {w w1 w2 : Wd} (hm : m δ w = .ok d w1) (hn : n δ w1 = .ok e w2) (h1 : d.rp w1 70 = some p) (h2 : e.rp w2 70 = some p) (ho : PyData.okShown p = true) : tB_ (eOp opNe (eB opRepr (aCons m aNil)) (eB opRepr (aCons n aNil))) δ w = .ok false w2 := by
  have e1 : eB opRepr (aCons m aNil) δ w = .ok (.str p.shown) w1 := by
    unfold eB aCons
    rw [hm]
    show (match d.rp w1 70 with
      | some p => if PyData.okShown p = true then Res.ok (D.str p.shown) w1 else .stuck
      | none => .stuck) = _
    rw [h1]
    exact if_pos ho
  have e2 : eB opRepr (aCons n aNil) δ w1 = .ok (.str p.shown) w2 := by
    unfold eB aCons
    rw [hn]
    show (match e.rp w2 70 with
      | some p => if PyData.okShown p = true then Res.ok (D.str p.shown) w2 else .stuck
      | none => .stuck) = _
    rw [h2]
    exact if_pos ho
  unfold tB_ eOp
  rw [e1, bind_ok, e2, bind_ok, ne_str, bind_ok]
theorem callP_of {FF : FN} {ds : List D} {d : D} {w : Wd} (hp : D.puL ds = true) (hd : d.pu = true) (h : isD (vD (FF ds [])) d = true) : callP FF ds w = .ok d w := by
  unfold isD vD at h
  unfold callP
  rw [if_pos hp]
  cases e : FF ds [] with
  | exc c as s => rw [e] at h; cases h
  | stuck => rw [e] at h; cases h
  | ok d' w0 =>
    rw [e] at h
    have e2 : d' = d := eqD_ok h
    subst e2
    show (if d'.pu = true then Res.ok d' w else .stuck) = _
    rw [if_pos hd]
theorem getSome {α : Type} {o : Option α} {d : α} (h : o.isSome = true) : o = some (o.get h) := by
  cases o with
  | none => cases h
  | some x => rfl
theorem cut_mem {ys : List D} {lo hi : Option Int} {y : D} (h : y ∈ cutD ys lo hi) : y ∈ ys := by
  unfold cutD at h
  exact List.mem_of_mem_drop (List.mem_of_mem_take h)
theorem cut_len {ys : List D} {lo hi : Option Int} : (cutD ys lo hi).length ≤ ys.length := by
  unfold cutD
  rw [List.length_take, List.length_drop]
  omega
end DP

set_option Elab.async false
set_option linter.all false
set_option maxRecDepth 100000
set_option maxHeartbeats 2000000
/-! How long what is shown is: by leaves and nodes. -/
namespace DP
open PySem L2 PyProof.Rows
def lfS (x : Str) : Bool := decide ((PyData.shown (.str x)).length ≤ 60)
def lfI (i : Int) : Bool := decide (i.natAbs.log2 < 1920) && decide ((PyData.shown (.int i)).length ≤ 60)
mutual
/-- its leaves are short -/
def lv : D → Bool
  | .non => true
  | .bl _ => true
  | .int i => lfI i
  | .str x => lfS x
  | .tup xs => lvL xs
  | .lst xs => lvL xs
  | _ => false
def lvL : List D → Bool
  | [] => true
  | d :: ds => lv d && lvL ds
end
mutual
def nz : D → Nat
  | .tup xs => 1 + nzL xs
  | .lst xs => 1 + nzL xs
  | _ => 1
def nzL : List D → Nat
  | [] => 0
  | d :: ds => nz d + nzL ds
end
mutual
def dpD : D → Nat
  | .tup xs => 1 + dpL xs
  | .lst xs => 1 + dpL xs
  | _ => 0
def dpL : List D → Nat
  | [] => 0
  | d :: ds => max (dpD d) (dpL ds)
end
theorem textFrom_le : ∀ (ts : List Str) (k : Nat) (acc : Str), (textFrom k acc ts).length ≤ acc.length + piled ts
  | [], _, acc => by show acc.length ≤ _; omega
  | t :: r, k, acc => by
    have ih := textFrom_le r (k + 1) (acc ++ (if k > 0 then ", " else "" : String) ++ t)
    have e : (acc ++ (if k > 0 then ", " else "" : String) ++ t).length ≤ acc.length + 2 + t.length := by
      rw [strLen_append, strLen_append]
      split
      · show acc.length + 2 + t.length ≤ _; omega
      · show acc.length + 0 + t.length ≤ _; omega
    show (textFrom (k + 1) _ r).length ≤ _
    rw [piled_cons]
    omega
theorem listText_le (ts : List Str) : (listText ts).length ≤ piled ts + 2 := by
  unfold listText
  rw [strLen_append]
  have := textFrom_le ts 0 "["
  have e1 : (("[" : String) : Str).length = 1 := rfl
  have e2 : (("]" : String) : Str).length = 1 := rfl
  omega
theorem tupleText_le (ts : List Str) : (tupleText ts).length ≤ piled ts + 3 := by
  unfold tupleText
  rw [strLen_append, strLen_append]
  have e1 : (("(" : String) : Str).length = 1 := rfl
  have e2 : ((if ts.length == 1 then ",)" else ")" : String) : Str).length ≤ 2 := by
    split
    · exact Nat.le_refl _
    · show 1 ≤ 2; omega
  cases ts with
  | nil =>
    have : (Str.join ", " []).length = 0 := rfl
    omega
  | cons t r =>
    have := join_length_add (t :: r) (by simp)
    omega
/-- what is shown of data with short leaves -/
def Shows (w : Wd) (j : Nat) (d : D) (p : PyData) : Prop := d.rp w j = some p ∧ p.showable = true ∧ p.depth ≤ dpD d ∧ p.shown.length + 4 ≤ 64 * nz d
def ShowsL (w : Wd) (j : Nat) (ds : List D) (ps : List PyData) : Prop := rpL (D.rp w j) ds = some ps ∧ PyData.showableAll ps = true ∧ PyData.depthAll ps ≤ dpL ds ∧ piled (PyData.shownAll ps) + 2 * ds.length ≤ 64 * nzL ds
mutual
theorem shows : ∀ (d : D) (w : Wd) (j : Nat), lv d = true → dpD d < j → ∃ p, Shows w j d p
  | .non, w, j + 1, h, hj => ⟨.none, rfl, rfl, Nat.zero_le _, by show 4 + 4 ≤ 64 * 1; omega⟩
  | .bl b, w, j + 1, h, hj => ⟨.bool b, rfl, rfl, Nat.zero_le _, by cases b <;> (show _ + 4 ≤ 64 * 1; first | (show 4 + 4 ≤ _; omega) | (show 5 + 4 ≤ _; omega))⟩
  | .int i, w, j + 1, h, hj => by
    rw [lv, lfI, Bool.and_eq_true] at h
    exact ⟨.int i, rfl, h.1, Nat.zero_le _, by have := of_decide_eq_true h.2; show _ ≤ 64 * 1; omega⟩
  | .str x, w, j + 1, h, hj => by
    rw [lv, lfS] at h
    exact ⟨.str x, rfl, rfl, Nat.zero_le _, by have := of_decide_eq_true h; show _ ≤ 64 * 1; omega⟩
  | .tup xs, w, j + 1, h, hj => by
    rw [lv] at h
    rw [dpD] at hj
    obtain ⟨ps, e1, e2, e3, e4⟩ := showsL xs w j h (by omega)
    refine ⟨.tuple ps, ?_, e2, ?_, ?_⟩
    · show (rpL (D.rp w j) xs).map PyData.tuple = _
      rw [e1]
      rfl
    · show PyData.depthAll ps + 1 ≤ _
      rw [dpD]; omega
    · have := tupleText_le (PyData.shownAll ps)
      show (tupleText (PyData.shownAll ps)).length + 4 ≤ _
      rw [nz]; omega
  | .lst xs, w, j + 1, h, hj => by
    rw [lv] at h
    rw [dpD] at hj
    obtain ⟨ps, e1, e2, e3, e4⟩ := showsL xs w j h (by omega)
    refine ⟨.list ps, ?_, e2, ?_, ?_⟩
    · show (rpL (D.rp w j) xs).map PyData.list = _
      rw [e1]
      rfl
    · show PyData.depthAll ps + 1 ≤ _
      rw [dpD]; omega
    · have := listText_le (PyData.shownAll ps)
      show (listText (PyData.shownAll ps)).length + 4 ≤ _
      rw [nz]; omega
  | .loc _, w, j, h, _ => absurd (show false = true from h) (by decide)
  | .own _, w, j, h, _ => absurd (show false = true from h) (by decide)
  | .ty _, w, j, h, _ => absurd (show false = true from h) (by decide)
  | .gd _ _, w, j, h, _ => absurd (show false = true from h) (by decide)
  | .scr _, w, j, h, _ => absurd (show false = true from h) (by decide)
theorem showsL : ∀ (ds : List D) (w : Wd) (j : Nat), lvL ds = true → dpL ds < j → ∃ ps, ShowsL w j ds ps
  | [], w, j, h, hj => ⟨[], rfl, rfl, Nat.zero_le _, by show 0 + 2 * 0 ≤ 64 * 0; omega⟩
  | d :: ds, w, j, h, hj => by
    rw [lvL, Bool.and_eq_true] at h
    rw [dpL] at hj
    obtain ⟨p, a1, a2, a3, a4⟩ := shows d w j h.1 (by omega)
    obtain ⟨ps, b1, b2, b3, b4⟩ := showsL ds w j h.2 (by omega)
    refine ⟨p :: ps, ?_, ?_, ?_, ?_⟩
    · unfold rpL
      rw [a1, b1]
    · show (p.showable && PyData.showableAll ps) = true
      rw [a2, b2]
      rfl
    · show max p.depth (PyData.depthAll ps) ≤ _
      rw [dpL]; omega
    · show piled (p.shown :: PyData.shownAll ps) + 2 * (ds.length + 1) ≤ _
      rw [piled_cons, nzL]
      omega
end
theorem okShown_of {p : PyData} {n : Nat} (h1 : p.showable = true) (h2 : p.depth ≤ 64) (h3 : p.shown.length ≤ n) (hn : n ≤ 10000000) : PyData.okShown p = true := by
  unfold PyData.okShown
  rw [h1, decide_eq_true h2, decide_eq_true (show p.shown.length ≤ sizeLine from Nat.le_trans h3 (Nat.le_trans hn (by decide)))]
  rfl
theorem lvL_app : ∀ {a b : List D}, lvL a = true → lvL b = true → lvL (a ++ b) = true
  | [], _, _, h => h
  | x :: xs, b, h1, h2 => by
    rw [lvL, Bool.and_eq_true] at h1
    rw [List.cons_append, lvL, h1.1, lvL_app h1.2 h2]
    rfl
theorem nzL_app : ∀ (a b : List D), nzL (a ++ b) = nzL a + nzL b
  | [], b => (Nat.zero_add _).symm
  | x :: xs, b => by rw [List.cons_append, nzL, nzL, nzL_app xs b]; omega
theorem dpL_app : ∀ (a b : List D), dpL (a ++ b) = max (dpL a) (dpL b)
  | [], b => (Nat.zero_max _).symm
  | x :: xs, b => by rw [List.cons_append, dpL, dpL, dpL_app xs b]; omega
end DP

set_option Elab.async false
set_option linter.all false
set_option maxRecDepth 100000
set_option maxHeartbeats 2000000
/-! list(d.items()). -/
namespace DP
open PySem L2 PySem.Spec PyProof.Rows LiI
def kD : Key → D
  | .inl i => .int i
  | .inr x => .str x
theorem kD_at {K : KW} {B : Hp} {A : Ad} (k : Key) : At K B A (kV k) (kD k) := by
  cases k with
  | inl i => exact .int i
  | inr x => exact .str x
def fItems (m : ME) : MF := fun δ w => (m δ w).bind fun d w1 => match w1.get d with
  | some (.dK kvs) => .ok (kvs.map fun kv => .tup [kD kv.1, kv.2]) w1
  | _ => .stuck
section
variable {K : KW} {B : Hp} {A : Ad} {w : Wd} {H : Hp}
/-- more frozen objects, all new -/
theorem Rep.frozenMany (R : Rep K B A w H) {H' : Hp} {ts : List Addr} (hk : ∀ b o, H b = some o → H' b = some o) (hn : ∀ t ∈ ts, H t = none) (hH : ∀ t ∈ ts, H' t ≠ none) :
    Rep K (fun b => if b ∈ ts then H' b else B b) A w H' ∧ Gr B A H (fun b => if b ∈ ts then H' b else B b) A H' := by
  have hB : ∀ t ∈ ts, B t = none := fun t ht => R.bnone (hn t ht)
  have ex : Ex B (fun b => if b ∈ ts then H' b else B b) := fun b o e => by
    have : b ∉ ts := fun z => by rw [hB b z] at e; cases e
    show (if b ∈ ts then H' b else B b) = some o
    rw [if_neg this]
    exact e
  have nin : ∀ {b : Addr} {o : HO}, H b = some o → b ∉ ts := fun {b o} e z => by rw [hn b z] at e; cases e
  refine ⟨⟨fun b o e => ?_, R.lm, R.ln, R.nd, fun b hb => ?_, R.cs, fun d so b h1 h2 => ?_⟩, ⟨.refl _, ex, fun b h => ?_, fun b o u e => hk b _ e, fun b o e h1 h2 => ⟨hk b o e, if_neg (nin e), h1, h2⟩⟩⟩
  · by_cases z : b ∈ ts
    · have e : (if b ∈ ts then H' b else B b) = some o := e
      rw [if_pos z] at e
      exact e
    · have e : (if b ∈ ts then H' b else B b) = some o := e
      rw [if_neg z] at e
      exact hk b o (R.ext b o e)
  · cases y : H b with
    | none => exact absurd y (R.th b hb)
    | some u => rw [hk b u y]; exact fun z => by cases z
  · cases y : H b with
    | none => exact absurd y (R.th b (Ad.mem h2))
    | some u =>
      have hb := nin y
      rcases R.ob d so b h1 h2 with ⟨q1, q2⟩ | ⟨q1, q2⟩
      · exact .inl ⟨q1, by show (if b ∈ ts then H' b else B b) ≠ none; rw [if_neg hb]; exact q2⟩
      · refine .inr ⟨by show (if b ∈ ts then H' b else B b) = none; rw [if_neg hb]; exact q1, q2.mono ex (.refl _) ((hk b u y).trans y.symm) fun dx e1 e2 => ⟨hk dx _ e1, ?_⟩⟩
        show (if dx ∈ ts then H' dx else B dx) = none
        rw [if_neg (nin e1)]
        exact e2
  · cases y : H b with
    | none => exact absurd y h
    | some u => rw [hk b u y]; exact fun z => by cases z
theorem pairs_at {B1 : Hp} {A1 : Ad} {H' : Hp} : ∀ {us : List Addr} {vs : List (Key × V)} {kvs : List (Key × D)}, Paired (fun (t : Addr) (q : Key × V) => H' t = some (.tup [kV q.1, q.2])) us vs → AtK K B1 A1 vs kvs → (∀ t ∈ us, B1 t = H' t) → AtL K B1 A1 (us.map V.ref) (kvs.map fun kv => .tup [kD kv.1, kv.2])
  | _, _, _, .nil, .nil, _ => .nil
  | t :: us, (k, v) :: vs, (k2, d) :: kvs, .cons h r, .cons ⟨e, a⟩ s, hb => by
    have e : k = k2 := e
    subst e
    have h' : B1 t = some (.tup [kV k, v]) := (hb t List.mem_cons_self).trans h
    exact .cons (.tup (.inl (.inl h')) (.cons (kD_at k) (.cons a .nil))) (pairs_at r s fun u hu => hb u (List.mem_cons_of_mem _ hu))
end
section
variable {X : Cx} {W : XW} {e : Expr} {p apos cpos pos : Pos} {me : ME}
theorem df_litems (hc : X.calm = true) (hm : X.mg "list" = none) (hv : bootBuiltins "list" = some (.type "list")) (he : PE X e (tE (kwOf X) W me)) (hg : Gl X "list" := by rfl) (hbase : attributeBase e "items" X.env (eval e X.env) = eval e X.env := by rfl) (hline : (apos.endLine == cpos.line) = true := by rfl)
    (hs : starEach [.Call (.Attribute e "items" apos) [] [] cpos] X.env = (false, eval (.Call (.Attribute e "items" apos) [] [] cpos) X.env) :: starEach [] X.env := by rfl) :
    PE X (.Call (.Name "list" p) [.Call (.Attribute e "items" apos) [] [] cpos] [] pos) (tF (kwOf X) W (fItems me)) := by
  refine PE.weaken (pe_listItems hc he hg hm hv hbase hline hs) fun σ H Q h => ?_
  obtain ⟨B, A, w, δ, R, E, h⟩ := h
  refine part R E h fun d w1 v B1 A1 H1 g R1 a1 h1 => ?_
  split at h1
  case h_2 => exact h1.elim
  case h_1 kvs hgd =>
    obtain ⟨a, rfl, ha⟩ := get_at R1 a1 hgd
    rcases R1.ob d _ a hgd ha with ⟨z, _⟩ | ⟨hB, vs, hH, tt⟩
    · cases z
    refine ⟨a, vs, rfl, hH, fun H' q ts hk hq hts hqt hq' hp => ?_⟩
    have hH' : ∀ t ∈ ts, H' t ≠ none := by
      have : ∀ {us : List Addr} {vs : List (Key × V)}, Paired (fun (t : Addr) (q : Key × V) => H' t = some (.tup [kV q.1, q.2])) us vs → ∀ t ∈ us, H' t ≠ none := fun {us vs} r => by
        induction r with
        | nil => exact fun _ h => nomatch h
        | cons h _ ih =>
          intro t ht
          rcases List.mem_cons.mp ht with z | z
          · rw [z, h]; exact fun z => by cases z
          · exact ih t z
      exact this hp
    obtain ⟨R2, g2⟩ := R1.frozenMany hk hts hH'
    have h0 : H q = none := by
      cases y : H q with
      | none => rfl
      | some o => exact absurd hq (g.th q (by rw [y]; exact fun z => by cases z))
    have hnq := R1.notin hq
    exact h1 q (ts.map V.ref) _ A1 H' (g.trans g2) R2 h0 hq' (by show (if q ∈ ts then H' q else B1 q) = none; rw [if_neg hqt]; exact R1.bnone hq) hnq.1 hnq.2
      (pairs_at hp (tt.mono g2.ex (.refl _)) fun t ht => if_pos ht)
end
end DP

set_option Elab.async false
set_option linter.all false
set_option maxRecDepth 100000
set_option maxHeartbeats 2000000
/-! sorted(d) of a dict of texts; d.get(k, e). -/
namespace DP
open PySem L2 PySem.Spec PyProof.Rows
def leS (a b : Str) : Bool := !ltCps b.cps.toList a.cps.toList
theorem leS_iff {a b : Str} : leS a b = true ↔ a.cps.toList ≤ b.cps.toList := by
  unfold leS
  rw [ltCps_eq, ← List.not_lt]
  simp
theorem leS_trans (a b c : Str) (h1 : leS a b = true) (h2 : leS b c = true) : leS a c = true := leS_iff.mpr (List.le_trans (leS_iff.mp h1) (leS_iff.mp h2))
theorem leS_total (a b : Str) : (leS a b || leS b a) = true := by
  rw [Bool.or_eq_true, leS_iff, leS_iff]
  exact List.le_total _ _
theorem leS_anti {a b : Str} (h1 : leS a b = true) (h2 : leS b a = true) : a = b := by
  have e := List.le_antisymm (leS_iff.mp h1) (leS_iff.mp h2)
  cases a
  cases b
  simp only at e
  rw [Array.toList_inj.mp e]
def srtS (ks : List Str) : List Str := ks.mergeSort leS
theorem rising_pw : ∀ {p : Str} {l : List Str}, risingS p l = true → (p :: l).Pairwise fun a b => leS a b = true
  | p, [], _ => List.pairwise_singleton _ _
  | p, x :: r, h => by
    rw [risingS, Bool.and_eq_true] at h
    have ih := rising_pw h.2
    rw [List.pairwise_cons] at ih ⊢
    refine ⟨fun y hy => ?_, by rw [List.pairwise_cons]; exact ih⟩
    rcases List.mem_cons.mp hy with e | e
    · rw [e]; exact h.1
    · exact leS_trans p x y h.1 (ih.1 y e)
theorem sorted_pw {l : List Str} (h : sortedS l = true) : l.Pairwise fun a b => leS a b = true := by
  cases l with
  | nil => exact List.Pairwise.nil
  | cons x r => exact rising_pw h
theorem srt_eq {ys ks : List Str} (hp : ys.Perm ks) (hs : sortedS ys = true) : ys = srtS ks :=
  List.Perm.eq_of_pairwise (le := fun a b => leS a b = true) (fun a b _ _ h1 h2 => leS_anti h1 h2) (sorted_pw hs) (List.pairwise_mergeSort leS_trans leS_total ks) (hp.trans (List.mergeSort_perm ks leS).symm)
theorem srt_mem {ks : List Str} {x : Str} : x ∈ srtS ks ↔ x ∈ ks := (List.mergeSort_perm ks leS).mem_iff
theorem srt_len (ks : List Str) : (srtS ks).length = ks.length := (List.mergeSort_perm ks leS).length_eq
def keysT : List (Key × D) → Option (List Str)
  | [] => some []
  | (.inr x, _) :: r => (keysT r).map (x :: ·)
  | _ :: _ => none
theorem keysT_eq : ∀ {kvs : List (Key × D)} {ks : List Str}, keysT kvs = some ks → kvs.map (·.1) = ks.map Sum.inr
  | [], ks, h => by cases h; rfl
  | (.inr x, d) :: r, ks, h => by
    rw [keysT] at h
    cases q : keysT r with
    | none => rw [q] at h; cases h
    | some zs =>
      rw [q] at h
      cases h
      rw [List.map_cons, List.map_cons, keysT_eq q]
  | (.inl i, d) :: r, ks, h => by rw [keysT] at h; cases h; simp
def opSortD (ds : List D) (w : Wd) : Res (List D) := match ds with
  | [d] => (match dKof w d with
    | some kvs => (match keysT kvs with
      | some ks => if ks.length < 64 then .ok ((srtS ks).map D.str) w else .stuck
      | none => .stuck)
    | none => .stuck)
  | _ => .stuck
theorem atL_strs {K : KW} {B : Hp} {A : Ad} : ∀ ys : List Str, AtL K B A (ys.map V.str) (ys.map D.str)
  | [] => .nil
  | y :: ys => .cons (.str y) (atL_strs ys)
theorem atK_keys {K : KW} {B : Hp} {A : Ad} : ∀ {vs : List (Key × V)} {kvs : List (Key × D)}, AtK K B A vs kvs → vs.map (·.1) = kvs.map (·.1)
  | _, _, .nil => rfl
  | _, _, .cons h t => by rw [List.map_cons, List.map_cons, h.1, atK_keys t]
def rSortD : List V → Hp → VK → Prop := fun xs H Q => ∃ (a : Addr) (kvs : List (Key × V)) (ks : List Str), xs = [.ref a] ∧ Rd H a (.dK kvs) ∧ kvs.map (·.1) = ks.map Sum.inr ∧ ks.length < 64 ∧
    ∀ ys p, ys.Perm ks → sortedS ys = true → H p = none → Q (.ref p) (L2.upd H p (.lst (ys.map V.str)))
theorem cf_sortD {K : KW} : CallF K rSortD opSortD := by
  intro B0 A0 H0 B A w H vs ds Q Ee g R t h
  unfold opSortD at h
  split at h
  · rename_i d
    cases t with
    | cons a1 t =>
      cases t
      split at h
      · rename_i kvs e
        obtain ⟨a, vs, rfl, hd, tt, _⟩ := R.dKAt a1 e
        split at h
        · rename_i ks ek
          split at h
          case isFalse => exact h.elim
          case isTrue hz =>
            refine ⟨a, vs, ks, rfl, hd, (atK_keys tt).trans (keysT_eq ek), hz, fun ys p hp hs hn => ?_⟩
            rw [srt_eq hp hs]
            exact FinF.new h g R (atL_strs _) hn
        · exact h.elim
      · exact h.elim
  · exact h.elim
def eGet2 (mo me mf : ME) : ME := fun δ w => (mo δ w).bind fun o w1 => match dKof w1 o with
  | some _ => (me δ w1).bind fun y w2 => (mf δ w2).bind fun z w3 => (match dKof w3 o, keyD y with
    | some kvs, some k => .ok ((valD kvs k).getD z) w3
    | _, _ => .stuck)
  | none => .stuck
section
variable {X : Cx} {W : XW} {o e f : Expr} {apos cpos : Pos} {mo me mf : ME}
theorem de_get2 (hu : X.A.units + 1 < cLine) (ho : PE X o (tE (kwOf X) W mo)) (he : PE X e (tE (kwOf X) W me)) (hf : PE X f (tE (kwOf X) W mf)) (hbase : attributeBase o "get" X.env (eval o X.env) = eval o X.env := by rfl)
    (hfew : ((backTo cpos (starEach [e, f] X.env)).all (fun x => !x.1) && (backToKw cpos (keywordEach [] X.env)).all (fun x => x.1.isSome)
    && decide (([e, f] : List Expr).length + ([] : List Keyword).length + (if ([] : List Keyword).isEmpty then 0 else 1) < 30)) = true := by rfl) (hline : (apos.endLine == cpos.line) = true := by rfl)
    (htrees : backTo cpos (starEach [e, f] X.env) = [(false, eval e X.env), (false, eval f X.env)] := by rfl) :
    PE X (.Call (.Attribute o "get" apos) [e, f] [] cpos) (tE (kwOf X) W (eGet2 mo me mf)) := by
  refine PE.weaken (pe_dget2 hu ho he hf ⟨hbase, hfew, hline, htrees⟩) fun σ H Q h => ?_
  obtain ⟨B, A, w, δ, R, E, h⟩ := h
  refine part R E h fun d_o w1 vo B1 A1 H1 g1 R1 a1 h1 => ?_
  cases q0 : dKof w1 d_o with
  | none => rw [q0] at h1; exact h1.elim
  | some kvs0 =>
    rw [q0] at h1
    obtain ⟨a, vs0, rfl, hd0, tt0, _⟩ := R1.dKAt a1 q0
    refine ⟨a, rfl, .inl ⟨vs0, hd0⟩, ?_⟩
    refine part R1 (g1.env E) h1 fun dy w2 vy B2 A2 H2 g2 R2 a2 h2 => ?_
    refine part R2 ((g1.trans g2).env E) h2 fun dz w3 vz B3 A3 H3 g3 R3 a3 h3 => ?_
    cases q : dKof w3 d_o with
    | none => rw [q] at h3; exact h3.elim
    | some kvs =>
      cases k : keyD dy with
      | none => rw [q, k] at h3; exact h3.elim
      | some ky =>
        rw [q, k] at h3
        obtain ⟨a', vs, e, hd, tt, _⟩ := R3.dKAt ((g2.trans g3).at a1) q
        cases e
        have ey := a2.key k
        subst ey
        refine ⟨valV vs ky, .inl ⟨vs, ky, hd, rfl, rfl⟩, ?_⟩
        obtain ⟨v1, v2⟩ := tt.val ky
        have h3 : (Res.ok ((valD kvs ky).getD dz) w3).post (fun d w' => ∀ v B' A' H', Gr B A H B' A' H' → Rep (kwOf X) B' A' w' H' → At (kwOf X) B' A' v d → Q v H') (W.P B3 A3 H3) := h3
        cases z : valD kvs ky with
        | none =>
          rw [v2 z]
          rw [z] at h3
          exact h3 vz B3 A3 H3 ((g1.trans g2).trans g3) R3 a3
        | some dv =>
          obtain ⟨v, e1, e2⟩ := v1 dv z
          rw [e1]
          rw [z] at h3
          exact h3 v B3 A3 H3 ((g1.trans g2).trans g3) R3 e2
end
/-- a, b, c = x, y, z of plain local names -/
def sPar3 (i j l : Nat) (m : MA) : MS := fun δ w => (m δ w).bind fun ds w1 => match ds with
  | [a, b, c] => .ok (.nx, ((δ.set i (some a)).set j (some b)).set l (some c)) w1
  | _ => .stuck
section
variable {X : Cx} {W : XW} {pos : Pos}
theorem ds_par3 (i j l : Nat) {x y z : Str} {a b c : Expr} {px py pz pt : Pos} {kt k2 : Nat} {pt2 : Pos} {ma : MA} (hc : X.calm = true) (hN : X.N.Nodup) (ha : PA X [a, b, c] (tAr (kwOf X) W ma)) (hi : X.N[i]? = some x := by rfl) (hj : X.N[j]? = some y := by rfl) (hl : X.N[l]? = some z := by rfl) (hij : i ≠ j := by decide) (hil : i ≠ l := by decide) (hjl : j ≠ l := by decide)
    (hx : X.env.scope.names.lookup x = some .local := by rfl) (hy : X.env.scope.names.lookup y = some .local := by rfl) (hz : X.env.scope.names.lookup z = some .local := by rfl) (hw : swappedStores [.Tuple [.Name x px, .Name y py, .Name z pz] kt pt] (.Tuple [a, b, c] k2 pt2) X.env = pure (some [x, y, z]) := by rfl)
    (hs : swapsWithSole [.Tuple [.Name x px, .Name y py, .Name z pz] kt pt] (.Tuple [a, b, c] k2 pt2) pos.line X.env = pure false := by rfl) : PS X (.Assign [.Tuple [.Name x px, .Name y py, .Name z pz] kt pt] (.Tuple [a, b, c] k2 pt2) pos) (tSt (kwOf X) W (sPar3 i j l ma)) := by
  refine PS.weaken (ps_par3 hc hN hi hj hl hij hil hjl hx hy hz ha hw hs) fun U σ H h => ?_
  obtain ⟨B, A, w, δ, R, E, h⟩ := h
  refine partA R E h fun ds w1 vs B1 A1 H1 g R1 t h1 => ?_
  split at h1
  · cases t with
    | cons a1 t =>
      cases t with
      | cons a2 t =>
        cases t with
        | cons a3 t =>
          cases t
          exact ⟨_, _, _, rfl, h1 _ B1 A1 H1 g R1 ((((g.env E).set a1 i).set a2 j).set a3 l)⟩
  · exact h1.elim
end
end DP

set_option Elab.async false
set_option linter.all false
set_option maxRecDepth 100000
set_option maxHeartbeats 2000000
/-! law_k04_wrong_polynomials_and_lots: the mirrors of its defs (printed by gen.py). -/
namespace Lk04
open PySem L2 DP
def g_MOST_POWER : D := .int 3
def g_SORTS : D := .gd ["poly", "made", "promise"] [.tup [.str "poly"], .tup [.str "lot", .str "pipe", .str "grow"], .tup [.str "promise"]]
def g_LOT : D := .str "lot"
def g_PIPE : D := .str "pipe"
def g_GROW : D := .str "grow"
def g_PRIMES : D := .tup [.int 2, .int 3, .int 5, .int 7]
def g_POLY : D := .str "poly"
def g_PRIME : D := .str "prime"
def g_GROWN : D := .str "grown"
def g_PROMISE : D := .str "promise"
def g_NUMBER : D := .str "number"
def g_DIGIT : D := .str "digit"
def g_ANY : D := .str "any"
def g_MOST_OF : D := .int 60
def g_ASKS : D := .gd ["has", "first", "size", "rule", "form", "empty", "whole", "again", "count", "meets", "same", "parts", "within", "kept", "order", "roots", "apart", "law", "turns", "digits", "zeros", "kin", "feed", "hears", "where", "back"] [.tup [.str "lot", .str "any"], .tup [.str "lot"], .tup [.str "lot"], .tup [.str "lot"], .tup [.str "lot"], .tup [.str "lot"], .tup [.str "lot"], .tup [.str "lot"], .tup [.str "lot", .str "any"], .tup [.str "lot", .str "any"], .tup [.str "lot", .str "lot"], .tup [.str "lot", .str "lot"], .tup [.str "lot", .str "lot"], .tup [.str "promise"], .tup [.str "poly", .str "prime", .str "any"], .tup [.str "poly", .str "prime"], .tup [.str "poly", .str "prime"], .tup [.str "poly", .str "prime"], .tup [.str "poly", .str "prime"], .tup [.str "poly", .str "prime", .str "any", .str "any"], .tup [.str "poly", .str "prime", .str "any"], .tup [.str "poly", .str "poly", .str "prime"], .tup [.str "grown", .str "digit"], .tup [.str "grown"], .tup [.str "grown"], .tup [.str "grown"]]
def g_PIPES : D := .gd ["and", "or", "not", "moved", "at"] [.tup [.str "lot", .str "lot"], .tup [.str "lot", .str "lot"], .tup [.str "lot"], .tup [.str "lot", .str "number", .str "any"], .tup [.str "lot", .str "digits"]]
def g_PROMISES : D := .gd ["as", "within", "empty", "whole", "kin", "turns"] [.tup [.str "lot", .str "lot"], .tup [.str "lot", .str "lot"], .tup [.str "lot"], .tup [.str "lot"], .tup [.str "poly", .str "poly", .str "prime"], .tup [.str "poly", .str "prime"]]
def g_LOTS : D := .gd ["least", "just", "over", "rest", "nothing"] [.tup [.str "poly", .str "any"], .tup [.str "poly", .str "any"], .tup [.str "poly", .str "poly", .str "any"], .tup [.str "poly", .str "any", .str "any"], .tup [.str "poly"]]
def g_KINDS : D := .gd ["lot", "grown"] [.tup [.str "lot", .str "pipe"], .tup [.str "grow"]]
def m__law_pick : MS := (sSeq (sWhile (tAnd_ (tB_ (eOp opGt (eVar 1) (eC (.int 1)))) (tAnd_ (tB_ (eOp opLt (eOp opIx (eVar 0) (eC (.str "left"))) (eC (.int 2)))) (tB_ (eOp opGt (eB opLen (aCons (eOp opIx (eVar 0) (eC (.str "cells"))) aNil)) (eC (.int 0)))))) (sSeq (sAsg (gSub_ (eVar 0) (eC (.str "left"))) (eMt "list" opPop (eOp opIx (eVar 0) (eC (.str "cells"))) aNil)) sNil)) (sSeq (sSet 2 (eOp opIx (eVar 0) (eC (.str "left")))) (sSeq (sIf (tOr_ (tB_ (eOp opLt (eVar 1) (eC (.int 2)))) (tB_ (eOp opGt (eVar 2) (eC (.int 1))))) (sSeq (sAsg (gSub_ (eVar 0) (eC (.str "left"))) (eOp opFdiv (eVar 2) (eB opMax2 (aCons (eC (.int 1)) (aCons (eVar 1) aNil))))) (sSeq (sRet (eOp opMod (eB opInt (aCons (eVar 2) aNil)) (eB opMax2 (aCons (eC (.int 1)) (aCons (eVar 1) aNil))))) sNil)) sNil) (sSeq (sAsg (gSub_ (eVar 0) (eC (.str "turn"))) (eOp opAdd (eOp opIx (eVar 0) (eC (.str "turn"))) (eC (.int 1)))) (sSeq (sSet 3 (eOp opMod (eB opInt (aCons (eOp opAdd (eOp opIx (eVar 0) (eC (.str "mixed"))) (eOp opMul (eOp opIx (eVar 0) (eC (.str "turn"))) (eC (.int 104729)))) aNil)) (eC (.int 998244353)))) (sSeq (sSet 3 (eOp opMod (eB opInt (aCons (eOp opAdd (eOp opMul (eVar 3) (eVar 3)) (eOp opMul (eOp opIx (eVar 0) (eC (.str "turn"))) (eC (.int 17)))) aNil)) (eC (.int 2147483647)))) (sSeq (sAsg (gSub_ (eVar 0) (eC (.str "mixed"))) (eVar 3)) (sSeq (sRet (eOp opMod (eB opInt (aCons (eOp opFdiv (eVar 3) (eC (.int 16))) aNil)) (eVar 1))) sNil))))))))
def F__law_pick : FN := fnM 4 2 m__law_pick
def m__law_of : MS := (sSeq (sRet (eOp opIx (eVar 1) (eCall F__law_pick (aCons (eVar 0) (aCons (eB opLen (aCons (eVar 1) aNil)) aNil))))) sNil)
def F__law_of : FN := fnM 2 2 m__law_of
def m__law_lot : MS := (sSeq (sSet 2 (eCall F__law_of (aCons (eVar 0) (aCons (eFrz (fLst (aCons (eC (.int 2)) (aCons (eC (.int 3)) (aCons (eC (.int 5)) (aCons (eC (.int 7)) (aCons (eC (.int 2)) (aCons (eC (.int 3)) (aCons (eC (.int 5)) (aCons (eC (.int 7)) (aCons (eC (.int 1)) (aCons (eC (.int 4)) (aCons (eC (.int 9)) (aCons (eC (.int 0)) (aCons (eC (.int 11)) aNil))))))))))))))) aNil)))) (sSeq (sSet 3 (eOp opAdd (eOp opMul (eFrz (fB opSortD (aCons (eVar 1) aNil))) (eC (.int 3))) (eFrz (fLst (aCons (eC (.str "w")) (aCons (eC (.str "zz")) aNil)))))) (sSeq (sSet 4 (eCall F__law_of (aCons (eVar 0) (aCons (eFrz (fLst (aCons (eC (.str "least")) (aCons (eC (.str "just")) (aCons (eC (.str "over")) (aCons (eC (.str "rest")) (aCons (eC (.str "nothing")) (aCons (eC (.str "rest")) aNil)))))))) aNil)))) (sSeq (sPar3 8 9 10 (aCons (eCall F__law_of (aCons (eVar 0) (aCons (eVar 3) aNil))) (aCons (eCall F__law_of (aCons (eVar 0) (aCons (eVar 3) aNil))) (aCons (eCall F__law_pick (aCons (eVar 0) (aCons (eC (.int 5)) aNil))) aNil)))) (sSeq (sSet 5 (eOwnK (kDisp [((eC (.str "least")), (eTup (aCons (eC (.str "least")) (aCons (eVar 8) (aCons (eVar 10) aNil))))), ((eC (.str "just")), (eTup (aCons (eC (.str "just")) (aCons (eVar 8) (aCons (eVar 10) aNil))))), ((eC (.str "nothing")), (eTup (aCons (eC (.str "nothing")) (aCons (eVar 8) aNil))))]))) (sSeq (sAsg (gSub_ (eVar 5) (eC (.str "over"))) (eTup (aCons (eC (.str "over")) (aCons (eVar 8) (aCons (eVar 9) (aCons (eOp opSub (eVar 10) (eC (.int 3))) aNil)))))) (sSeq (sSet 6 (eCall F__law_of (aCons (eVar 0) (aCons (eFrz (fLst (aCons (eC (.int 0)) (aCons (eC (.int 1)) (aCons (eC (.int 2)) (aCons (eC (.int 3)) (aCons (eC (.int 60)) (aCons (eC (.int 61)) aNil)))))))) aNil)))) (sSeq (sAsg (gSub_ (eVar 5) (eC (.str "rest"))) (eTup (aCons (eC (.str "rest")) (aCons (eVar 8) (aCons (eCall F__law_of (aCons (eVar 0) (aCons (eFrz (fLst (aCons (eC (.int 0)) (aCons (eC (.int 1)) (aCons (eVar 6) (aCons (eB opMax2 (aCons (eC (.int 0)) (aCons (eOp opSub (eVar 6) (eC (.int 1))) aNil))) aNil)))))) aNil))) (aCons (eVar 6) aNil)))))) (sSeq (sSet 7 (eOp opIx (eVar 5) (eVar 4))) (sSeq (sIf (tB_ (eOp (opIn true) (eVar 2) (eTup (aCons (eC (.int 2)) (aCons (eC (.int 3)) (aCons (eC (.int 5)) (aCons (eC (.int 7)) aNil))))))) (sSeq (sRet (eTup (aCons (eVar 2) (aCons (eVar 7) (aCons (eTup (aCons (eTup (aCons (eC (.int 2)) aNil)) (aCons (eC (.str "prime")) aNil))) aNil))))) sNil) sNil) (sSeq (sIf (tB_ (eOp (opIn true) (eVar 8) (eVar 1))) (sSeq (sRet (eTup (aCons (eVar 2) (aCons (eVar 7) (aCons (eTup (aCons (eTup (aCons (eC (.int 3)) (aCons (eC (.int 1)) aNil))) (aCons (eC (.str "poly")) aNil))) aNil))))) sNil) sNil) (sSeq (sIf (tAnd_ (tB_ (eOp opEq (eVar 4) (eC (.str "over")))) (tB_ (eOp (opIn true) (eVar 9) (eVar 1)))) (sSeq (sRet (eTup (aCons (eVar 2) (aCons (eVar 7) (aCons (eTup (aCons (eTup (aCons (eC (.int 3)) (aCons (eC (.int 2)) aNil))) (aCons (eC (.str "poly")) aNil))) aNil))))) sNil) sNil) (sSeq (sIf (tAnd_ (tB_ (eOp opEq (eVar 4) (eC (.str "rest")))) (tNot_ (tB_ (eChain opLt opLt (eC (.int 0)) (eVar 6) (eC (.int 61)))))) (sSeq (sRet (eTup (aCons (eVar 2) (aCons (eVar 7) (aCons (eTup (aCons (eTup (aCons (eC (.int 3)) (aCons (eC (.int 3)) aNil))) (aCons (eC (.str "number")) aNil))) aNil))))) sNil) sNil) (sSeq (sRet (eTup (aCons (eVar 2) (aCons (eVar 7) (aCons (eIf (tAnd_ (tB_ (eOp opEq (eVar 4) (eC (.str "rest")))) (tB_ (eOp opGe (eOp opIx (eVar 7) (eC (.int 2))) (eVar 6)))) (eTup (aCons (eTup (aCons (eC (.int 3)) (aCons (eC (.int 2)) aNil))) (aCons (eC (.str "number")) aNil))) (eC .non)) aNil))))) sNil))))))))))))))
def F__law_lot : FN := fnM 11 2 m__law_lot
def m__law_pipe : MS := (sSeq (sSet 2 (eOp opAdd (eOp opMul (eFrz (fB opSortD (aCons (eVar 1) aNil))) (eC (.int 3))) (eFrz (fLst (aCons (eC (.str "f")) (aCons (eC (.str "zz")) aNil)))))) (sSeq (sPar 10 11 (aCons (eCall F__law_of (aCons (eVar 0) (aCons (eVar 2) aNil))) (aCons (eCall F__law_of (aCons (eVar 0) (aCons (eVar 2) aNil))) aNil))) (sSeq (sSet 3 (eCall F__law_of (aCons (eVar 0) (aCons (eFrz (fLst (aCons (eC (.str "and")) (aCons (eC (.str "or")) (aCons (eC (.str "not")) (aCons (eC (.str "moved")) (aCons (eC (.str "at")) aNil))))))) aNil)))) (sSeq (sSet 4 (eB opTuple (aCons (eFrz (fComp (iRange1 (aCons (eOp opAdd (eC (.int 1)) (eCall F__law_pick (aCons (eVar 0) (aCons (eC (.int 3)) aNil)))) aNil)) (gNm 12) tYes_ (eCall F__law_pick (aCons (eVar 0) (aCons (eC (.int 5)) aNil))) [12])) aNil))) (sSeq (sSet 5 (eCall F__law_of (aCons (eVar 0) (aCons (eFrz (fLst (aCons (eC (.int 0)) (aCons (eC (.int 1)) (aCons (eUn opNeg (eC (.int 1))) (aCons (eC (.int 3)) (aCons (eC (.int 12)) aNil))))))) aNil)))) (sSeq (sSet 6 (eOwnK (kDisp [((eC (.str "and")), (eTup (aCons (eC (.str "and")) (aCons (eVar 10) (aCons (eVar 11) aNil))))), ((eC (.str "or")), (eTup (aCons (eC (.str "or")) (aCons (eVar 10) (aCons (eVar 11) aNil))))), ((eC (.str "not")), (eTup (aCons (eC (.str "not")) (aCons (eVar 10) aNil)))), ((eC (.str "moved")), (eTup (aCons (eC (.str "moved")) (aCons (eVar 10) (aCons (eVar 5) (aCons (eUn opNeg (eC (.int 2))) aNil))))))]))) (sSeq (sSet 7 (eGet2 (eVar 6) (eVar 3) (eTup (aCons (eC (.str "at")) (aCons (eVar 10) (aCons (eVar 4) aNil)))))) (sSeq (sIf (tB_ (eOp (opIn true) (eVar 10) (eVar 1))) (sSeq (sRet (eTup (aCons (eVar 7) (aCons (eTup (aCons (eTup (aCons (eC (.int 2)) (aCons (eC (.int 1)) aNil))) (aCons (eC (.str "lot")) aNil))) (aCons (eC .non) aNil))))) sNil) sNil) (sSeq (sSet 8 (eOp opIx (eVar 1) (eVar 10))) (sSeq (sIf (tAnd_ (tB_ (eOp (opIn false) (eVar 3) (eTup (aCons (eC (.str "and")) (aCons (eC (.str "or")) aNil))))) (tB_ (eOp (opIn true) (eVar 11) (eVar 1)))) (sSeq (sRet (eTup (aCons (eVar 7) (aCons (eTup (aCons (eTup (aCons (eC (.int 2)) (aCons (eC (.int 2)) aNil))) (aCons (eC (.str "lot")) aNil))) (aCons (eC .non) aNil))))) sNil) sNil) (sSeq (sIf (tAnd_ (tB_ (eOp (opIn false) (eVar 3) (eTup (aCons (eC (.str "and")) (aCons (eC (.str "or")) aNil))))) (tB_ (eOp opNe (eOp opIx (eVar 1) (eVar 11)) (eVar 8)))) (sSeq (sRet (eTup (aCons (eVar 7) (aCons (eTup (aCons (eTup (aCons (eC (.int 2)) (aCons (eC (.int 2)) aNil))) (aCons (eC (.str "prime")) aNil))) (aCons (eC .non) aNil))))) sNil) sNil) (sSeq (sIf (tAnd_ (tB_ (eOp opEq (eVar 3) (eC (.str "moved")))) (tB_ (eOp opEq (eVar 5) (eC (.int 0))))) (sSeq (sRet (eTup (aCons (eVar 7) (aCons (eTup (aCons (eTup (aCons (eC (.int 2)) (aCons (eC (.int 2)) aNil))) (aCons (eC (.str "number")) aNil))) (aCons (eC .non) aNil))))) sNil) sNil) (sSeq (sSet 9 (eFrz (fComp (iEnumM (aCons (eVar 4) aNil)) (gSq 2 (gCons_ (gNm 13) (gCons_ (gNm 14) gNil_))) (tB_ (eOp opGe (eVar 14) (eVar 8))) (eVar 13) [13, 14]))) (sSeq (sRet (eTup (aCons (eVar 7) (aCons (eIf (tAnd_ (tB_ (eOp opEq (eVar 3) (eC (.str "at")))) (tB_ (eOp opNe (eVar 9) (eFrz (fLst aNil))))) (eTup (aCons (eTup (aCons (eC (.int 2)) (aCons (eC (.int 2)) (aCons (eOp opIx (eVar 9) (eC (.int 0))) aNil)))) (aCons (eC (.str "digit")) aNil))) (eC .non)) (aCons (eVar 8) aNil))))) sNil))))))))))))))
def F__law_pipe : FN := fnM 15 2 m__law_pipe
def m__law_mixed : MS := (sSeq (sSet 2 (eOwn (fB opList (aCons (eVar 1) aNil)))) (sSeq (sRet (eFrz (fComp (iRange1 (aCons (eB opLen (aCons (eVar 2) aNil)) aNil)) (gNm 3) tYes_ (eMt "list" opPopAt (eVar 2) (aCons (eCall F__law_pick (aCons (eVar 0) (aCons (eB opLen (aCons (eVar 2) aNil)) aNil))) aNil)) [3]))) sNil))
def F__law_mixed : FN := fnM 4 2 m__law_mixed
def m__law_terms : MS := (sSeq (sSet 2 (eFrz (fComp (iRange1 (aCons (eOp opAdd (eC (.int 1)) (eCall F__law_pick (aCons (eVar 0) (aCons (eC (.int 3)) aNil)))) aNil)) (gNm 5) tYes_ (eTup (aCons (eCall F__law_of (aCons (eVar 0) (aCons (eFrz (fLst (aCons (eC (.int 1)) (aCons (eUn opNeg (eC (.int 1))) (aCons (eC (.int 2)) (aCons (eC (.int 9)) (aCons (eUn opNeg (eC (.int 3))) aNil))))))) aNil))) (aCons (eCall F__law_pick (aCons (eVar 0) (aCons (eC (.int 4)) aNil))) aNil))) [5]))) (sSeq (sIf (tNot_ (tTr_ (eVar 1))) (sSeq (sRet (eB opTuple (aCons (eOp opAdd (eFrz (fComp (iSeq (eVar 2)) (gNm 8) (tB_ (eOp opLt (eOp opIx (eVar 8) (eC (.int 1))) (eC (.int 3)))) (eVar 8) [8])) (eFrz (fLst (aCons (eTup (aCons (eOp opAdd (eC (.int 1)) (eCall F__law_pick (aCons (eVar 0) (aCons (eC (.int 5)) aNil)))) (aCons (eC (.int 3)) aNil))) aNil)))) aNil))) sNil) sNil) (sSeq (sSet 3 (eFrz (fComp (iSeq (eVar 2)) (gSq 2 (gCons_ (gNm 6) (gCons_ (gNm 7) gNil_))) tYes_ (eTup (aCons (eOp opSub (eC (.int 0)) (eVar 6)) (aCons (eVar 7) aNil))) [6, 7]))) (sSeq (sSet 4 (eFrz (fLst (aCons (eFrz (fLst (aCons (eTup (aCons (eC (.int 0)) (aCons (eC (.int 2)) aNil))) aNil))) (aCons (eOp opAdd (eVar 2) (eVar 3)) (aCons (eCall F__law_mixed (aCons (eVar 0) (aCons (eOp opAdd (eVar 2) (eVar 3)) aNil))) aNil)))))) (sSeq (sRet (eB opTuple (aCons (eCall F__law_of (aCons (eVar 0) (aCons (eVar 4) aNil))) aNil))) sNil)))))
def F__law_terms : FN := fnM 9 2 m__law_terms
def m__law_poly : MS := (sSeq (sPar 2 3 (aCons (eOwn (fLst aNil)) (aCons (eC .non) aNil))) (sSeq (sFor (iRange1 (aCons (eCall F__law_of (aCons (eVar 0) (aCons (eFrz (fLst (aCons (eC (.int 1)) (aCons (eC (.int 1)) (aCons (eC (.int 2)) (aCons (eC (.int 3)) aNil)))))) aNil))) aNil)) (gNm 1) (sSeq (sPar 4 5 (aCons (eOp opEq (eCall F__law_pick (aCons (eVar 0) (aCons (eC (.int 6)) aNil))) (eC (.int 0))) (aCons (eCall F__law_of (aCons (eVar 0) (aCons (eFrz (fLst (aCons (eC (.int 1)) (aCons (eC (.int 2)) (aCons (eC (.int 7)) (aCons (eC (.int 1)) (aCons (eC (.int 12)) (aCons (eC (.int 0)) aNil)))))))) aNil))) aNil))) (sSeq (sExpr (eMt "list" opAppend (eVar 2) (aCons (eTup (aCons (eCall F__law_terms (aCons (eVar 0) (aCons (eVar 4) aNil))) (aCons (eVar 5) aNil))) aNil))) (sSeq (sIf (tAnd_ (tB_ (eOp (opIs false) (eVar 3) (eC .non))) (tTr_ (eVar 4))) (sSeq (sSet 3 (eTup (aCons (eTup (aCons (eC (.int 2)) (aCons (eVar 1) (aCons (eC (.int 0)) aNil)))) (aCons (eC (.str "poly")) aNil)))) sNil) sNil) (sSeq (sIf (tAnd_ (tB_ (eOp (opIs false) (eVar 3) (eC .non))) (tB_ (eOp opEq (eVar 5) (eC (.int 0))))) (sSeq (sSet 3 (eTup (aCons (eTup (aCons (eC (.int 2)) (aCons (eVar 1) (aCons (eC (.int 1)) aNil)))) (aCons (eC (.str "number")) aNil)))) sNil) sNil) sNil))))) (sSeq (sGive 2 (sRet (eTup (aCons (eB opTuple (aCons (eVar 2) aNil)) (aCons (eVar 3) aNil))))) sNil)))
def F__law_poly : FN := fnM 6 1 m__law_poly
def m__law_source : MS := (sSeq (sSet 1 (eC (.int 11))) (sSeq (sFor (iSeq (eVar 0)) (gNm 2) (sSeq (sSet 1 (eOp opMod (eB opInt (aCons (eOp opAdd (eOp opAdd (eOp opMul (eVar 1) (eC (.int 69069))) (eOp opMul (eVar 2) (eC (.int 31)))) (eC (.int 5))) aNil)) (eC (.int 2147483629)))) sNil)) (sSeq (sRet (eLocK (kDisp [((eC (.str "cells")), (eLoc (fRev (eFrz (fComp (iSeq (eVar 0)) (gNm 2) tYes_ (eB opAbs (aCons (eVar 2) aNil)) [2]))))), ((eC (.str "left")), (eC (.int 1))), ((eC (.str "mixed")), (eVar 1)), ((eC (.str "turn")), (eC (.int 0)))]))) sNil)))
def F__law_source : FN := fnM 3 1 m__law_source
def m_made_kinds : MS := (sSeq (sSet 2 (eLocK kNew)) (sSeq (sFor (iSeq (eSlA (eVar 0) oNone (oSome (eVar 1)))) (gNm 3) (sSeq (sIf (tB_ (eOp opEq (eOp opIx (eVar 3) (eC (.int 0))) (eC g_LOT))) (sSeq (sAsg (gSub_ (eVar 2) (eOp opIx (eVar 3) (eC (.int 1)))) (eTup (aCons (eC g_LOT) (aCons (eOp opIx (eVar 3) (eC (.int 2))) aNil)))) sNil) sNil) (sSeq (sIf (tB_ (eOp opEq (eOp opIx (eVar 3) (eC (.int 0))) (eC g_PIPE))) (sSeq (sAsg (gSub_ (eVar 2) (eOp opIx (eVar 3) (eC (.int 1)))) (eTup (aCons (eC g_PIPE) (aCons (eOp opIx (eOp opIx (eVar 2) (eOp opIx (eOp opIx (eVar 3) (eC (.int 2))) (eC (.int 1)))) (eC (.int 1))) aNil)))) sNil) sNil) (sSeq (sIf (tB_ (eOp opEq (eOp opIx (eVar 3) (eC (.int 0))) (eC g_GROW))) (sSeq (sAsg (gSub_ (eVar 2) (eOp opIx (eVar 3) (eC (.int 1)))) (eTup (aCons (eC g_GROW) (aCons (eOp opIx (eOp opIx (eVar 2) (eOp opIx (eVar 3) (eC (.int 2)))) (eC (.int 1))) aNil)))) sNil) sNil) sNil)))) (sSeq (sRet (eVar 2)) sNil)))
def F_made_kinds : FN := fnM 4 2 m_made_kinds
def m_things_ahead : MS := (sSeq (sRet (eLocK (kB opDictP (aCons (eFrz (fComp (iSeq (eSlA (eVar 0) oNone (oSome (eVar 1)))) (gNm 3) (tB_ (eOp (opIn false) (eOp opIx (eVar 3) (eC (.int 0))) (eVar 2))) (eTup (aCons (eOp opIx (eVar 3) (eC (.int 1))) (aCons (eVar 3) aNil))) [3])) aNil)))) sNil)
def F_things_ahead : FN := fnM 4 3 m_things_ahead
def m_told_items : MS := (sSeq (sRet (eCall F_things_ahead (aCons (eVar 0) (aCons (eVar 1) (aCons (eTup (aCons (eC g_LOT) (aCons (eC g_PIPE) aNil))) aNil))))) sNil)
def F_told_items : FN := fnM 2 2 m_told_items
def m_told_polys : MS := (sSeq (sRet (eCall F_things_ahead (aCons (eVar 0) (aCons (eVar 1) (aCons (eTup (aCons (eC (.str "poly")) aNil)) aNil))))) sNil)
def F_told_polys : FN := fnM 2 2 m_told_polys
def m_Ahead_init : MS := (sSeq (sAsg (gSq 2 (gCons_ (gFldM "Ahead" "kinds" (eVar 0)) (gCons_ (gFldM "Ahead" "polys" (eVar 0)) gNil_))) (eTup (aCons (eCall F_made_kinds (aCons (eVar 1) (aCons (eVar 2) aNil))) (aCons (eCall F_told_polys (aCons (eVar 1) (aCons (eVar 2) aNil))) aNil)))) (sSeq (sFldM "Ahead" "promises" (eVar 0) (eCall F_things_ahead (aCons (eVar 1) (aCons (eVar 2) (aCons (eTup (aCons (eC (.str "promise")) aNil)) aNil))))) sNil))
def F_Ahead_init : FN := fnM 3 3 m_Ahead_init
def m_Ahead_is_named : MS := (sSeq (sIf (tB_ (eOp opEq (eVar 1) (eC g_POLY))) (sSeq (sRet (eOp (opIn false) (eVar 2) (eFld "Ahead" "polys" (eVar 0)))) sNil) sNil) (sSeq (sIf (tB_ (eOp opEq (eVar 1) (eC g_PROMISE))) (sSeq (sRet (eOp (opIn false) (eVar 2) (eFld "Ahead" "promises" (eVar 0)))) sNil) sNil) (sSeq (sRet (eAnd (eOp (opIn false) (eVar 2) (eFld "Ahead" "kinds" (eVar 0))) (eOp (opIn false) (eOp opIx (eOp opIx (eFld "Ahead" "kinds" (eVar 0)) (eVar 2)) (eC (.int 0))) (eOp opIx (eC g_KINDS) (eVar 1))))) sNil)))
def F_Ahead_is_named : FN := fnM 3 3 m_Ahead_is_named
def m_named_fault : MS := (sSeq (sIf (tNot_ (tTr_ (eMth "Ahead" "is_named" F_Ahead_is_named (eVar 0) (aCons (eVar 2) (aCons (eVar 1) aNil))))) (sSeq (sRet (eTup (aCons (eTup aNil) (aCons (eVar 2) aNil)))) sNil) sNil) (sSeq (sSet 4 (eAnd (eOp opEq (eVar 2) (eC g_LOT)) (eAnd (eOp (opIs true) (eVar 3) (eC .non)) (eOp opNe (eOp opIx (eOp opIx (eFld "Ahead" "kinds" (eVar 0)) (eVar 1)) (eC (.int 1))) (eVar 3))))) (sSeq (sRet (eIf (tTr_ (eVar 4)) (eTup (aCons (eTup aNil) (aCons (eC g_PRIME) aNil))) (eC .non))) sNil)))
def F_named_fault : FN := fnM 5 4 m_named_fault
def m_member_fault : MS := (sSeq (sIf (tB_ (eOp opEq (eVar 2) (eC g_ANY))) (sSeq (sRet (eC .non)) sNil) sNil) (sSeq (sIf (tB_ (eOp opEq (eVar 2) (eC g_PRIME))) (sSeq (sRet (eIf (tB_ (eOp (opIn true) (eVar 1) (eC g_PRIMES))) (eTup (aCons (eTup aNil) (aCons (eC g_PRIME) aNil))) (eC .non))) sNil) sNil) (sSeq (sIf (tB_ (eOp opEq (eVar 2) (eC g_NUMBER))) (sSeq (sRet (eIf (tB_ (eOp opEq (eVar 1) (eC (.int 0)))) (eTup (aCons (eTup aNil) (aCons (eC g_NUMBER) aNil))) (eC .non))) sNil) sNil) (sSeq (sIf (tB_ (eOp opEq (eVar 2) (eC g_DIGIT))) (sSeq (sRet (eIf (tB_ (eOp opGe (eVar 1) (eVar 3))) (eTup (aCons (eTup aNil) (aCons (eC g_DIGIT) aNil))) (eC .non))) sNil) sNil) (sSeq (sIf (tB_ (eOp opEq (eVar 2) (eC (.str "digits")))) (sSeq (sSet 4 (eFrz (fComp (iEnumM (aCons (eVar 1) aNil)) (gSq 2 (gCons_ (gNm 5) (gCons_ (gNm 6) gNil_))) (tB_ (eOp opGe (eVar 6) (eVar 3))) (eVar 5) [5, 6]))) (sSeq (sRet (eIf (tB_ (eOp opNe (eVar 4) (eFrz (fLst aNil)))) (eTup (aCons (eTup (aCons (eOp opIx (eVar 4) (eC (.int 0))) aNil)) (aCons (eC g_DIGIT) aNil))) (eC .non))) sNil)) sNil) (sSeq (sRet (eCall F_named_fault (aCons (eVar 0) (aCons (eVar 1) (aCons (eVar 2) (aCons (eVar 3) aNil)))))) sNil))))))
def F_member_fault : FN := fnM 7 4 m_member_fault
def m_lacking : MS := (sSeq (sSet 3 (eC .non)) (sSeq (sFor (iEnumM (aCons (eVar 2) aNil)) (gSq 2 (gCons_ (gNm 4) (gCons_ (gNm 5) gNil_))) (sSeq (sSet 6 (eCall F_member_fault (aCons (eVar 0) (aCons (eOp opIx (eVar 1) (eVar 4)) (aCons (eVar 5) (aCons (eVar 3) aNil)))))) (sSeq (sIf (tB_ (eOp (opIs true) (eVar 6) (eC .non))) (sSeq (sRet (eTup (aCons (eTup (aCons (eOp opAdd (eVar 4) (eC (.int 1))) (aStar (eOp opIx (eVar 6) (eC (.int 0))) aNil))) (aCons (eOp opIx (eVar 6) (eC (.int 1))) aNil)))) sNil) sNil) (sSeq (sSet 3 (eIf (tB_ (eOp (opIn false) (eVar 5) (eTup (aCons (eC g_LOT) (aCons (eC g_GROWN) aNil))))) (eOp opIx (eOp opIx (eFld "Ahead" "kinds" (eVar 0)) (eOp opIx (eVar 1) (eVar 4))) (eC (.int 1))) (eVar 3))) sNil)))) (sSeq (sRet (eC .non)) sNil)))
def F_lacking : FN := fnM 7 3 m_lacking
def m_sort_of : MS := (sSeq (sSet 1 (eFrz (fComp (iItemsG (eC g_SORTS)) (gSq 2 (gCons_ (gNm 2) (gCons_ (gNm 3) gNil_))) (tB_ (eOp (opIn false) (eVar 0) (eVar 3))) (eVar 2) [2, 3]))) (sSeq (sRet (eIf (tB_ (eOp opNe (eVar 1) (eFrz (fLst aNil)))) (eOp opIx (eVar 1) (eC (.int 0))) (eC .non))) sNil))
def F_sort_of : FN := fnM 4 1 m_sort_of
def m_wrong_lot : MS := (sSeq (sIf (tB_ (eOp (opIn true) (eOp opIx (eVar 1) (eC (.int 2))) (eC g_PRIMES))) (sSeq (sRet (eTup (aCons (eTup (aCons (eC (.int 2)) aNil)) (aCons (eC g_PRIME) aNil)))) sNil) sNil) (sSeq (sSet 2 (eOp opIx (eVar 1) (eC (.int 3)))) (sSeq (sSet 3 (eCall F_lacking (aCons (eVar 0) (aCons (eSlA (eVar 2) (oSome (eC (.int 1))) oNone) (aCons (eOp opIx (eC g_LOTS) (eOp opIx (eVar 2) (eC (.int 0)))) aNil))))) (sSeq (sIf (tB_ (eOp (opIs true) (eVar 3) (eC .non))) (sSeq (sRet (eTup (aCons (eTup (aCons (eC (.int 3)) (aStar (eOp opIx (eVar 3) (eC (.int 0))) aNil))) (aCons (eOp opIx (eVar 3) (eC (.int 1))) aNil)))) sNil) sNil) (sSeq (sIf (tAnd_ (tB_ (eOp opEq (eOp opIx (eVar 2) (eC (.int 0))) (eC (.str "rest")))) (tNot_ (tB_ (eChain opLt opLe (eC (.int 0)) (eOp opIx (eVar 2) (eC (.int 3))) (eC g_MOST_OF))))) (sSeq (sRet (eTup (aCons (eTup (aCons (eC (.int 3)) (aCons (eC (.int 3)) aNil))) (aCons (eC g_NUMBER) aNil)))) sNil) sNil) (sSeq (sRet (eIf (tAnd_ (tB_ (eOp opEq (eOp opIx (eVar 2) (eC (.int 0))) (eC (.str "rest")))) (tB_ (eOp opGe (eOp opIx (eVar 2) (eC (.int 2))) (eOp opIx (eVar 2) (eC (.int 3)))))) (eTup (aCons (eTup (aCons (eC (.int 3)) (aCons (eC (.int 2)) aNil))) (aCons (eC g_NUMBER) aNil))) (eC .non))) sNil))))))
def F_wrong_lot : FN := fnM 4 2 m_wrong_lot
def m_numbers_of : MS := (sSeq (sSet 1 (eOwn (fRep (eFrz (fLst (aCons (eC (.int 0)) aNil))) (eOp opAdd (eC g_MOST_POWER) (eC (.int 1)))))) (sSeq (sFor (iSeq (eVar 0)) (gSq 2 (gCons_ (gNm 2) (gCons_ (gNm 3) gNil_))) (sSeq (sAugS (eVar 1) (eVar 3) opAddI (eVar 2)) sNil)) (sSeq (sWhile (tAnd_ (tB_ (eOp opNe (eVar 1) (eFrz (fLst aNil)))) (tB_ (eOp opEq (eOp opIx (eVar 1) (eUn opNeg (eC (.int 1)))) (eC (.int 0))))) (sSeq (sExpr (eMt "list" opPop (eVar 1) aNil)) sNil)) (sSeq (sGive 1 (sRet (eB opTuple (aCons (eVar 1) aNil)))) sNil))))
def F_numbers_of : FN := fnM 4 1 m_numbers_of
def m_wrong_poly : MS := (sSeq (sFor (iEnumM (aCons (eOp opIx (eVar 0) (eC (.int 2))) aNil)) (gSq 2 (gCons_ (gNm 1) (gCons_ (gSq 2 (gCons_ (gNm 2) (gCons_ (gNm 3) gNil_))) gNil_))) (sSeq (sIf (tB_ (eOp opEq (eCallP F_numbers_of (aCons (eVar 2) aNil)) (eTup aNil))) (sSeq (sRet (eTup (aCons (eTup (aCons (eC (.int 2)) (aCons (eVar 1) (aCons (eC (.int 0)) aNil)))) (aCons (eC g_POLY) aNil)))) sNil) sNil) (sSeq (sIf (tB_ (eOp opEq (eVar 3) (eC (.int 0)))) (sSeq (sRet (eTup (aCons (eTup (aCons (eC (.int 2)) (aCons (eVar 1) (aCons (eC (.int 1)) aNil)))) (aCons (eC g_NUMBER) aNil)))) sNil) sNil) sNil))) (sSeq (sRet (eC .non)) sNil))
def F_wrong_poly : FN := fnM 4 1 m_wrong_poly
def m_wrong_making : MS := (sSeq (sIf (tB_ (eOp opEq (eOp opIx (eVar 1) (eC (.int 0))) (eC g_POLY))) (sSeq (sRet (eCallP F_wrong_poly (aCons (eVar 1) aNil))) sNil) sNil) (sSeq (sIf (tB_ (eOp opEq (eOp opIx (eVar 1) (eC (.int 0))) (eC g_LOT))) (sSeq (sRet (eCall F_wrong_lot (aCons (eVar 0) (aCons (eVar 1) aNil)))) sNil) sNil) (sSeq (sIf (tB_ (eOp opEq (eOp opIx (eVar 1) (eC (.int 0))) (eC g_GROW))) (sSeq (sRet (eIf (tTr_ (eMth "Ahead" "is_named" F_Ahead_is_named (eVar 0) (aCons (eC g_LOT) (aCons (eOp opIx (eVar 1) (eC (.int 2))) aNil)))) (eC .non) (eTup (aCons (eTup (aCons (eC (.int 2)) aNil)) (aCons (eC g_LOT) aNil))))) sNil) sNil) (sSeq (sSet 2 (eIf (tB_ (eOp opEq (eOp opIx (eVar 1) (eC (.int 0))) (eC (.str "pipe")))) (eOp opIx (eC g_PIPES) (eOp opIx (eOp opIx (eVar 1) (eC (.int 2))) (eC (.int 0)))) (eOp opIx (eC g_PROMISES) (eOp opIx (eOp opIx (eVar 1) (eC (.int 2))) (eC (.int 0)))))) (sSeq (sSet 3 (eCall F_lacking (aCons (eVar 0) (aCons (eSlA (eOp opIx (eVar 1) (eC (.int 2))) (oSome (eC (.int 1))) oNone) (aCons (eVar 2) aNil))))) (sSeq (sRet (eIf (tB_ (eOp (opIs true) (eVar 3) (eC .non))) (eTup (aCons (eTup (aCons (eC (.int 2)) (aStar (eOp opIx (eVar 3) (eC (.int 0))) aNil))) (aCons (eOp opIx (eVar 3) (eC (.int 1))) aNil))) (eC .non))) sNil))))))
def F_wrong_making : FN := fnM 4 2 m_wrong_making
def m_wrong_use : MS := (sSeq (sPar 3 4 (aCons (eOp opIx (eVar 0) (eVar 1)) (aCons (eMake "Ahead" F_Ahead_init (aCons (eVar 0) (aCons (eVar 1) aNil))) aNil))) (sSeq (sSet 2 (eCallP F_sort_of (aCons (eOp opIx (eVar 3) (eC (.int 0))) aNil))) (sSeq (sIf (tB_ (eOp (opIs false) (eVar 2) (eC .non))) (sSeq (sRet (eCall F_lacking (aCons (eVar 4) (aCons (eSlA (eVar 3) (oSome (eC (.int 1))) oNone) (aCons (eOp opIx (eC g_ASKS) (eOp opIx (eVar 3) (eC (.int 0)))) aNil))))) sNil) sNil) (sSeq (sIf (tB_ (eOp (opIn false) (eOp opIx (eVar 3) (eC (.int 1))) (eCall F_things_ahead (aCons (eVar 0) (aCons (eVar 1) (aCons (eOp opIx (eC g_SORTS) (eVar 2)) aNil)))))) (sSeq (sRet (eTup (aCons (eTup (aCons (eC (.int 1)) aNil)) (aCons (eC (.str "twice")) aNil)))) sNil) sNil) (sSeq (sRet (eCall F_wrong_making (aCons (eVar 4) (aCons (eVar 3) aNil)))) sNil)))))
def F_wrong_use : FN := fnM 5 2 m_wrong_use
def m_wrong_item : MS := (sSeq (sFor (iRange1 (aCons (eB opLen (aCons (eVar 0) aNil)) aNil)) (gNm 1) (sSeq (sSet 2 (eCallP F_wrong_use (aCons (eVar 0) (aCons (eVar 1) aNil)))) (sSeq (sIf (tB_ (eOp (opIs true) (eVar 2) (eC .non))) (sSeq (sRet (eTup (aCons (eVar 1) (aCons (eOp opIx (eVar 2) (eC (.int 0))) (aCons (eOp opIx (eVar 2) (eC (.int 1))) aNil))))) sNil) sNil) sNil))) (sSeq (sRet (eC .non)) sNil))
def F_wrong_item : FN := fnM 3 1 m_wrong_item
def m_law : MS := (sSeq (sSet 1 (eCall F__law_source (aCons (eVar 0) aNil))) (sSeq (sFor (iRange1 (aCons (eC (.int 4)) aNil)) (gNm 2) (sSeq (sSet 3 (eOwn (fLst (aCons (eTup (aCons (eC (.str "poly")) (aCons (eC (.str "f")) (aCons (eTup (aCons (eTup (aCons (eTup (aCons (eTup (aCons (eC (.int 1)) (aCons (eC (.int 1)) aNil))) aNil)) (aCons (eC (.int 1)) aNil))) aNil)) aNil)))) (aCons (eTup (aCons (eC (.str "lot")) (aCons (eC (.str "w")) (aCons (eC (.int 3)) (aCons (eTup (aCons (eC (.str "least")) (aCons (eC (.str "f")) (aCons (eC (.int 1)) aNil)))) aNil))))) aNil))))) (sSeq (sExpr (eMt "list" opAppend (eVar 3) (aCons (eTup (aCons (eC (.str "lot")) (aCons (eC (.str "u")) (aCons (eC (.int 2)) (aCons (eTup (aCons (eC (.str "just")) (aCons (eC (.str "f")) (aCons (eC (.int 0)) aNil)))) aNil))))) aNil))) (sSeq (sAsg (gSq 3 (gCons_ (gNm 8) (gCons_ (gNm 9) (gCons_ (gNm 10) gNil_)))) (eTup (aCons (eLocK (kDisp [((eC (.str "f")), (eOp opIx (eVar 3) (eC (.int 0))))])) (aCons (eLocK (kDisp [((eC (.str "w")), (eC (.int 3))), ((eC (.str "u")), (eC (.int 2)))])) (aCons (eC .non) aNil))))) (sSeq (sFor (iRange2 (aCons (eC (.int 3)) (aCons (eC (.int 10)) aNil))) (gNm 4) (sSeq (sPar 14 11 (aCons (eCall F__law_pick (aCons (eVar 1) (aCons (eC (.int 3)) aNil))) (aCons (eOp opAdd (eCall F__law_of (aCons (eVar 1) (aCons (eFrz (fLst (aCons (eC (.str "n")) (aCons (eC (.str "n")) (aCons (eC (.str "n")) (aCons (eC (.str "n")) (aCons (eC (.str "w")) (aCons (eC (.str "f")) aNil)))))))) aNil))) (eB opStr (aCons (eVar 4) aNil))) aNil))) (sSeq (sSet 11 (eIf (tAnd_ (tB_ (eOp opNe (eOp opIx (eVar 11) (eC (.int 0))) (eC (.str "n")))) (tB_ (eOp opEq (eCall F__law_pick (aCons (eVar 1) (aCons (eC (.int 4)) aNil))) (eC (.int 0))))) (eSlA (eVar 11) oNone (oSome (eC (.int 1)))) (eVar 11))) (sSeq (sIf (tB_ (eOp opEq (eVar 14) (eC (.int 0)))) (sSeq (sAsg (gSq 2 (gCons_ (gNm 15) (gCons_ (gNm 16) gNil_))) (eCall F__law_poly (aCons (eVar 1) aNil))) (sSeq (sPar 17 16 (aCons (eTup (aCons (eC (.str "poly")) (aCons (eVar 11) (aCons (eVar 15) aNil)))) (aCons (eIf (tB_ (eOp (opIn false) (eVar 11) (eVar 8))) (eTup (aCons (eTup (aCons (eC (.int 1)) aNil)) (aCons (eC (.str "twice")) aNil))) (eVar 16)) aNil))) sNil)) (sSeq (sIf (tB_ (eOp opEq (eVar 14) (eC (.int 1)))) (sSeq (sAsg (gSq 3 (gCons_ (gNm 18) (gCons_ (gNm 6) (gCons_ (gNm 16) gNil_)))) (eCall F__law_lot (aCons (eVar 1) (aCons (eVar 8) aNil)))) (sSeq (sPar 17 16 (aCons (eTup (aCons (eC (.str "lot")) (aCons (eVar 11) (aCons (eVar 18) (aCons (eVar 6) aNil))))) (aCons (eIf (tB_ (eOp (opIn false) (eVar 11) (eVar 9))) (eTup (aCons (eTup (aCons (eC (.int 1)) aNil)) (aCons (eC (.str "twice")) aNil))) (eVar 16)) aNil))) sNil)) (sSeq (sAsg (gSq 3 (gCons_ (gNm 6) (gCons_ (gNm 16) (gCons_ (gNm 18) gNil_)))) (eCall F__law_pipe (aCons (eVar 1) (aCons (eVar 9) aNil)))) (sSeq (sPar 17 16 (aCons (eTup (aCons (eC (.str "pipe")) (aCons (eVar 11) (aCons (eVar 6) aNil)))) (aCons (eIf (tB_ (eOp (opIn false) (eVar 11) (eVar 9))) (eTup (aCons (eTup (aCons (eC (.int 1)) aNil)) (aCons (eC (.str "twice")) aNil))) (eVar 16)) aNil))) sNil))) sNil)) (sSeq (sExpr (eMt "list" opAppend (eVar 3) (aCons (eVar 17) aNil))) (sSeq (sIf (tB_ (eOp (opIs true) (eVar 16) (eC .non))) (sSeq (sSet 10 (eOp opAdd (eTup (aCons (eVar 4) aNil)) (eVar 16))) (sSeq sBrk sNil)) sNil) (sSeq (sIf (tB_ (eOp opEq (eVar 14) (eC (.int 0)))) (sSeq (sAsg (gSub_ (eVar 8) (eVar 11)) (eVar 17)) sNil) (sSeq (sAsg (gSub_ (eVar 9) (eVar 11)) (eVar 18)) sNil)) sNil))))))) (sSeq (sPar 12 13 (aCons (eB opTuple (aCons (eVar 3) aNil)) (aCons (eOp opSub (eB opLen (aCons (eVar 3) aNil)) (eB opInt (aCons (eOp (opIs true) (eVar 10) (eC .non)) aNil))) aNil))) (sSeq (sSet 5 (eIf (tB_ (eOp (opIs true) (eVar 10) (eC .non))) (eTup (aCons (eTup (aCons (eC (.str "first")) (aCons (eC (.str "w")) aNil))) (aCons (eTup (aCons (eC (.str "lot")) (aCons (eC (.str "w")) (aCons (eC (.int 4)) (aCons (eTup (aCons (eC (.str "least")) (aCons (eC (.str "zz")) (aCons (eC (.int 0)) aNil)))) aNil))))) (aCons (eTup (aCons (eC (.str "empty")) (aCons (eC (.str "u")) aNil))) aNil)))) (eTup aNil))) (sSeq (sIf (tB_ (eOp opNe (eB opRepr (aCons (eCallP F_wrong_item (aCons (eOp opAdd (eVar 12) (eVar 5)) aNil)) aNil)) (eB opRepr (aCons (eVar 10) aNil)))) (sSeq (sRet (eC (.bl false))) sNil) sNil) (sSeq (sIf (tB_ (eOp opNe (eB opRepr (aCons (eFrz (fItems (eCall F_told_polys (aCons (eVar 12) (aCons (eVar 13) aNil))))) aNil)) (eB opRepr (aCons (eFrz (fItems (eVar 8))) aNil)))) (sSeq (sRet (eC (.bl false))) sNil) sNil) (sSeq (sSet 6 (eCall F_told_items (aCons (eVar 12) (aCons (eVar 13) aNil)))) (sSeq (sIf (tB_ (eOp opNe (eFrz (fB opList (aCons (eVar 6) aNil))) (eFrz (fB opList (aCons (eVar 9) aNil))))) (sSeq (sRet (eC (.bl false))) sNil) sNil) (sSeq (withLk 9 (sSet 7 (eFrz (fComp (iKeysL (eVar 9)) (gNm 11) tYes_ (eTup (aCons (eVar 11) (aCons (eTup (aCons (eIf (tB_ (eOp opEq (eOp opIx (eOp opIx (eVar 6) (eVar 11)) (eC (.int 0))) (eC (.str "pipe")))) (eC (.str "pipe")) (eC (.str "lot"))) (aCons (eOp opIx (eVar 9) (eVar 11)) aNil))) aNil))) [11])))) (sSeq (sIf (tB_ (eOp opNe (eB opRepr (aCons (eFrz (fItems (eCall F_made_kinds (aCons (eVar 12) (aCons (eVar 13) aNil))))) aNil)) (eB opRepr (aCons (eVar 7) aNil)))) (sSeq (sRet (eC (.bl false))) sNil) sNil) sNil))))))))))))) (sSeq (sRet (eC (.bl true))) sNil)))
def F_law : FN := fnM 19 1 m_law
end Lk04

set_option Elab.async false
set_option linter.all false
set_option maxRecDepth 100000
set_option maxHeartbeats 0
/-! law_k04_wrong_polynomials_and_lots: its defs do as their mirrors (printed by gen.py). -/
namespace Lk04
open PySem PySem.Spec PyProof.Rows L2 DP
def top (i : Nat) : Stmt := PySem.Challenge.pw_allpowers_k04_wrong_polynomials_and_lots.main.body.getD i (.Pass ⟨0, 0, 0, 0⟩)
def clsBody : Stmt → List Stmt
  | .ClassDef (body := b) .. => b
  | _ => []
def inCls (i j : Nat) : Stmt := (clsBody (top i)).getD j (.Pass ⟨0, 0, 0, 0⟩)
abbrev s__law_pick : Stmt := top 39
def d__law_pick : He.DefD := ⟨("_law_pick", none), "_law_pick", "_law_pick", defArgs s__law_pick, defBody s__law_pick, defScope s__law_pick, [], []⟩
abbrev s__law_of : Stmt := top 40
def d__law_of : He.DefD := ⟨("_law_of", none), "_law_of", "_law_of", defArgs s__law_of, defBody s__law_of, defScope s__law_of, [], []⟩
abbrev s__law_lot : Stmt := top 44
def d__law_lot : He.DefD := ⟨("_law_lot", none), "_law_lot", "_law_lot", defArgs s__law_lot, defBody s__law_lot, defScope s__law_lot, [], []⟩
abbrev s__law_pipe : Stmt := top 45
def d__law_pipe : He.DefD := ⟨("_law_pipe", none), "_law_pipe", "_law_pipe", defArgs s__law_pipe, defBody s__law_pipe, defScope s__law_pipe, [], []⟩
abbrev s__law_mixed : Stmt := top 41
def d__law_mixed : He.DefD := ⟨("_law_mixed", none), "_law_mixed", "_law_mixed", defArgs s__law_mixed, defBody s__law_mixed, defScope s__law_mixed, [], []⟩
abbrev s__law_terms : Stmt := top 42
def d__law_terms : He.DefD := ⟨("_law_terms", none), "_law_terms", "_law_terms", defArgs s__law_terms, defBody s__law_terms, defScope s__law_terms, [], []⟩
abbrev s__law_poly : Stmt := top 43
def d__law_poly : He.DefD := ⟨("_law_poly", none), "_law_poly", "_law_poly", defArgs s__law_poly, defBody s__law_poly, defScope s__law_poly, [], []⟩
abbrev s__law_source : Stmt := top 38
def d__law_source : He.DefD := ⟨("_law_source", none), "_law_source", "_law_source", defArgs s__law_source, defBody s__law_source, defScope s__law_source, [], []⟩
abbrev s_made_kinds : Stmt := top 13
def d_made_kinds : He.DefD := ⟨("made_kinds", none), "made_kinds", "made_kinds", defArgs s_made_kinds, defBody s_made_kinds, defScope s_made_kinds, [], []⟩
abbrev s_things_ahead : Stmt := top 10
def d_things_ahead : He.DefD := ⟨("things_ahead", none), "things_ahead", "things_ahead", defArgs s_things_ahead, defBody s_things_ahead, defScope s_things_ahead, [], []⟩
abbrev s_told_items : Stmt := top 12
def d_told_items : He.DefD := ⟨("told_items", none), "told_items", "told_items", defArgs s_told_items, defBody s_told_items, defScope s_told_items, [], []⟩
abbrev s_told_polys : Stmt := top 11
def d_told_polys : He.DefD := ⟨("told_polys", none), "told_polys", "told_polys", defArgs s_told_polys, defBody s_told_polys, defScope s_told_polys, [], []⟩
abbrev s_Ahead_init : Stmt := inCls 28 0
def d_Ahead_init : He.DefD := ⟨("Ahead", some "__init__"), "__init__", "Ahead.__init__", defArgs s_Ahead_init, defBody s_Ahead_init, defScope s_Ahead_init, [], []⟩
abbrev s_Ahead_is_named : Stmt := inCls 28 1
def d_Ahead_is_named : He.DefD := ⟨("Ahead", some "is_named"), "is_named", "Ahead.is_named", defArgs s_Ahead_is_named, defBody s_Ahead_is_named, defScope s_Ahead_is_named, [], []⟩
abbrev s_named_fault : Stmt := top 29
def d_named_fault : He.DefD := ⟨("named_fault", none), "named_fault", "named_fault", defArgs s_named_fault, defBody s_named_fault, defScope s_named_fault, [], []⟩
abbrev s_member_fault : Stmt := top 30
def d_member_fault : He.DefD := ⟨("member_fault", none), "member_fault", "member_fault", defArgs s_member_fault, defBody s_member_fault, defScope s_member_fault, [], []⟩
abbrev s_lacking : Stmt := top 31
def d_lacking : He.DefD := ⟨("lacking", none), "lacking", "lacking", defArgs s_lacking, defBody s_lacking, defScope s_lacking, [], []⟩
abbrev s_sort_of : Stmt := top 9
def d_sort_of : He.DefD := ⟨("sort_of", none), "sort_of", "sort_of", defArgs s_sort_of, defBody s_sort_of, defScope s_sort_of, [], []⟩
abbrev s_wrong_lot : Stmt := top 33
def d_wrong_lot : He.DefD := ⟨("wrong_lot", none), "wrong_lot", "wrong_lot", defArgs s_wrong_lot, defBody s_wrong_lot, defScope s_wrong_lot, [], []⟩
abbrev s_numbers_of : Stmt := top 2
def d_numbers_of : He.DefD := ⟨("numbers_of", none), "numbers_of", "numbers_of", defArgs s_numbers_of, defBody s_numbers_of, defScope s_numbers_of, [], []⟩
abbrev s_wrong_poly : Stmt := top 32
def d_wrong_poly : He.DefD := ⟨("wrong_poly", none), "wrong_poly", "wrong_poly", defArgs s_wrong_poly, defBody s_wrong_poly, defScope s_wrong_poly, [], []⟩
abbrev s_wrong_making : Stmt := top 34
def d_wrong_making : He.DefD := ⟨("wrong_making", none), "wrong_making", "wrong_making", defArgs s_wrong_making, defBody s_wrong_making, defScope s_wrong_making, [], []⟩
abbrev s_wrong_use : Stmt := top 35
def d_wrong_use : He.DefD := ⟨("wrong_use", none), "wrong_use", "wrong_use", defArgs s_wrong_use, defBody s_wrong_use, defScope s_wrong_use, [], []⟩
abbrev s_wrong_item : Stmt := top 36
def d_wrong_item : He.DefD := ⟨("wrong_item", none), "wrong_item", "wrong_item", defArgs s_wrong_item, defBody s_wrong_item, defScope s_wrong_item, [], []⟩
abbrev s_law : Stmt := top 46
def d_law : He.DefD := ⟨("law", none), "law", "law", defArgs s_law, defBody s_law, defScope s_law, [], []⟩
def fn : List He.DefD := [d__law_pick, d__law_of, d__law_lot, d__law_pipe, d__law_mixed, d__law_terms, d__law_poly, d__law_source, d_made_kinds, d_things_ahead, d_told_items, d_told_polys, d_Ahead_init, d_Ahead_is_named, d_named_fault, d_member_fault, d_lacking, d_sort_of, d_wrong_lot, d_numbers_of, d_wrong_poly, d_wrong_making, d_wrong_use, d_wrong_item, d_law]
def fa : List He.Fa := [.glo "_law_pick", .glo "_law_of", .glo "_law_lot", .glo "_law_pipe", .glo "_law_mixed", .glo "_law_terms", .glo "_law_poly", .glo "_law_source", .glo "made_kinds", .glo "things_ahead", .glo "told_items", .glo "told_polys", .glo "named_fault", .glo "member_fault", .glo "lacking", .glo "sort_of", .glo "wrong_lot", .glo "numbers_of", .glo "wrong_poly", .glo "wrong_making", .glo "wrong_use", .glo "wrong_item", .glo "law", .free "abs", .free "dict", .free "enumerate", .free "int", .free "len", .free "list", .free "max", .free "range", .free "repr", .free "sorted", .free "str", .free "tuple", .glo "Ahead", .cls "Ahead", .mkr "Ahead", .meth "Ahead" "is_named", .noat "Ahead" "kinds", .noat "Ahead" "polys", .noat "Ahead" "promises"]
def ts : List He.Tab := [((fun K => He.ga K "SORTS"), ["poly", "made", "promise"]), ((fun K => He.ga K "ASKS"), ["has", "first", "size", "rule", "form", "empty", "whole", "again", "count", "meets", "same", "parts", "within", "kept", "order", "roots", "apart", "law", "turns", "digits", "zeros", "kin", "feed", "hears", "where", "back"]), ((fun K => He.ga K "PIPES"), ["and", "or", "not", "moved", "at"]), ((fun K => He.ga K "PROMISES"), ["as", "within", "empty", "whole", "kin", "turns"]), ((fun K => He.ga K "LOTS"), ["least", "just", "over", "rest", "nothing"]), ((fun K => He.ga K "KINDS"), ["lot", "grown"])]
def ck : List (PySem.W.Frag → Bool) := [chkG "MOST_POWER" g_MOST_POWER, chkK "SORTS" ["poly", "made", "promise"] [.tup [.str "poly"], .tup [.str "lot", .str "pipe", .str "grow"], .tup [.str "promise"]], chkG "LOT" g_LOT, chkG "PIPE" g_PIPE, chkG "GROW" g_GROW, chkG "PRIMES" g_PRIMES, chkG "POLY" g_POLY, chkG "PRIME" g_PRIME, chkG "GROWN" g_GROWN, chkG "PROMISE" g_PROMISE, chkG "NUMBER" g_NUMBER, chkG "DIGIT" g_DIGIT, chkG "ANY" g_ANY, chkG "MOST_OF" g_MOST_OF, chkK "ASKS" ["has", "first", "size", "rule", "form", "empty", "whole", "again", "count", "meets", "same", "parts", "within", "kept", "order", "roots", "apart", "law", "turns", "digits", "zeros", "kin", "feed", "hears", "where", "back"] [.tup [.str "lot", .str "any"], .tup [.str "lot"], .tup [.str "lot"], .tup [.str "lot"], .tup [.str "lot"], .tup [.str "lot"], .tup [.str "lot"], .tup [.str "lot"], .tup [.str "lot", .str "any"], .tup [.str "lot", .str "any"], .tup [.str "lot", .str "lot"], .tup [.str "lot", .str "lot"], .tup [.str "lot", .str "lot"], .tup [.str "promise"], .tup [.str "poly", .str "prime", .str "any"], .tup [.str "poly", .str "prime"], .tup [.str "poly", .str "prime"], .tup [.str "poly", .str "prime"], .tup [.str "poly", .str "prime"], .tup [.str "poly", .str "prime", .str "any", .str "any"], .tup [.str "poly", .str "prime", .str "any"], .tup [.str "poly", .str "poly", .str "prime"], .tup [.str "grown", .str "digit"], .tup [.str "grown"], .tup [.str "grown"], .tup [.str "grown"]], chkK "PIPES" ["and", "or", "not", "moved", "at"] [.tup [.str "lot", .str "lot"], .tup [.str "lot", .str "lot"], .tup [.str "lot"], .tup [.str "lot", .str "number", .str "any"], .tup [.str "lot", .str "digits"]], chkK "PROMISES" ["as", "within", "empty", "whole", "kin", "turns"] [.tup [.str "lot", .str "lot"], .tup [.str "lot", .str "lot"], .tup [.str "lot"], .tup [.str "lot"], .tup [.str "poly", .str "poly", .str "prime"], .tup [.str "poly", .str "prime"]], chkK "LOTS" ["least", "just", "over", "rest", "nothing"] [.tup [.str "poly", .str "any"], .tup [.str "poly", .str "any"], .tup [.str "poly", .str "poly", .str "any"], .tup [.str "poly", .str "any", .str "any"], .tup [.str "poly"]], chkK "KINDS" ["lot", "grown"] [.tup [.str "lot", .str "pipe"], .tup [.str "grow"]]]
structure Hy (K : PySem.W.Frag) (w : World) (mg : Str → Option Value) : Prop where
  c : SaysP fa fn ts ck w K
  g : ∃ h : Heap, K.In h ∧ h.Ns mainGlobals mg
section
variable {P : Program} {w : World} {K : PySem.W.Frag} {mg : Str → Option Value} {base : Heap}
theorem Hy.sys (y : Hy K w mg) : (K.lookup sysModules).isSome = true := y.c.sys
theorem Hy.f_abs (y : Hy K w mg) : mg "abs" = none := let ⟨_, X, G⟩ := y.g; He.free_ok X G (y.c.t.d.fact 23 (f := .free "abs") rfl)
theorem Hy.f_dict (y : Hy K w mg) : mg "dict" = none := let ⟨_, X, G⟩ := y.g; He.free_ok X G (y.c.t.d.fact 24 (f := .free "dict") rfl)
theorem Hy.f_enumerate (y : Hy K w mg) : mg "enumerate" = none := let ⟨_, X, G⟩ := y.g; He.free_ok X G (y.c.t.d.fact 25 (f := .free "enumerate") rfl)
theorem Hy.f_int (y : Hy K w mg) : mg "int" = none := let ⟨_, X, G⟩ := y.g; He.free_ok X G (y.c.t.d.fact 26 (f := .free "int") rfl)
theorem Hy.f_len (y : Hy K w mg) : mg "len" = none := let ⟨_, X, G⟩ := y.g; He.free_ok X G (y.c.t.d.fact 27 (f := .free "len") rfl)
theorem Hy.f_list (y : Hy K w mg) : mg "list" = none := let ⟨_, X, G⟩ := y.g; He.free_ok X G (y.c.t.d.fact 28 (f := .free "list") rfl)
theorem Hy.f_max (y : Hy K w mg) : mg "max" = none := let ⟨_, X, G⟩ := y.g; He.free_ok X G (y.c.t.d.fact 29 (f := .free "max") rfl)
theorem Hy.f_range (y : Hy K w mg) : mg "range" = none := let ⟨_, X, G⟩ := y.g; He.free_ok X G (y.c.t.d.fact 30 (f := .free "range") rfl)
theorem Hy.f_repr (y : Hy K w mg) : mg "repr" = none := let ⟨_, X, G⟩ := y.g; He.free_ok X G (y.c.t.d.fact 31 (f := .free "repr") rfl)
theorem Hy.f_sorted (y : Hy K w mg) : mg "sorted" = none := let ⟨_, X, G⟩ := y.g; He.free_ok X G (y.c.t.d.fact 32 (f := .free "sorted") rfl)
theorem Hy.f_str (y : Hy K w mg) : mg "str" = none := let ⟨_, X, G⟩ := y.g; He.free_ok X G (y.c.t.d.fact 33 (f := .free "str") rfl)
theorem Hy.f_tuple (y : Hy K w mg) : mg "tuple" = none := let ⟨_, X, G⟩ := y.g; He.free_ok X G (y.c.t.d.fact 34 (f := .free "tuple") rfl)
theorem Hy.g_MOST_POWER (y : Hy K w mg) : Glo ⟨K, w⟩ mg "MOST_POWER" g_MOST_POWER := let ⟨_, X, G⟩ := y.g; glo_chk (K := ⟨K, w⟩) X G (y.c.chk 0 rfl)
theorem Hy.g_SORTS (y : Hy K w mg) : Glo ⟨K, w⟩ mg "SORTS" g_SORTS := let ⟨_, X, G⟩ := y.g; glo_chkK (K := ⟨K, w⟩) X G (y.c.t.tab 0 rfl) (y.c.chk 1 rfl)
theorem Hy.g_LOT (y : Hy K w mg) : Glo ⟨K, w⟩ mg "LOT" g_LOT := let ⟨_, X, G⟩ := y.g; glo_chk (K := ⟨K, w⟩) X G (y.c.chk 2 rfl)
theorem Hy.g_PIPE (y : Hy K w mg) : Glo ⟨K, w⟩ mg "PIPE" g_PIPE := let ⟨_, X, G⟩ := y.g; glo_chk (K := ⟨K, w⟩) X G (y.c.chk 3 rfl)
theorem Hy.g_GROW (y : Hy K w mg) : Glo ⟨K, w⟩ mg "GROW" g_GROW := let ⟨_, X, G⟩ := y.g; glo_chk (K := ⟨K, w⟩) X G (y.c.chk 4 rfl)
theorem Hy.g_PRIMES (y : Hy K w mg) : Glo ⟨K, w⟩ mg "PRIMES" g_PRIMES := let ⟨_, X, G⟩ := y.g; glo_chk (K := ⟨K, w⟩) X G (y.c.chk 5 rfl)
theorem Hy.g_POLY (y : Hy K w mg) : Glo ⟨K, w⟩ mg "POLY" g_POLY := let ⟨_, X, G⟩ := y.g; glo_chk (K := ⟨K, w⟩) X G (y.c.chk 6 rfl)
theorem Hy.g_PRIME (y : Hy K w mg) : Glo ⟨K, w⟩ mg "PRIME" g_PRIME := let ⟨_, X, G⟩ := y.g; glo_chk (K := ⟨K, w⟩) X G (y.c.chk 7 rfl)
theorem Hy.g_GROWN (y : Hy K w mg) : Glo ⟨K, w⟩ mg "GROWN" g_GROWN := let ⟨_, X, G⟩ := y.g; glo_chk (K := ⟨K, w⟩) X G (y.c.chk 8 rfl)
theorem Hy.g_PROMISE (y : Hy K w mg) : Glo ⟨K, w⟩ mg "PROMISE" g_PROMISE := let ⟨_, X, G⟩ := y.g; glo_chk (K := ⟨K, w⟩) X G (y.c.chk 9 rfl)
theorem Hy.g_NUMBER (y : Hy K w mg) : Glo ⟨K, w⟩ mg "NUMBER" g_NUMBER := let ⟨_, X, G⟩ := y.g; glo_chk (K := ⟨K, w⟩) X G (y.c.chk 10 rfl)
theorem Hy.g_DIGIT (y : Hy K w mg) : Glo ⟨K, w⟩ mg "DIGIT" g_DIGIT := let ⟨_, X, G⟩ := y.g; glo_chk (K := ⟨K, w⟩) X G (y.c.chk 11 rfl)
theorem Hy.g_ANY (y : Hy K w mg) : Glo ⟨K, w⟩ mg "ANY" g_ANY := let ⟨_, X, G⟩ := y.g; glo_chk (K := ⟨K, w⟩) X G (y.c.chk 12 rfl)
theorem Hy.g_MOST_OF (y : Hy K w mg) : Glo ⟨K, w⟩ mg "MOST_OF" g_MOST_OF := let ⟨_, X, G⟩ := y.g; glo_chk (K := ⟨K, w⟩) X G (y.c.chk 13 rfl)
theorem Hy.g_ASKS (y : Hy K w mg) : Glo ⟨K, w⟩ mg "ASKS" g_ASKS := let ⟨_, X, G⟩ := y.g; glo_chkK (K := ⟨K, w⟩) X G (y.c.t.tab 1 rfl) (y.c.chk 14 rfl)
theorem Hy.g_PIPES (y : Hy K w mg) : Glo ⟨K, w⟩ mg "PIPES" g_PIPES := let ⟨_, X, G⟩ := y.g; glo_chkK (K := ⟨K, w⟩) X G (y.c.t.tab 2 rfl) (y.c.chk 15 rfl)
theorem Hy.g_PROMISES (y : Hy K w mg) : Glo ⟨K, w⟩ mg "PROMISES" g_PROMISES := let ⟨_, X, G⟩ := y.g; glo_chkK (K := ⟨K, w⟩) X G (y.c.t.tab 3 rfl) (y.c.chk 16 rfl)
theorem Hy.g_LOTS (y : Hy K w mg) : Glo ⟨K, w⟩ mg "LOTS" g_LOTS := let ⟨_, X, G⟩ := y.g; glo_chkK (K := ⟨K, w⟩) X G (y.c.t.tab 4 rfl) (y.c.chk 17 rfl)
theorem Hy.g_KINDS (y : Hy K w mg) : Glo ⟨K, w⟩ mg "KINDS" g_KINDS := let ⟨_, X, G⟩ := y.g; glo_chkK (K := ⟨K, w⟩) X G (y.c.t.tab 5 rfl) (y.c.chk 18 rfl)
theorem Hy.cls_Ahead (y : Hy K w mg) : Cls K (clsA ⟨K, w⟩ "Ahead") := He.cls_ok (y.c.t.d.fact 36 (f := .cls "Ahead") rfl)
theorem Hy.no_Ahead_kinds (y : Hy K w mg) : NoAttr K (clsA ⟨K, w⟩ "Ahead") "kinds" := He.noat_ok (y.c.t.d.fact 39 (f := .noat "Ahead" "kinds") rfl)
theorem Hy.no_Ahead_polys (y : Hy K w mg) : NoAttr K (clsA ⟨K, w⟩ "Ahead") "polys" := He.noat_ok (y.c.t.d.fact 40 (f := .noat "Ahead" "polys") rfl)
theorem Hy.no_Ahead_promises (y : Hy K w mg) : NoAttr K (clsA ⟨K, w⟩ "Ahead") "promises" := He.noat_ok (y.c.t.d.fact 41 (f := .noat "Ahead" "promises") rfl)
theorem sc__law_pick : FnScope ["source", "many", "left", "mixed"] ["source", "many"] (defScope s__law_pick) := ⟨rfl, rfl, rfl, by decide +kernel, rfl, by decide +kernel, by decide +kernel⟩
theorem w__law_pick (y : Hy K w mg) (cdv : Value) (f : Addr) (A : Around) (outer : List PySem.Env) (s : Shared) (H : Hp) (E : XK) (hr : RoomG 0 (A.deeper (envOfC "_law_pick" (defScope s__law_pick) s.heap.objs.size f cdv))) :
    PSs (cxOf CX0 P w K mg base ["source", "many", "left", "mixed"] "_law_pick" (defScope s__law_pick) f cdv A outer s H E).nox (defBody s__law_pick) (tSt ⟨K, w⟩ X0 m__law_pick) := by
  have S := sc__law_pick
  have hu64 : (A.deeper (envOfC "_law_pick" (defScope s__law_pick) s.heap.objs.size f cdv)).units + 64 < cLine := hr.rm.units
  have hu1 : (A.deeper (envOfC "_law_pick" (defScope s__law_pick) s.heap.objs.size f cdv)).units + 1 < cLine := by omega
  have hu66 : (A.deeper (envOfC "_law_pick" (defScope s__law_pick) s.heap.objs.size f cdv)).units + 66 < cLine := by have := hr.rm.un; omega
  exact (dss_cons (ds_while PassesOwn.never (PW.pt (dw_and (dt_cmp op_gt od_cmp (de_var 1) de_int) (dw_and (dt_cmp op_lt od_cmp (de_ix hu1 (de_var 0) de_str) de_int) (dw_one (.inl rfl) (dt_cmp op_gt od_cmp (de_cb call_lenA cd_len y.f_len boot_len (da_cons (de_ix hu1 (de_var 0) de_str) da_nil)) de_int))))) (dss_cons (ds_asg (vs := []) (de_mt0 F.plainAttrs_list F.slot_list_pop F.type_list_pop mt_pop md_pop (de_ix hu1 (de_var 0) de_str)) (dg_sub hu1 (de_var 0) de_str)) dss_nil)) (dss_cons (ds_set 2 S.nd (de_ix hu1 (de_var 0) de_str)) (dss_cons (ds_if (PW.pt (dw_or (dt_cmp op_lt od_cmp (de_var 1) de_int) (dw_one (.inr rfl) (dt_cmp op_gt od_cmp (de_var 2) de_int)))) (dss_cons (ds_asg (vs := []) (de_fdiv (de_var 2) (de_cb (call_max2 rfl) cd_max2 y.f_max boot_max (da_cons de_int (da_cons (de_var 1) da_nil)))) (dg_sub hu1 (de_var 0) de_str)) (dss_cons (ds_ret (de_mod (de_ct call_int1 cd_int y.f_int boot_int (da_cons (de_var 2) da_nil)) (de_cb (call_max2 rfl) cd_max2 y.f_max boot_max (da_cons de_int (da_cons (de_var 1) da_nil))))) dss_nil)) dss_nil) (dss_cons (ds_asg (vs := []) (de_add (de_ix hu1 (de_var 0) de_str) de_int) (dg_sub hu1 (de_var 0) de_str)) (dss_cons (ds_set 3 S.nd (de_mod (de_ct call_int1 cd_int y.f_int boot_int (da_cons (de_add (de_ix hu1 (de_var 0) de_str) (de_mul (de_ix hu1 (de_var 0) de_str) de_int)) da_nil)) de_int)) (dss_cons (ds_set 3 S.nd (de_mod (de_ct call_int1 cd_int y.f_int boot_int (da_cons (de_add (de_mul (de_var 3) (de_var 3)) (de_mul (de_ix hu1 (de_var 0) de_str) de_int)) da_nil)) de_int)) (dss_cons (ds_asg (vs := []) (de_var 3) (dg_sub hu1 (de_var 0) de_str)) (dss_cons (ds_ret (de_mod (de_ct call_int1 cd_int y.f_int boot_int (da_cons (de_fdiv (de_var 3) de_int) da_nil)) (de_var 1))) dss_nil))))))))
theorem ok__law_pick (y : Hy K w mg) : DOk P w K mg base 1 "_law_pick" ["source", "many"] F__law_pick := by
  obtain ⟨h, X, G⟩ := y.g
  obtain ⟨fd, FD⟩ := y.c.t.d.def_ 0 (d := d__law_pick) rfl
  exact ⟨⟨_, fd, fnG_M FD sc__law_pick fun cdv A outer s H E hr => w__law_pick y cdv _ A outer s H E hr, FD.bindsN fun _ _ _ _ _ _ us hl => match us, hl with | [_, _], _ => rfl, FD.kp, He.glo_ok X G (y.c.t.d.fact 0 (f := .glo "_law_pick") rfl)⟩⟩
theorem sc__law_of : FnScope ["source", "some"] ["source", "some"] (defScope s__law_of) := ⟨rfl, rfl, rfl, by decide +kernel, rfl, by decide +kernel, by decide +kernel⟩
theorem w__law_of (y : Hy K w mg) (cdv : Value) (f : Addr) (A : Around) (outer : List PySem.Env) (s : Shared) (H : Hp) (E : XK) (hr : RoomG 1 (A.deeper (envOfC "_law_of" (defScope s__law_of) s.heap.objs.size f cdv))) :
    PSs (cxOf CX0 P w K mg base ["source", "some"] "_law_of" (defScope s__law_of) f cdv A outer s H E).nox (defBody s__law_of) (tSt ⟨K, w⟩ X0 m__law_of) := by
  have S := sc__law_of
  have hu64 : (A.deeper (envOfC "_law_of" (defScope s__law_of) s.heap.objs.size f cdv)).units + 64 < cLine := hr.rm.units
  have hu1 : (A.deeper (envOfC "_law_of" (defScope s__law_of) s.heap.objs.size f cdv)).units + 1 < cLine := by omega
  have hu66 : (A.deeper (envOfC "_law_of" (defScope s__law_of) s.heap.objs.size f cdv)).units + 66 < cLine := by have := hr.rm.un; omega
  exact (dss_cons (ds_ret (de_ix hu1 (de_var 1) (dc_call (ok__law_pick y) hr (da_cons (de_var 0) (da_cons (de_cb call_lenA cd_len y.f_len boot_len (da_cons (de_var 1) da_nil)) da_nil)) (la_cons (la_cons la_nil))))) dss_nil)
theorem ok__law_of (y : Hy K w mg) : DOk P w K mg base 2 "_law_of" ["source", "some"] F__law_of := by
  obtain ⟨h, X, G⟩ := y.g
  obtain ⟨fd, FD⟩ := y.c.t.d.def_ 1 (d := d__law_of) rfl
  exact ⟨⟨_, fd, fnG_M FD sc__law_of fun cdv A outer s H E hr => w__law_of y cdv _ A outer s H E hr, FD.bindsN fun _ _ _ _ _ _ us hl => match us, hl with | [_, _], _ => rfl, FD.kp, He.glo_ok X G (y.c.t.d.fact 1 (f := .glo "_law_of") rfl)⟩⟩
theorem sc__law_lot : FnScope ["source", "polys", "prime", "names", "word", "told", "rest", "found", "f", "g", "n"] ["source", "polys"] (defScope s__law_lot) := ⟨rfl, rfl, rfl, by decide +kernel, rfl, by decide +kernel, by decide +kernel⟩
theorem w__law_lot (y : Hy K w mg) (cdv : Value) (f : Addr) (A : Around) (outer : List PySem.Env) (s : Shared) (H : Hp) (E : XK) (hr : RoomG 2 (A.deeper (envOfC "_law_lot" (defScope s__law_lot) s.heap.objs.size f cdv))) :
    PSs (cxOf CX0 P w K mg base ["source", "polys", "prime", "names", "word", "told", "rest", "found", "f", "g", "n"] "_law_lot" (defScope s__law_lot) f cdv A outer s H E).nox (defBody s__law_lot) (tSt ⟨K, w⟩ X0 m__law_lot) := by
  have S := sc__law_lot
  have hu64 : (A.deeper (envOfC "_law_lot" (defScope s__law_lot) s.heap.objs.size f cdv)).units + 64 < cLine := hr.rm.units
  have hu1 : (A.deeper (envOfC "_law_lot" (defScope s__law_lot) s.heap.objs.size f cdv)).units + 1 < cLine := by omega
  have hu66 : (A.deeper (envOfC "_law_lot" (defScope s__law_lot) s.heap.objs.size f cdv)).units + 66 < cLine := by have := hr.rm.un; omega
  exact (dss_cons (ds_set 2 S.nd (dc_call (ok__law_of y) hr (da_cons (de_var 0) (da_cons (de_frz (df_lst (da_cons de_int (da_cons de_int (da_cons de_int (da_cons de_int (da_cons de_int (da_cons de_int (da_cons de_int (da_cons de_int (da_cons de_int (da_cons de_int (da_cons de_int (da_cons de_int (da_cons de_int da_nil))))))))))))))) da_nil)) (la_cons (la_cons la_nil)))) (dss_cons (ds_set 3 S.nd (de_add (de_mul (de_frz (df_cb (call_sortedD rfl) cf_sortD y.f_sorted boot_sorted (da_cons (de_var 1) da_nil))) de_int) (de_frz (df_lst (da_cons de_str (da_cons de_str da_nil)))))) (dss_cons (ds_set 4 S.nd (dc_call (ok__law_of y) hr (da_cons (de_var 0) (da_cons (de_frz (df_lst (da_cons de_str (da_cons de_str (da_cons de_str (da_cons de_str (da_cons de_str (da_cons de_str da_nil)))))))) da_nil)) (la_cons (la_cons la_nil)))) (dss_cons (ds_par3 8 9 10 rfl S.nd (da_cons (dc_call (ok__law_of y) hr (da_cons (de_var 0) (da_cons (de_var 3) da_nil)) (la_cons (la_cons la_nil))) (da_cons (dc_call (ok__law_of y) hr (da_cons (de_var 0) (da_cons (de_var 3) da_nil)) (la_cons (la_cons la_nil))) (da_cons (dc_call (ok__law_pick y) hr (da_cons (de_var 0) (da_cons de_int da_nil)) (la_cons (la_cons la_nil))) da_nil)))) (dss_cons (ds_set 5 S.nd (de_ownK (dk_disp (pps_cons de_str (de_tup (da_cons de_str (da_cons (de_var 8) (da_cons (de_var 10) da_nil)))) (pps_cons de_str (de_tup (da_cons de_str (da_cons (de_var 8) (da_cons (de_var 10) da_nil)))) (pps_cons de_str (de_tup (da_cons de_str (da_cons (de_var 8) da_nil))) pps_nil)))))) (dss_cons (ds_asg (vs := []) (de_tup (da_cons de_str (da_cons (de_var 8) (da_cons (de_var 9) (da_cons (de_sub (de_var 10) de_int) da_nil))))) (dg_sub hu1 (de_var 5) de_str)) (dss_cons (ds_set 6 S.nd (dc_call (ok__law_of y) hr (da_cons (de_var 0) (da_cons (de_frz (df_lst (da_cons de_int (da_cons de_int (da_cons de_int (da_cons de_int (da_cons de_int (da_cons de_int da_nil)))))))) da_nil)) (la_cons (la_cons la_nil)))) (dss_cons (ds_asg (vs := []) (de_tup (da_cons de_str (da_cons (de_var 8) (da_cons (dc_call (ok__law_of y) hr (da_cons (de_var 0) (da_cons (de_frz (df_lst (da_cons de_int (da_cons de_int (da_cons (de_var 6) (da_cons (de_cb (call_max2 rfl) cd_max2 y.f_max boot_max (da_cons de_int (da_cons (de_sub (de_var 6) de_int) da_nil))) da_nil)))))) da_nil)) (la_cons (la_cons la_nil))) (da_cons (de_var 6) da_nil))))) (dg_sub hu1 (de_var 5) de_str)) (dss_cons (ds_set 7 S.nd (de_ix hu1 (de_var 5) (de_var 4))) (dss_cons (ds_if (dt_cmp (op_notInA hu1) od_in (de_var 2) (de_tup (da_cons de_int (da_cons de_int (da_cons de_int (da_cons de_int da_nil)))))) (dss_cons (ds_ret (de_tup (da_cons (de_var 2) (da_cons (de_var 7) (da_cons (de_tup (da_cons (de_tup (da_cons de_int da_nil)) (da_cons de_str da_nil))) da_nil))))) dss_nil) dss_nil) (dss_cons (ds_if (dt_cmp (op_notInA hu1) od_in (de_var 8) (de_var 1)) (dss_cons (ds_ret (de_tup (da_cons (de_var 2) (da_cons (de_var 7) (da_cons (de_tup (da_cons (de_tup (da_cons de_int (da_cons de_int da_nil))) (da_cons de_str da_nil))) da_nil))))) dss_nil) dss_nil) (dss_cons (ds_if (PW.pt (dw_and (dt_cmp (op_eqA hu64) od_eq (de_var 4) de_str) (dw_one (.inl rfl) (dt_cmp (op_notInA hu1) od_in (de_var 9) (de_var 1))))) (dss_cons (ds_ret (de_tup (da_cons (de_var 2) (da_cons (de_var 7) (da_cons (de_tup (da_cons (de_tup (da_cons de_int (da_cons de_int da_nil))) (da_cons de_str da_nil))) da_nil))))) dss_nil) dss_nil) (dss_cons (ds_if (PW.pt (dw_and (dt_cmp (op_eqA hu64) od_eq (de_var 4) de_str) (dw_one (.inl rfl) (dt_not (dt_chain op_lt od_cmp op_lt od_cmp de_int (de_var 6) de_int))))) (dss_cons (ds_ret (de_tup (da_cons (de_var 2) (da_cons (de_var 7) (da_cons (de_tup (da_cons (de_tup (da_cons de_int (da_cons de_int da_nil))) (da_cons de_str da_nil))) da_nil))))) dss_nil) dss_nil) (dss_cons (ds_ret (de_tup (da_cons (de_var 2) (da_cons (de_var 7) (da_cons (de_if (PW.pt (dw_and (dt_cmp (op_eqA hu64) od_eq (de_var 4) de_str) (dw_one (.inl rfl) (dt_cmp op_ge od_cmp (de_ix hu1 (de_var 7) de_int) (de_var 6))))) (de_tup (da_cons (de_tup (da_cons de_int (da_cons de_int da_nil))) (da_cons de_str da_nil))) de_non) da_nil))))) dss_nil))))))))))))))
theorem ok__law_lot (y : Hy K w mg) : DOk P w K mg base 3 "_law_lot" ["source", "polys"] F__law_lot := by
  obtain ⟨h, X, G⟩ := y.g
  obtain ⟨fd, FD⟩ := y.c.t.d.def_ 2 (d := d__law_lot) rfl
  exact ⟨⟨_, fd, fnG_M FD sc__law_lot fun cdv A outer s H E hr => w__law_lot y cdv _ A outer s H E hr, FD.bindsN fun _ _ _ _ _ _ us hl => match us, hl with | [_, _], _ => rfl, FD.kp, He.glo_ok X G (y.c.t.d.fact 2 (f := .glo "_law_lot") rfl)⟩⟩
theorem sc__law_pipe : FnScope ["source", "lots", "names", "word", "digits", "a", "told", "found", "prime", "some", "w", "u", "lap", "k", "digit"] ["source", "lots"] (defScope s__law_pipe) := ⟨rfl, rfl, rfl, by decide +kernel, rfl, by decide +kernel, by decide +kernel⟩
theorem w__law_pipe (y : Hy K w mg) (cdv : Value) (f : Addr) (A : Around) (outer : List PySem.Env) (s : Shared) (H : Hp) (E : XK) (hr : RoomG 2 (A.deeper (envOfC "_law_pipe" (defScope s__law_pipe) s.heap.objs.size f cdv))) :
    PSs (cxOf CX0 P w K mg base ["source", "lots", "names", "word", "digits", "a", "told", "found", "prime", "some", "w", "u", "lap", "k", "digit"] "_law_pipe" (defScope s__law_pipe) f cdv A outer s H E).nox (defBody s__law_pipe) (tSt ⟨K, w⟩ X0 m__law_pipe) := by
  have S := sc__law_pipe
  have hu64 : (A.deeper (envOfC "_law_pipe" (defScope s__law_pipe) s.heap.objs.size f cdv)).units + 64 < cLine := hr.rm.units
  have hu1 : (A.deeper (envOfC "_law_pipe" (defScope s__law_pipe) s.heap.objs.size f cdv)).units + 1 < cLine := by omega
  have hu66 : (A.deeper (envOfC "_law_pipe" (defScope s__law_pipe) s.heap.objs.size f cdv)).units + 66 < cLine := by have := hr.rm.un; omega
  exact (dss_cons (ds_set 2 S.nd (de_add (de_mul (de_frz (df_cb (call_sortedD rfl) cf_sortD y.f_sorted boot_sorted (da_cons (de_var 1) da_nil))) de_int) (de_frz (df_lst (da_cons de_str (da_cons de_str da_nil)))))) (dss_cons (ds_par 10 11 rfl S.nd (da_cons (dc_call (ok__law_of y) hr (da_cons (de_var 0) (da_cons (de_var 2) da_nil)) (la_cons (la_cons la_nil))) (da_cons (dc_call (ok__law_of y) hr (da_cons (de_var 0) (da_cons (de_var 2) da_nil)) (la_cons (la_cons la_nil))) da_nil))) (dss_cons (ds_set 3 S.nd (dc_call (ok__law_of y) hr (da_cons (de_var 0) (da_cons (de_frz (df_lst (da_cons de_str (da_cons de_str (da_cons de_str (da_cons de_str (da_cons de_str da_nil))))))) da_nil)) (la_cons (la_cons la_nil)))) (dss_cons (ds_set 4 S.nd (de_ct call_tuple_of cd_tuple y.f_tuple boot_tuple (da_cons (de_frz (df_comp [("lap", 12)] rfl S.nd (di_range1 y.f_range (da_cons (de_add de_int (dc_call (ok__law_pick y) hr (da_cons (de_var 0) (da_cons de_int da_nil)) (la_cons (la_cons la_nil)))) da_nil)) (blkOk_by (by kernel_rfl)) (fun _ _ _ _ _ => (dg_nm 12 S.nd)) (fun _ _ _ _ _ => dts_nil) (fun _ _ _ _ _ => (dc_call (ok__law_pick y) hr (da_cons (de_var 0) (da_cons de_int da_nil)) (la_cons (la_cons la_nil)))))) da_nil))) (dss_cons (ds_set 5 S.nd (dc_call (ok__law_of y) hr (da_cons (de_var 0) (da_cons (de_frz (df_lst (da_cons de_int (da_cons de_int (da_cons (de_neg de_int) (da_cons de_int (da_cons de_int da_nil))))))) da_nil)) (la_cons (la_cons la_nil)))) (dss_cons (ds_set 6 S.nd (de_ownK (dk_disp (pps_cons de_str (de_tup (da_cons de_str (da_cons (de_var 10) (da_cons (de_var 11) da_nil)))) (pps_cons de_str (de_tup (da_cons de_str (da_cons (de_var 10) (da_cons (de_var 11) da_nil)))) (pps_cons de_str (de_tup (da_cons de_str (da_cons (de_var 10) da_nil))) (pps_cons de_str (de_tup (da_cons de_str (da_cons (de_var 10) (da_cons (de_var 5) (da_cons (de_neg de_int) da_nil))))) pps_nil))))))) (dss_cons (ds_set 7 S.nd (de_get2 hu1 (de_var 6) (de_var 3) (de_tup (da_cons de_str (da_cons (de_var 10) (da_cons (de_var 4) da_nil)))))) (dss_cons (ds_if (dt_cmp (op_notInA hu1) od_in (de_var 10) (de_var 1)) (dss_cons (ds_ret (de_tup (da_cons (de_var 7) (da_cons (de_tup (da_cons (de_tup (da_cons de_int (da_cons de_int da_nil))) (da_cons de_str da_nil))) (da_cons de_non da_nil))))) dss_nil) dss_nil) (dss_cons (ds_set 8 S.nd (de_ix hu1 (de_var 1) (de_var 10))) (dss_cons (ds_if (PW.pt (dw_and (dt_cmp (op_inA hu1) od_in (de_var 3) (de_tup (da_cons de_str (da_cons de_str da_nil)))) (dw_one (.inl rfl) (dt_cmp (op_notInA hu1) od_in (de_var 11) (de_var 1))))) (dss_cons (ds_ret (de_tup (da_cons (de_var 7) (da_cons (de_tup (da_cons (de_tup (da_cons de_int (da_cons de_int da_nil))) (da_cons de_str da_nil))) (da_cons de_non da_nil))))) dss_nil) dss_nil) (dss_cons (ds_if (PW.pt (dw_and (dt_cmp (op_inA hu1) od_in (de_var 3) (de_tup (da_cons de_str (da_cons de_str da_nil)))) (dw_one (.inl rfl) (dt_cmp (op_neA hu64) od_ne (de_ix hu1 (de_var 1) (de_var 11)) (de_var 8))))) (dss_cons (ds_ret (de_tup (da_cons (de_var 7) (da_cons (de_tup (da_cons (de_tup (da_cons de_int (da_cons de_int da_nil))) (da_cons de_str da_nil))) (da_cons de_non da_nil))))) dss_nil) dss_nil) (dss_cons (ds_if (PW.pt (dw_and (dt_cmp (op_eqA hu64) od_eq (de_var 3) de_str) (dw_one (.inl rfl) (dt_cmp (op_eqA hu64) od_eq (de_var 5) de_int)))) (dss_cons (ds_ret (de_tup (da_cons (de_var 7) (da_cons (de_tup (da_cons (de_tup (da_cons de_int (da_cons de_int da_nil))) (da_cons de_str da_nil))) (da_cons de_non da_nil))))) dss_nil) dss_nil) (dss_cons (ds_setLc [("k", 13), ("digit", 14)] tF_frz rfl S.nd rfl rfl (sw_true rfl rfl rfl rfl) (di_enum y.f_enumerate (da_cons (de_var 4) da_nil)) (blkOk_by (by kernel_rfl)) (fun _ _ _ _ _ => (dg_sq rfl (dgs_cons (dg_nm 13 S.nd) (dgs_cons (dg_nm 14 S.nd) dgs_nil)))) (fun _ _ _ _ _ => (dts_one (dt_cmp op_ge od_cmp (de_var 14) (de_var 8)))) (fun _ _ _ _ _ => (de_var 13))) (dss_cons (ds_ret (de_tup (da_cons (de_var 7) (da_cons (de_if (PW.pt (dw_and (dt_cmp (op_eqA hu64) od_eq (de_var 3) de_str) (dw_one (.inl rfl) (dt_cmp (op_neA hu64) od_ne (de_var 9) (de_frz (df_lst da_nil)))))) (de_tup (da_cons (de_tup (da_cons de_int (da_cons de_int (da_cons (de_ix hu1 (de_var 9) de_int) da_nil)))) (da_cons de_str da_nil))) de_non) (da_cons (de_var 8) da_nil))))) dss_nil))))))))))))))
theorem ok__law_pipe (y : Hy K w mg) : DOk P w K mg base 3 "_law_pipe" ["source", "lots"] F__law_pipe := by
  obtain ⟨h, X, G⟩ := y.g
  obtain ⟨fd, FD⟩ := y.c.t.d.def_ 3 (d := d__law_pipe) rfl
  exact ⟨⟨_, fd, fnG_M FD sc__law_pipe fun cdv A outer s H E hr => w__law_pipe y cdv _ A outer s H E hr, FD.bindsN fun _ _ _ _ _ _ us hl => match us, hl with | [_, _], _ => rfl, FD.kp, He.glo_ok X G (y.c.t.d.fact 3 (f := .glo "_law_pipe") rfl)⟩⟩
theorem sc__law_mixed : FnScope ["source", "things", "rest", "lap"] ["source", "things"] (defScope s__law_mixed) := ⟨rfl, rfl, rfl, by decide +kernel, rfl, by decide +kernel, by decide +kernel⟩
theorem w__law_mixed (y : Hy K w mg) (cdv : Value) (f : Addr) (A : Around) (outer : List PySem.Env) (s : Shared) (H : Hp) (E : XK) (hr : RoomG 1 (A.deeper (envOfC "_law_mixed" (defScope s__law_mixed) s.heap.objs.size f cdv))) :
    PSs (cxOf CX0 P w K mg base ["source", "things", "rest", "lap"] "_law_mixed" (defScope s__law_mixed) f cdv A outer s H E).nox (defBody s__law_mixed) (tSt ⟨K, w⟩ X0 m__law_mixed) := by
  have S := sc__law_mixed
  have hu64 : (A.deeper (envOfC "_law_mixed" (defScope s__law_mixed) s.heap.objs.size f cdv)).units + 64 < cLine := hr.rm.units
  have hu1 : (A.deeper (envOfC "_law_mixed" (defScope s__law_mixed) s.heap.objs.size f cdv)).units + 1 < cLine := by omega
  have hu66 : (A.deeper (envOfC "_law_mixed" (defScope s__law_mixed) s.heap.objs.size f cdv)).units + 66 < cLine := by have := hr.rm.un; omega
  exact (dss_cons (ds_set 2 S.nd (de_own (df_ct (call_listA rfl) cf_list y.f_list boot_list (da_cons (de_var 1) da_nil)))) (dss_cons (ds_ret (de_frz (df_comp [("lap", 3)] rfl S.nd (di_range1 y.f_range (da_cons (de_cb call_lenA cd_len y.f_len boot_len (da_cons (de_var 2) da_nil)) da_nil)) (blkOk_by (by kernel_rfl)) (fun _ _ _ _ _ => (dg_nm 3 S.nd)) (fun _ _ _ _ _ => dts_nil) (fun _ _ _ _ _ => (de_mt F.plainAttrs_list F.slot_list_pop F.type_list_pop mt_popAt md_popAt (de_var 2) (da_cons (dc_call (ok__law_pick y) hr (da_cons (de_var 0) (da_cons (de_cb call_lenA cd_len y.f_len boot_len (da_cons (de_var 2) da_nil)) da_nil)) (la_cons (la_cons la_nil))) da_nil)))))) dss_nil))
theorem ok__law_mixed (y : Hy K w mg) : DOk P w K mg base 2 "_law_mixed" ["source", "things"] F__law_mixed := by
  obtain ⟨h, X, G⟩ := y.g
  obtain ⟨fd, FD⟩ := y.c.t.d.def_ 4 (d := d__law_mixed) rfl
  exact ⟨⟨_, fd, fnG_M FD sc__law_mixed fun cdv A outer s H E hr => w__law_mixed y cdv _ A outer s H E hr, FD.bindsN fun _ _ _ _ _ _ us hl => match us, hl with | [_, _], _ => rfl, FD.kp, He.glo_ok X G (y.c.t.d.fact 4 (f := .glo "_law_mixed") rfl)⟩⟩
theorem sc__law_terms : FnScope ["source", "is_nought", "terms", "back", "some", "lap", "number", "many", "term"] ["source", "is_nought"] (defScope s__law_terms) := ⟨rfl, rfl, rfl, by decide +kernel, rfl, by decide +kernel, by decide +kernel⟩
theorem w__law_terms (y : Hy K w mg) (cdv : Value) (f : Addr) (A : Around) (outer : List PySem.Env) (s : Shared) (H : Hp) (E : XK) (hr : RoomG 2 (A.deeper (envOfC "_law_terms" (defScope s__law_terms) s.heap.objs.size f cdv))) :
    PSs (cxOf CX0 P w K mg base ["source", "is_nought", "terms", "back", "some", "lap", "number", "many", "term"] "_law_terms" (defScope s__law_terms) f cdv A outer s H E).nox (defBody s__law_terms) (tSt ⟨K, w⟩ X0 m__law_terms) := by
  have S := sc__law_terms
  have hu64 : (A.deeper (envOfC "_law_terms" (defScope s__law_terms) s.heap.objs.size f cdv)).units + 64 < cLine := hr.rm.units
  have hu1 : (A.deeper (envOfC "_law_terms" (defScope s__law_terms) s.heap.objs.size f cdv)).units + 1 < cLine := by omega
  have hu66 : (A.deeper (envOfC "_law_terms" (defScope s__law_terms) s.heap.objs.size f cdv)).units + 66 < cLine := by have := hr.rm.un; omega
  exact (dss_cons (ds_setLc [("lap", 5)] tF_frz rfl S.nd rfl rfl (sw_true rfl rfl rfl rfl) (di_range1 y.f_range (da_cons (de_add de_int (dc_call (ok__law_pick y) hr (da_cons (de_var 0) (da_cons de_int da_nil)) (la_cons (la_cons la_nil)))) da_nil)) (blkOk_by (by kernel_rfl)) (fun _ _ _ _ _ => (dg_nm 5 S.nd)) (fun _ _ _ _ _ => dts_nil) (fun _ _ _ _ _ => (de_tup (da_cons (dc_call (ok__law_of y) hr (da_cons (de_var 0) (da_cons (de_frz (df_lst (da_cons de_int (da_cons (de_neg de_int) (da_cons de_int (da_cons de_int (da_cons (de_neg de_int) da_nil))))))) da_nil)) (la_cons (la_cons la_nil))) (da_cons (dc_call (ok__law_pick y) hr (da_cons (de_var 0) (da_cons de_int da_nil)) (la_cons (la_cons la_nil))) da_nil))))) (dss_cons (ds_if (dt_not (dt_tru (de_var 1))) (dss_cons (ds_ret (de_ct call_tuple_of cd_tuple y.f_tuple boot_tuple (da_cons (de_add (de_frz (df_comp [("term", 8)] rfl S.nd (di_seq (de_var 2)) (blkOk_by (by kernel_rfl)) (fun _ _ _ _ _ => (dg_nm 8 S.nd)) (fun _ _ _ _ _ => (dts_one (dt_cmp op_lt od_cmp (de_ix hu1 (de_var 8) de_int) de_int))) (fun _ _ _ _ _ => (de_var 8)))) (de_frz (df_lst (da_cons (de_tup (da_cons (de_add de_int (dc_call (ok__law_pick y) hr (da_cons (de_var 0) (da_cons de_int da_nil)) (la_cons (la_cons la_nil)))) (da_cons de_int da_nil))) da_nil)))) da_nil))) dss_nil) dss_nil) (dss_cons (ds_setLc [("number", 6), ("many", 7)] tF_frz rfl S.nd rfl rfl (sw_true rfl rfl rfl rfl) (di_seq (de_var 2)) (blkOk_by (by kernel_rfl)) (fun _ _ _ _ _ => (dg_sq rfl (dgs_cons (dg_nm 6 S.nd) (dgs_cons (dg_nm 7 S.nd) dgs_nil)))) (fun _ _ _ _ _ => dts_nil) (fun _ _ _ _ _ => (de_tup (da_cons (de_sub de_int (de_var 6)) (da_cons (de_var 7) da_nil))))) (dss_cons (ds_set 4 S.nd (de_frz (df_lst (da_cons (de_frz (df_lst (da_cons (de_tup (da_cons de_int (da_cons de_int da_nil))) da_nil))) (da_cons (de_add (de_var 2) (de_var 3)) (da_cons (dc_call (ok__law_mixed y) hr (da_cons (de_var 0) (da_cons (de_add (de_var 2) (de_var 3)) da_nil)) (la_cons (la_cons la_nil))) da_nil)))))) (dss_cons (ds_ret (de_ct call_tuple_of cd_tuple y.f_tuple boot_tuple (da_cons (dc_call (ok__law_of y) hr (da_cons (de_var 0) (da_cons (de_var 4) da_nil)) (la_cons (la_cons la_nil))) da_nil))) dss_nil)))))
theorem ok__law_terms (y : Hy K w mg) : DOk P w K mg base 3 "_law_terms" ["source", "is_nought"] F__law_terms := by
  obtain ⟨h, X, G⟩ := y.g
  obtain ⟨fd, FD⟩ := y.c.t.d.def_ 5 (d := d__law_terms) rfl
  exact ⟨⟨_, fd, fnG_M FD sc__law_terms fun cdv A outer s H E hr => w__law_terms y cdv _ A outer s H E hr, FD.bindsN fun _ _ _ _ _ _ us hl => match us, hl with | [_, _], _ => rfl, FD.kp, He.glo_ok X G (y.c.t.d.fact 5 (f := .glo "_law_terms") rfl)⟩⟩
theorem sc__law_poly : FnScope ["source", "k", "factors", "fault", "is_nought", "times"] ["source"] (defScope s__law_poly) := ⟨rfl, rfl, rfl, by decide +kernel, rfl, by decide +kernel, by decide +kernel⟩
theorem w__law_poly (y : Hy K w mg) (cdv : Value) (f : Addr) (A : Around) (outer : List PySem.Env) (s : Shared) (H : Hp) (E : XK) (hr : RoomG 3 (A.deeper (envOfC "_law_poly" (defScope s__law_poly) s.heap.objs.size f cdv))) :
    PSs (cxOf CX0 P w K mg base ["source", "k", "factors", "fault", "is_nought", "times"] "_law_poly" (defScope s__law_poly) f cdv A outer s H E).nox (defBody s__law_poly) (tSt ⟨K, w⟩ X0 m__law_poly) := by
  have S := sc__law_poly
  have hu64 : (A.deeper (envOfC "_law_poly" (defScope s__law_poly) s.heap.objs.size f cdv)).units + 64 < cLine := hr.rm.units
  have hu1 : (A.deeper (envOfC "_law_poly" (defScope s__law_poly) s.heap.objs.size f cdv)).units + 1 < cLine := by omega
  have hu66 : (A.deeper (envOfC "_law_poly" (defScope s__law_poly) s.heap.objs.size f cdv)).units + 66 < cLine := by have := hr.rm.un; omega
  exact (dss_cons (ds_par 2 3 rfl S.nd (da_cons (de_own (df_lst da_nil)) (da_cons de_non da_nil))) (dss_cons (ds_for (vs := [1]) PassesOwn.never rfl (di_range1 y.f_range (da_cons (dc_call (ok__law_of y) hr (da_cons (de_var 0) (da_cons (de_frz (df_lst (da_cons de_int (da_cons de_int (da_cons de_int (da_cons de_int da_nil)))))) da_nil)) (la_cons (la_cons la_nil))) da_nil)) (dg_nm 1 S.nd) (dss_cons (ds_par 4 5 rfl S.nd (da_cons (de_cmp (op_eqA hu64) od_eq (dc_call (ok__law_pick y) hr (da_cons (de_var 0) (da_cons de_int da_nil)) (la_cons (la_cons la_nil))) de_int) (da_cons (dc_call (ok__law_of y) hr (da_cons (de_var 0) (da_cons (de_frz (df_lst (da_cons de_int (da_cons de_int (da_cons de_int (da_cons de_int (da_cons de_int (da_cons de_int da_nil)))))))) da_nil)) (la_cons (la_cons la_nil))) da_nil))) (dss_cons (ds_expr (de_mt F.plainAttrs_list F.slot_list_append F.type_list_append mt_append md_append (de_var 2) (da_cons (de_tup (da_cons (dc_call (ok__law_terms y) hr (da_cons (de_var 0) (da_cons (de_var 4) da_nil)) (la_cons (la_cons la_nil))) (da_cons (de_var 5) da_nil))) da_nil))) (dss_cons (ds_if (PW.pt (dw_and (dt_cmp op_isN od_is (de_var 3) de_non) (dw_one (.inl rfl) (dt_tru (de_var 4))))) (dss_cons (ds_set 3 S.nd (de_tup (da_cons (de_tup (da_cons de_int (da_cons (de_var 1) (da_cons de_int da_nil)))) (da_cons de_str da_nil)))) dss_nil) dss_nil) (dss_cons (ds_if (PW.pt (dw_and (dt_cmp op_isN od_is (de_var 3) de_non) (dw_one (.inl rfl) (dt_cmp (op_eqA hu64) od_eq (de_var 5) de_int)))) (dss_cons (ds_set 3 S.nd (de_tup (da_cons (de_tup (da_cons de_int (da_cons (de_var 1) (da_cons de_int da_nil)))) (da_cons de_str da_nil)))) dss_nil) dss_nil) dss_nil))))) (dss_cons (ds_give 2 (ds_ret (de_tup (da_cons (de_ct call_tuple_of cd_tuple y.f_tuple boot_tuple (da_cons (de_var 2) da_nil)) (da_cons (de_var 3) da_nil))))) dss_nil)))
theorem ok__law_poly (y : Hy K w mg) : DOk P w K mg base 4 "_law_poly" ["source"] F__law_poly := by
  obtain ⟨h, X, G⟩ := y.g
  obtain ⟨fd, FD⟩ := y.c.t.d.def_ 6 (d := d__law_poly) rfl
  exact ⟨⟨_, fd, fnG_M FD sc__law_poly fun cdv A outer s H E hr => w__law_poly y cdv _ A outer s H E hr, FD.bindsN fun _ _ _ _ _ _ us hl => match us, hl with | [_], _ => rfl, FD.kp, He.glo_ok X G (y.c.t.d.fact 6 (f := .glo "_law_poly") rfl)⟩⟩
theorem sc__law_source : FnScope ["script", "mixed", "cell"] ["script"] (defScope s__law_source) := ⟨rfl, rfl, rfl, by decide +kernel, rfl, by decide +kernel, by decide +kernel⟩
theorem w__law_source (y : Hy K w mg) (cdv : Value) (f : Addr) (A : Around) (outer : List PySem.Env) (s : Shared) (H : Hp) (E : XK) (hr : RoomG 0 (A.deeper (envOfC "_law_source" (defScope s__law_source) s.heap.objs.size f cdv))) :
    PSs (cxOf CX0 P w K mg base ["script", "mixed", "cell"] "_law_source" (defScope s__law_source) f cdv A outer s H E).nox (defBody s__law_source) (tSt ⟨K, w⟩ X0 m__law_source) := by
  have S := sc__law_source
  have hu64 : (A.deeper (envOfC "_law_source" (defScope s__law_source) s.heap.objs.size f cdv)).units + 64 < cLine := hr.rm.units
  have hu1 : (A.deeper (envOfC "_law_source" (defScope s__law_source) s.heap.objs.size f cdv)).units + 1 < cLine := by omega
  have hu66 : (A.deeper (envOfC "_law_source" (defScope s__law_source) s.heap.objs.size f cdv)).units + 66 < cLine := by have := hr.rm.un; omega
  exact (dss_cons (ds_set 1 S.nd de_int) (dss_cons (ds_for (vs := [2]) PassesOwn.never rfl (di_seq (de_var 0)) (dg_nm 2 S.nd) (dss_cons (ds_set 1 S.nd (de_mod (de_ct call_int1 cd_int y.f_int boot_int (da_cons (de_add (de_add (de_mul (de_var 1) de_int) (de_mul (de_var 2) de_int)) de_int) da_nil)) de_int)) dss_nil)) (dss_cons (ds_ret (de_locK (dk_disp (pps_cons de_str (de_loc (df_rev (de_frz (df_comp [("cell", 2)] rfl S.nd (di_seq (de_var 0)) (blkOk_by (by kernel_rfl)) (fun _ _ _ _ _ => (dg_nm 2 S.nd)) (fun _ _ _ _ _ => dts_nil) (fun _ _ _ _ _ => (de_cb call_abs cd_abs y.f_abs boot_abs (da_cons (de_var 2) da_nil))))))) (pps_cons de_str de_int (pps_cons de_str (de_var 1) (pps_cons de_str de_int pps_nil))))))) dss_nil)))
theorem ok__law_source (y : Hy K w mg) : DOk P w K mg base 1 "_law_source" ["script"] F__law_source := by
  obtain ⟨h, X, G⟩ := y.g
  obtain ⟨fd, FD⟩ := y.c.t.d.def_ 7 (d := d__law_source) rfl
  exact ⟨⟨_, fd, fnG_M FD sc__law_source fun cdv A outer s H E hr => w__law_source y cdv _ A outer s H E hr, FD.bindsN fun _ _ _ _ _ _ us hl => match us, hl with | [_], _ => rfl, FD.kp, He.glo_ok X G (y.c.t.d.fact 7 (f := .glo "_law_source") rfl)⟩⟩
theorem sc_made_kinds : FnScope ["session", "number", "found", "item"] ["session", "number"] (defScope s_made_kinds) := ⟨rfl, rfl, rfl, by decide +kernel, rfl, by decide +kernel, by decide +kernel⟩
theorem w_made_kinds (y : Hy K w mg) (cdv : Value) (f : Addr) (A : Around) (outer : List PySem.Env) (s : Shared) (H : Hp) (E : XK) (hr : RoomG 0 (A.deeper (envOfC "made_kinds" (defScope s_made_kinds) s.heap.objs.size f cdv))) :
    PSs (cxOf CX0 P w K mg base ["session", "number", "found", "item"] "made_kinds" (defScope s_made_kinds) f cdv A outer s H E).nox (defBody s_made_kinds) (tSt ⟨K, w⟩ X0 m_made_kinds) := by
  have S := sc_made_kinds
  have hu64 : (A.deeper (envOfC "made_kinds" (defScope s_made_kinds) s.heap.objs.size f cdv)).units + 64 < cLine := hr.rm.units
  have hu1 : (A.deeper (envOfC "made_kinds" (defScope s_made_kinds) s.heap.objs.size f cdv)).units + 1 < cLine := by omega
  have hu66 : (A.deeper (envOfC "made_kinds" (defScope s_made_kinds) s.heap.objs.size f cdv)).units + 66 < cLine := by have := hr.rm.un; omega
  exact (dss_cons (ds_set 2 S.nd (de_locK dk_new)) (dss_cons (ds_for (vs := [3]) PassesOwn.never rfl (di_seq (de_slA (de_var 0) do_none (do_some (de_var 1)))) (dg_nm 3 S.nd) (dss_cons (ds_if (dt_cmp (op_eqA hu64) od_eq (de_ix hu1 (de_var 3) de_int) (de_glo y.g_LOT)) (dss_cons (ds_asg (vs := []) (de_tup (da_cons (de_glo y.g_LOT) (da_cons (de_ix hu1 (de_var 3) de_int) da_nil))) (dg_sub hu1 (de_var 2) (de_ix hu1 (de_var 3) de_int))) dss_nil) dss_nil) (dss_cons (ds_if (dt_cmp (op_eqA hu64) od_eq (de_ix hu1 (de_var 3) de_int) (de_glo y.g_PIPE)) (dss_cons (ds_asg (vs := []) (de_tup (da_cons (de_glo y.g_PIPE) (da_cons (de_ix hu1 (de_ix hu1 (de_var 2) (de_ix hu1 (de_ix hu1 (de_var 3) de_int) de_int)) de_int) da_nil))) (dg_sub hu1 (de_var 2) (de_ix hu1 (de_var 3) de_int))) dss_nil) dss_nil) (dss_cons (ds_if (dt_cmp (op_eqA hu64) od_eq (de_ix hu1 (de_var 3) de_int) (de_glo y.g_GROW)) (dss_cons (ds_asg (vs := []) (de_tup (da_cons (de_glo y.g_GROW) (da_cons (de_ix hu1 (de_ix hu1 (de_var 2) (de_ix hu1 (de_var 3) de_int)) de_int) da_nil))) (dg_sub hu1 (de_var 2) (de_ix hu1 (de_var 3) de_int))) dss_nil) dss_nil) dss_nil)))) (dss_cons (ds_ret (de_var 2)) dss_nil)))
theorem ok_made_kinds (y : Hy K w mg) : DOk P w K mg base 1 "made_kinds" ["session", "number"] F_made_kinds := by
  obtain ⟨h, X, G⟩ := y.g
  obtain ⟨fd, FD⟩ := y.c.t.d.def_ 8 (d := d_made_kinds) rfl
  exact ⟨⟨_, fd, fnG_M FD sc_made_kinds fun cdv A outer s H E hr => w_made_kinds y cdv _ A outer s H E hr, FD.bindsN fun _ _ _ _ _ _ us hl => match us, hl with | [_, _], _ => rfl, FD.kp, He.glo_ok X G (y.c.t.d.fact 8 (f := .glo "made_kinds") rfl)⟩⟩
theorem sc_things_ahead : FnScope ["session", "number", "words", "item"] ["session", "number", "words"] (defScope s_things_ahead) := ⟨rfl, rfl, rfl, by decide +kernel, rfl, by decide +kernel, by decide +kernel⟩
theorem w_things_ahead (y : Hy K w mg) (cdv : Value) (f : Addr) (A : Around) (outer : List PySem.Env) (s : Shared) (H : Hp) (E : XK) (hr : RoomG 0 (A.deeper (envOfC "things_ahead" (defScope s_things_ahead) s.heap.objs.size f cdv))) :
    PSs (cxOf CX0 P w K mg base ["session", "number", "words", "item"] "things_ahead" (defScope s_things_ahead) f cdv A outer s H E).nox (defBody s_things_ahead) (tSt ⟨K, w⟩ X0 m_things_ahead) := by
  have S := sc_things_ahead
  have hu64 : (A.deeper (envOfC "things_ahead" (defScope s_things_ahead) s.heap.objs.size f cdv)).units + 64 < cLine := hr.rm.units
  have hu1 : (A.deeper (envOfC "things_ahead" (defScope s_things_ahead) s.heap.objs.size f cdv)).units + 1 < cLine := by omega
  have hu66 : (A.deeper (envOfC "things_ahead" (defScope s_things_ahead) s.heap.objs.size f cdv)).units + 66 < cLine := by have := hr.rm.un; omega
  exact (dss_cons (ds_ret (de_locK (dk_ct (call_dictP rfl) ck_dictP y.f_dict boot_dict (da_cons (de_frz (df_comp [("item", 3)] rfl S.nd (di_seq (de_slA (de_var 0) do_none (do_some (de_var 1)))) (blkOk_by (by kernel_rfl)) (fun _ _ _ _ _ => (dg_nm 3 S.nd)) (fun _ _ _ _ _ => (dts_one (dt_cmp (op_inA hu1) od_in (de_ix hu1 (de_var 3) de_int) (de_var 2)))) (fun _ _ _ _ _ => (de_tup (da_cons (de_ix hu1 (de_var 3) de_int) (da_cons (de_var 3) da_nil)))))) da_nil)))) dss_nil)
theorem ok_things_ahead (y : Hy K w mg) : DOk P w K mg base 1 "things_ahead" ["session", "number", "words"] F_things_ahead := by
  obtain ⟨h, X, G⟩ := y.g
  obtain ⟨fd, FD⟩ := y.c.t.d.def_ 9 (d := d_things_ahead) rfl
  exact ⟨⟨_, fd, fnG_M FD sc_things_ahead fun cdv A outer s H E hr => w_things_ahead y cdv _ A outer s H E hr, FD.bindsN fun _ _ _ _ _ _ us hl => match us, hl with | [_, _, _], _ => rfl, FD.kp, He.glo_ok X G (y.c.t.d.fact 9 (f := .glo "things_ahead") rfl)⟩⟩
theorem sc_told_items : FnScope ["session", "number"] ["session", "number"] (defScope s_told_items) := ⟨rfl, rfl, rfl, by decide +kernel, rfl, by decide +kernel, by decide +kernel⟩
theorem w_told_items (y : Hy K w mg) (cdv : Value) (f : Addr) (A : Around) (outer : List PySem.Env) (s : Shared) (H : Hp) (E : XK) (hr : RoomG 1 (A.deeper (envOfC "told_items" (defScope s_told_items) s.heap.objs.size f cdv))) :
    PSs (cxOf CX0 P w K mg base ["session", "number"] "told_items" (defScope s_told_items) f cdv A outer s H E).nox (defBody s_told_items) (tSt ⟨K, w⟩ X0 m_told_items) := by
  have S := sc_told_items
  have hu64 : (A.deeper (envOfC "told_items" (defScope s_told_items) s.heap.objs.size f cdv)).units + 64 < cLine := hr.rm.units
  have hu1 : (A.deeper (envOfC "told_items" (defScope s_told_items) s.heap.objs.size f cdv)).units + 1 < cLine := by omega
  have hu66 : (A.deeper (envOfC "told_items" (defScope s_told_items) s.heap.objs.size f cdv)).units + 66 < cLine := by have := hr.rm.un; omega
  exact (dss_cons (ds_ret (dc_call (ok_things_ahead y) hr (da_cons (de_var 0) (da_cons (de_var 1) (da_cons (de_tup (da_cons (de_glo y.g_LOT) (da_cons (de_glo y.g_PIPE) da_nil))) da_nil))) (la_cons (la_cons (la_cons la_nil))))) dss_nil)
theorem ok_told_items (y : Hy K w mg) : DOk P w K mg base 2 "told_items" ["session", "number"] F_told_items := by
  obtain ⟨h, X, G⟩ := y.g
  obtain ⟨fd, FD⟩ := y.c.t.d.def_ 10 (d := d_told_items) rfl
  exact ⟨⟨_, fd, fnG_M FD sc_told_items fun cdv A outer s H E hr => w_told_items y cdv _ A outer s H E hr, FD.bindsN fun _ _ _ _ _ _ us hl => match us, hl with | [_, _], _ => rfl, FD.kp, He.glo_ok X G (y.c.t.d.fact 10 (f := .glo "told_items") rfl)⟩⟩
theorem sc_told_polys : FnScope ["session", "number"] ["session", "number"] (defScope s_told_polys) := ⟨rfl, rfl, rfl, by decide +kernel, rfl, by decide +kernel, by decide +kernel⟩
theorem w_told_polys (y : Hy K w mg) (cdv : Value) (f : Addr) (A : Around) (outer : List PySem.Env) (s : Shared) (H : Hp) (E : XK) (hr : RoomG 1 (A.deeper (envOfC "told_polys" (defScope s_told_polys) s.heap.objs.size f cdv))) :
    PSs (cxOf CX0 P w K mg base ["session", "number"] "told_polys" (defScope s_told_polys) f cdv A outer s H E).nox (defBody s_told_polys) (tSt ⟨K, w⟩ X0 m_told_polys) := by
  have S := sc_told_polys
  have hu64 : (A.deeper (envOfC "told_polys" (defScope s_told_polys) s.heap.objs.size f cdv)).units + 64 < cLine := hr.rm.units
  have hu1 : (A.deeper (envOfC "told_polys" (defScope s_told_polys) s.heap.objs.size f cdv)).units + 1 < cLine := by omega
  have hu66 : (A.deeper (envOfC "told_polys" (defScope s_told_polys) s.heap.objs.size f cdv)).units + 66 < cLine := by have := hr.rm.un; omega
  exact (dss_cons (ds_ret (dc_call (ok_things_ahead y) hr (da_cons (de_var 0) (da_cons (de_var 1) (da_cons (de_tup (da_cons de_str da_nil)) da_nil))) (la_cons (la_cons (la_cons la_nil))))) dss_nil)
theorem ok_told_polys (y : Hy K w mg) : DOk P w K mg base 2 "told_polys" ["session", "number"] F_told_polys := by
  obtain ⟨h, X, G⟩ := y.g
  obtain ⟨fd, FD⟩ := y.c.t.d.def_ 11 (d := d_told_polys) rfl
  exact ⟨⟨_, fd, fnG_M FD sc_told_polys fun cdv A outer s H E hr => w_told_polys y cdv _ A outer s H E hr, FD.bindsN fun _ _ _ _ _ _ us hl => match us, hl with | [_, _], _ => rfl, FD.kp, He.glo_ok X G (y.c.t.d.fact 11 (f := .glo "told_polys") rfl)⟩⟩
theorem sc_Ahead_init : FnScope ["self", "session", "number"] ["self", "session", "number"] (defScope s_Ahead_init) := ⟨rfl, rfl, rfl, by decide +kernel, rfl, by decide +kernel, by decide +kernel⟩
theorem w_Ahead_init (y : Hy K w mg) (cdv : Value) (f : Addr) (A : Around) (outer : List PySem.Env) (s : Shared) (H : Hp) (E : XK) (hr : RoomG 2 (A.deeper (envOfC "Ahead.__init__" (defScope s_Ahead_init) s.heap.objs.size f cdv))) :
    PSs (cxOf CX0 P w K mg base ["self", "session", "number"] "Ahead.__init__" (defScope s_Ahead_init) f cdv A outer s H E).nox (defBody s_Ahead_init) (tSt ⟨K, w⟩ X0 m_Ahead_init) := by
  have S := sc_Ahead_init
  have hu64 : (A.deeper (envOfC "Ahead.__init__" (defScope s_Ahead_init) s.heap.objs.size f cdv)).units + 64 < cLine := hr.rm.units
  have hu1 : (A.deeper (envOfC "Ahead.__init__" (defScope s_Ahead_init) s.heap.objs.size f cdv)).units + 1 < cLine := by omega
  have hu66 : (A.deeper (envOfC "Ahead.__init__" (defScope s_Ahead_init) s.heap.objs.size f cdv)).units + 66 < cLine := by have := hr.rm.un; omega
  exact (dss_cons (ds_asg (vs := []) (de_tup (da_cons (dc_call (ok_made_kinds y) hr (da_cons (de_var 1) (da_cons (de_var 2) da_nil)) (la_cons (la_cons la_nil))) (da_cons (dc_call (ok_told_polys y) hr (da_cons (de_var 1) (da_cons (de_var 2) da_nil)) (la_cons (la_cons la_nil))) da_nil))) (dg_sq rfl (dgs_cons (dg_fld (y.cls_Ahead) (y.no_Ahead_kinds) (de_var 0)) (dgs_cons (dg_fld (y.cls_Ahead) (y.no_Ahead_polys) (de_var 0)) dgs_nil)))) (dss_cons (ds_fld (y.cls_Ahead) (y.no_Ahead_promises) (de_var 0) (dc_call (ok_things_ahead y) hr (da_cons (de_var 1) (da_cons (de_var 2) (da_cons (de_tup (da_cons de_str da_nil)) da_nil))) (la_cons (la_cons (la_cons la_nil))))) dss_nil))
theorem cok_Ahead (y : Hy K w mg) : COk P w K mg base 3 "Ahead" ["self", "session", "number"] F_Ahead_init := by
  obtain ⟨h, X, G⟩ := y.g
  obtain ⟨fd, FD⟩ := y.c.t.d.def_ 12 (d := d_Ahead_init) rfl
  exact ⟨⟨_, fd, fnG_M FD sc_Ahead_init fun cdv A outer s H E hr => w_Ahead_init y cdv _ A outer s H E hr, FD.bindsN fun _ _ _ _ _ _ us hl => match us, hl with | [_, _, _], _ => rfl, He.mkr_ok (y.c.t.d.fact 37 (f := .mkr "Ahead") rfl), He.glo_ok X G (y.c.t.d.fact 35 (f := .glo "Ahead") rfl)⟩⟩
theorem sc_Ahead_is_named : FnScope ["self", "sort", "name"] ["self", "sort", "name"] (defScope s_Ahead_is_named) := ⟨rfl, rfl, rfl, by decide +kernel, rfl, by decide +kernel, by decide +kernel⟩
theorem w_Ahead_is_named (y : Hy K w mg) (cdv : Value) (f : Addr) (A : Around) (outer : List PySem.Env) (s : Shared) (H : Hp) (E : XK) (hr : RoomG 0 (A.deeper (envOfC "Ahead.is_named" (defScope s_Ahead_is_named) s.heap.objs.size f cdv))) :
    PSs (cxOf CX0 P w K mg base ["self", "sort", "name"] "Ahead.is_named" (defScope s_Ahead_is_named) f cdv A outer s H E).nox (defBody s_Ahead_is_named) (tSt ⟨K, w⟩ X0 m_Ahead_is_named) := by
  have S := sc_Ahead_is_named
  have hu64 : (A.deeper (envOfC "Ahead.is_named" (defScope s_Ahead_is_named) s.heap.objs.size f cdv)).units + 64 < cLine := hr.rm.units
  have hu1 : (A.deeper (envOfC "Ahead.is_named" (defScope s_Ahead_is_named) s.heap.objs.size f cdv)).units + 1 < cLine := by omega
  have hu66 : (A.deeper (envOfC "Ahead.is_named" (defScope s_Ahead_is_named) s.heap.objs.size f cdv)).units + 66 < cLine := by have := hr.rm.un; omega
  exact (dss_cons (ds_if (dt_cmp (op_eqA hu64) od_eq (de_var 1) (de_glo y.g_POLY)) (dss_cons (ds_ret (de_cmp (op_inA hu1) od_in (de_var 2) (de_fld (y.cls_Ahead) (y.no_Ahead_polys) (de_var 0)))) dss_nil) dss_nil) (dss_cons (ds_if (dt_cmp (op_eqA hu64) od_eq (de_var 1) (de_glo y.g_PROMISE)) (dss_cons (ds_ret (de_cmp (op_inA hu1) od_in (de_var 2) (de_fld (y.cls_Ahead) (y.no_Ahead_promises) (de_var 0)))) dss_nil) dss_nil) (dss_cons (ds_ret (de_and (de_cmp (op_inA hu1) od_in (de_var 2) (de_fld (y.cls_Ahead) (y.no_Ahead_kinds) (de_var 0))) (de_one (de_cmp (op_inA hu1) od_in (de_ix hu1 (de_ix hu1 (de_fld (y.cls_Ahead) (y.no_Ahead_kinds) (de_var 0)) (de_var 2)) de_int) (de_ix hu1 (de_glo y.g_KINDS) (de_var 1)))))) dss_nil)))
theorem ok_Ahead_is_named (y : Hy K w mg) : MOk P w K mg base 1 "Ahead" "is_named" ["self", "sort", "name"] F_Ahead_is_named := by
  obtain ⟨fd, FD⟩ := y.c.t.d.def_ 13 (d := d_Ahead_is_named) rfl
  exact ⟨⟨_, fd, fnG_M FD sc_Ahead_is_named fun cdv A outer s H E hr => w_Ahead_is_named y cdv _ A outer s H E hr, FD.bindsN fun _ _ _ _ _ _ us hl => match us, hl with | [_, _, _], _ => rfl, He.meth_ok (y.c.t.d.fact 38 (f := .meth "Ahead" "is_named") rfl), y.cls_Ahead⟩⟩
theorem sc_named_fault : FnScope ["ahead", "member", "sort", "prime", "is_unlike"] ["ahead", "member", "sort", "prime"] (defScope s_named_fault) := ⟨rfl, rfl, rfl, by decide +kernel, rfl, by decide +kernel, by decide +kernel⟩
theorem w_named_fault (y : Hy K w mg) (cdv : Value) (f : Addr) (A : Around) (outer : List PySem.Env) (s : Shared) (H : Hp) (E : XK) (hr : RoomG 1 (A.deeper (envOfC "named_fault" (defScope s_named_fault) s.heap.objs.size f cdv))) :
    PSs (cxOf CX0 P w K mg base ["ahead", "member", "sort", "prime", "is_unlike"] "named_fault" (defScope s_named_fault) f cdv A outer s H E).nox (defBody s_named_fault) (tSt ⟨K, w⟩ X0 m_named_fault) := by
  have S := sc_named_fault
  have hu64 : (A.deeper (envOfC "named_fault" (defScope s_named_fault) s.heap.objs.size f cdv)).units + 64 < cLine := hr.rm.units
  have hu1 : (A.deeper (envOfC "named_fault" (defScope s_named_fault) s.heap.objs.size f cdv)).units + 1 < cLine := by omega
  have hu66 : (A.deeper (envOfC "named_fault" (defScope s_named_fault) s.heap.objs.size f cdv)).units + 66 < cLine := by have := hr.rm.un; omega
  exact (dss_cons (ds_if (dt_not (dt_tru (dc_mth (ok_Ahead_is_named y) hr (de_var 0) (da_cons (de_var 2) (da_cons (de_var 1) da_nil)) (la_cons (la_cons la_nil))))) (dss_cons (ds_ret (de_tup (da_cons (de_tup da_nil) (da_cons (de_var 2) da_nil)))) dss_nil) dss_nil) (dss_cons (ds_set 4 S.nd (de_and (de_cmp (op_eqA hu64) od_eq (de_var 2) (de_glo y.g_LOT)) (de_and (de_cmp op_notN od_isnot (de_var 3) de_non) (de_one (de_cmp (op_neA hu64) od_ne (de_ix hu1 (de_ix hu1 (de_fld (y.cls_Ahead) (y.no_Ahead_kinds) (de_var 0)) (de_var 1)) de_int) (de_var 3)))))) (dss_cons (ds_ret (de_if (dt_tru (de_var 4)) (de_tup (da_cons (de_tup da_nil) (da_cons (de_glo y.g_PRIME) da_nil))) de_non)) dss_nil)))
theorem ok_named_fault (y : Hy K w mg) : DOk P w K mg base 2 "named_fault" ["ahead", "member", "sort", "prime"] F_named_fault := by
  obtain ⟨h, X, G⟩ := y.g
  obtain ⟨fd, FD⟩ := y.c.t.d.def_ 14 (d := d_named_fault) rfl
  exact ⟨⟨_, fd, fnG_M FD sc_named_fault fun cdv A outer s H E hr => w_named_fault y cdv _ A outer s H E hr, FD.bindsN fun _ _ _ _ _ _ us hl => match us, hl with | [_, _, _, _], _ => rfl, FD.kp, He.glo_ok X G (y.c.t.d.fact 12 (f := .glo "named_fault") rfl)⟩⟩
theorem sc_member_fault : FnScope ["ahead", "member", "sort", "prime", "some", "k", "digit"] ["ahead", "member", "sort", "prime"] (defScope s_member_fault) := ⟨rfl, rfl, rfl, by decide +kernel, rfl, by decide +kernel, by decide +kernel⟩
theorem w_member_fault (y : Hy K w mg) (cdv : Value) (f : Addr) (A : Around) (outer : List PySem.Env) (s : Shared) (H : Hp) (E : XK) (hr : RoomG 2 (A.deeper (envOfC "member_fault" (defScope s_member_fault) s.heap.objs.size f cdv))) :
    PSs (cxOf CX0 P w K mg base ["ahead", "member", "sort", "prime", "some", "k", "digit"] "member_fault" (defScope s_member_fault) f cdv A outer s H E).nox (defBody s_member_fault) (tSt ⟨K, w⟩ X0 m_member_fault) := by
  have S := sc_member_fault
  have hu64 : (A.deeper (envOfC "member_fault" (defScope s_member_fault) s.heap.objs.size f cdv)).units + 64 < cLine := hr.rm.units
  have hu1 : (A.deeper (envOfC "member_fault" (defScope s_member_fault) s.heap.objs.size f cdv)).units + 1 < cLine := by omega
  have hu66 : (A.deeper (envOfC "member_fault" (defScope s_member_fault) s.heap.objs.size f cdv)).units + 66 < cLine := by have := hr.rm.un; omega
  exact (dss_cons (ds_if (dt_cmp (op_eqA hu64) od_eq (de_var 2) (de_glo y.g_ANY)) (dss_cons (ds_ret de_non) dss_nil) dss_nil) (dss_cons (ds_if (dt_cmp (op_eqA hu64) od_eq (de_var 2) (de_glo y.g_PRIME)) (dss_cons (ds_ret (de_if (dt_cmp (op_notInA hu1) od_in (de_var 1) (de_glo y.g_PRIMES)) (de_tup (da_cons (de_tup da_nil) (da_cons (de_glo y.g_PRIME) da_nil))) de_non)) dss_nil) dss_nil) (dss_cons (ds_if (dt_cmp (op_eqA hu64) od_eq (de_var 2) (de_glo y.g_NUMBER)) (dss_cons (ds_ret (de_if (dt_cmp (op_eqA hu64) od_eq (de_var 1) de_int) (de_tup (da_cons (de_tup da_nil) (da_cons (de_glo y.g_NUMBER) da_nil))) de_non)) dss_nil) dss_nil) (dss_cons (ds_if (dt_cmp (op_eqA hu64) od_eq (de_var 2) (de_glo y.g_DIGIT)) (dss_cons (ds_ret (de_if (dt_cmp op_ge od_cmp (de_var 1) (de_var 3)) (de_tup (da_cons (de_tup da_nil) (da_cons (de_glo y.g_DIGIT) da_nil))) de_non)) dss_nil) dss_nil) (dss_cons (ds_if (dt_cmp (op_eqA hu64) od_eq (de_var 2) de_str) (dss_cons (ds_setLc [("k", 5), ("digit", 6)] tF_frz rfl S.nd rfl rfl (sw_true rfl rfl rfl rfl) (di_enum y.f_enumerate (da_cons (de_var 1) da_nil)) (blkOk_by (by kernel_rfl)) (fun _ _ _ _ _ => (dg_sq rfl (dgs_cons (dg_nm 5 S.nd) (dgs_cons (dg_nm 6 S.nd) dgs_nil)))) (fun _ _ _ _ _ => (dts_one (dt_cmp op_ge od_cmp (de_var 6) (de_var 3)))) (fun _ _ _ _ _ => (de_var 5))) (dss_cons (ds_ret (de_if (dt_cmp (op_neA hu64) od_ne (de_var 4) (de_frz (df_lst da_nil))) (de_tup (da_cons (de_tup (da_cons (de_ix hu1 (de_var 4) de_int) da_nil)) (da_cons (de_glo y.g_DIGIT) da_nil))) de_non)) dss_nil)) dss_nil) (dss_cons (ds_ret (dc_call (ok_named_fault y) hr (da_cons (de_var 0) (da_cons (de_var 1) (da_cons (de_var 2) (da_cons (de_var 3) da_nil)))) (la_cons (la_cons (la_cons (la_cons la_nil)))))) dss_nil))))))
theorem ok_member_fault (y : Hy K w mg) : DOk P w K mg base 3 "member_fault" ["ahead", "member", "sort", "prime"] F_member_fault := by
  obtain ⟨h, X, G⟩ := y.g
  obtain ⟨fd, FD⟩ := y.c.t.d.def_ 15 (d := d_member_fault) rfl
  exact ⟨⟨_, fd, fnG_M FD sc_member_fault fun cdv A outer s H E hr => w_member_fault y cdv _ A outer s H E hr, FD.bindsN fun _ _ _ _ _ _ us hl => match us, hl with | [_, _, _, _], _ => rfl, FD.kp, He.glo_ok X G (y.c.t.d.fact 13 (f := .glo "member_fault") rfl)⟩⟩
theorem sc_lacking : FnScope ["ahead", "members", "sorts", "prime", "k", "sort", "fault"] ["ahead", "members", "sorts"] (defScope s_lacking) := ⟨rfl, rfl, rfl, by decide +kernel, rfl, by decide +kernel, by decide +kernel⟩
theorem w_lacking (y : Hy K w mg) (cdv : Value) (f : Addr) (A : Around) (outer : List PySem.Env) (s : Shared) (H : Hp) (E : XK) (hr : RoomG 3 (A.deeper (envOfC "lacking" (defScope s_lacking) s.heap.objs.size f cdv))) :
    PSs (cxOf CX0 P w K mg base ["ahead", "members", "sorts", "prime", "k", "sort", "fault"] "lacking" (defScope s_lacking) f cdv A outer s H E).nox (defBody s_lacking) (tSt ⟨K, w⟩ X0 m_lacking) := by
  have S := sc_lacking
  have hu64 : (A.deeper (envOfC "lacking" (defScope s_lacking) s.heap.objs.size f cdv)).units + 64 < cLine := hr.rm.units
  have hu1 : (A.deeper (envOfC "lacking" (defScope s_lacking) s.heap.objs.size f cdv)).units + 1 < cLine := by omega
  have hu66 : (A.deeper (envOfC "lacking" (defScope s_lacking) s.heap.objs.size f cdv)).units + 66 < cLine := by have := hr.rm.un; omega
  exact (dss_cons (ds_set 3 S.nd de_non) (dss_cons (ds_for (vs := [4, 5]) PassesOwn.never rfl (di_enum y.f_enumerate (da_cons (de_var 2) da_nil)) (dg_sq rfl (dgs_cons (dg_nm 4 S.nd) (dgs_cons (dg_nm 5 S.nd) dgs_nil))) (dss_cons (ds_set 6 S.nd (dc_call (ok_member_fault y) hr (da_cons (de_var 0) (da_cons (de_ix hu1 (de_var 1) (de_var 4)) (da_cons (de_var 5) (da_cons (de_var 3) da_nil)))) (la_cons (la_cons (la_cons (la_cons la_nil)))))) (dss_cons (ds_if (dt_cmp op_notN od_isnot (de_var 6) de_non) (dss_cons (ds_ret (de_tup (da_cons (de_tup (da_cons (de_add (de_var 4) de_int) (da_star (de_ix hu1 (de_var 6) de_int) da_nil))) (da_cons (de_ix hu1 (de_var 6) de_int) da_nil)))) dss_nil) dss_nil) (dss_cons (ds_set 3 S.nd (de_if (dt_cmp (op_inA hu1) od_in (de_var 5) (de_tup (da_cons (de_glo y.g_LOT) (da_cons (de_glo y.g_GROWN) da_nil)))) (de_ix hu1 (de_ix hu1 (de_fld (y.cls_Ahead) (y.no_Ahead_kinds) (de_var 0)) (de_ix hu1 (de_var 1) (de_var 4))) de_int) (de_var 3))) dss_nil)))) (dss_cons (ds_ret de_non) dss_nil)))
theorem ok_lacking (y : Hy K w mg) : DOk P w K mg base 4 "lacking" ["ahead", "members", "sorts"] F_lacking := by
  obtain ⟨h, X, G⟩ := y.g
  obtain ⟨fd, FD⟩ := y.c.t.d.def_ 16 (d := d_lacking) rfl
  exact ⟨⟨_, fd, fnG_M FD sc_lacking fun cdv A outer s H E hr => w_lacking y cdv _ A outer s H E hr, FD.bindsN fun _ _ _ _ _ _ us hl => match us, hl with | [_, _, _], _ => rfl, FD.kp, He.glo_ok X G (y.c.t.d.fact 14 (f := .glo "lacking") rfl)⟩⟩
theorem sc_sort_of : FnScope ["word", "some", "sort", "words"] ["word"] (defScope s_sort_of) := ⟨rfl, rfl, rfl, by decide +kernel, rfl, by decide +kernel, by decide +kernel⟩
theorem w_sort_of (y : Hy K w mg) (cdv : Value) (f : Addr) (A : Around) (outer : List PySem.Env) (s : Shared) (H : Hp) (E : XK) (hr : RoomG 0 (A.deeper (envOfC "sort_of" (defScope s_sort_of) s.heap.objs.size f cdv))) :
    PSs (cxOf CX0 P w K mg base ["word", "some", "sort", "words"] "sort_of" (defScope s_sort_of) f cdv A outer s H E).nox (defBody s_sort_of) (tSt ⟨K, w⟩ X0 m_sort_of) := by
  have S := sc_sort_of
  have hu64 : (A.deeper (envOfC "sort_of" (defScope s_sort_of) s.heap.objs.size f cdv)).units + 64 < cLine := hr.rm.units
  have hu1 : (A.deeper (envOfC "sort_of" (defScope s_sort_of) s.heap.objs.size f cdv)).units + 1 < cLine := by omega
  have hu66 : (A.deeper (envOfC "sort_of" (defScope s_sort_of) s.heap.objs.size f cdv)).units + 66 < cLine := by have := hr.rm.un; omega
  exact (dss_cons (ds_setLc [("sort", 2), ("words", 3)] tF_frz rfl S.nd rfl rfl (sw_true rfl rfl rfl rfl) (di_itemsG (de_glo y.g_SORTS)) (blkOk_by (by kernel_rfl)) (fun _ _ _ _ _ => (dg_sq rfl (dgs_cons (dg_nm 2 S.nd) (dgs_cons (dg_nm 3 S.nd) dgs_nil)))) (fun _ _ _ _ _ => (dts_one (dt_cmp (op_inA hu1) od_in (de_var 0) (de_var 3)))) (fun _ _ _ _ _ => (de_var 2))) (dss_cons (ds_ret (de_if (dt_cmp (op_neA hu64) od_ne (de_var 1) (de_frz (df_lst da_nil))) (de_ix hu1 (de_var 1) de_int) de_non)) dss_nil))
theorem ok_sort_of (y : Hy K w mg) : DOk P w K mg base 1 "sort_of" ["word"] F_sort_of := by
  obtain ⟨h, X, G⟩ := y.g
  obtain ⟨fd, FD⟩ := y.c.t.d.def_ 17 (d := d_sort_of) rfl
  exact ⟨⟨_, fd, fnG_M FD sc_sort_of fun cdv A outer s H E hr => w_sort_of y cdv _ A outer s H E hr, FD.bindsN fun _ _ _ _ _ _ us hl => match us, hl with | [_], _ => rfl, FD.kp, He.glo_ok X G (y.c.t.d.fact 15 (f := .glo "sort_of") rfl)⟩⟩
theorem sc_wrong_lot : FnScope ["ahead", "item", "told", "fault"] ["ahead", "item"] (defScope s_wrong_lot) := ⟨rfl, rfl, rfl, by decide +kernel, rfl, by decide +kernel, by decide +kernel⟩
theorem w_wrong_lot (y : Hy K w mg) (cdv : Value) (f : Addr) (A : Around) (outer : List PySem.Env) (s : Shared) (H : Hp) (E : XK) (hr : RoomG 4 (A.deeper (envOfC "wrong_lot" (defScope s_wrong_lot) s.heap.objs.size f cdv))) :
    PSs (cxOf CX0 P w K mg base ["ahead", "item", "told", "fault"] "wrong_lot" (defScope s_wrong_lot) f cdv A outer s H E).nox (defBody s_wrong_lot) (tSt ⟨K, w⟩ X0 m_wrong_lot) := by
  have S := sc_wrong_lot
  have hu64 : (A.deeper (envOfC "wrong_lot" (defScope s_wrong_lot) s.heap.objs.size f cdv)).units + 64 < cLine := hr.rm.units
  have hu1 : (A.deeper (envOfC "wrong_lot" (defScope s_wrong_lot) s.heap.objs.size f cdv)).units + 1 < cLine := by omega
  have hu66 : (A.deeper (envOfC "wrong_lot" (defScope s_wrong_lot) s.heap.objs.size f cdv)).units + 66 < cLine := by have := hr.rm.un; omega
  exact (dss_cons (ds_if (dt_cmp (op_notInA hu1) od_in (de_ix hu1 (de_var 1) de_int) (de_glo y.g_PRIMES)) (dss_cons (ds_ret (de_tup (da_cons (de_tup (da_cons de_int da_nil)) (da_cons (de_glo y.g_PRIME) da_nil)))) dss_nil) dss_nil) (dss_cons (ds_set 2 S.nd (de_ix hu1 (de_var 1) de_int)) (dss_cons (ds_set 3 S.nd (dc_call (ok_lacking y) hr (da_cons (de_var 0) (da_cons (de_slA (de_var 2) (do_some de_int) do_none) (da_cons (de_ix hu1 (de_glo y.g_LOTS) (de_ix hu1 (de_var 2) de_int)) da_nil))) (la_cons (la_cons (la_cons la_nil))))) (dss_cons (ds_if (dt_cmp op_notN od_isnot (de_var 3) de_non) (dss_cons (ds_ret (de_tup (da_cons (de_tup (da_cons de_int (da_star (de_ix hu1 (de_var 3) de_int) da_nil))) (da_cons (de_ix hu1 (de_var 3) de_int) da_nil)))) dss_nil) dss_nil) (dss_cons (ds_if (PW.pt (dw_and (dt_cmp (op_eqA hu64) od_eq (de_ix hu1 (de_var 2) de_int) de_str) (dw_one (.inl rfl) (dt_not (dt_chain op_lt od_cmp op_le od_cmp de_int (de_ix hu1 (de_var 2) de_int) (de_glo y.g_MOST_OF)))))) (dss_cons (ds_ret (de_tup (da_cons (de_tup (da_cons de_int (da_cons de_int da_nil))) (da_cons (de_glo y.g_NUMBER) da_nil)))) dss_nil) dss_nil) (dss_cons (ds_ret (de_if (PW.pt (dw_and (dt_cmp (op_eqA hu64) od_eq (de_ix hu1 (de_var 2) de_int) de_str) (dw_one (.inl rfl) (dt_cmp op_ge od_cmp (de_ix hu1 (de_var 2) de_int) (de_ix hu1 (de_var 2) de_int))))) (de_tup (da_cons (de_tup (da_cons de_int (da_cons de_int da_nil))) (da_cons (de_glo y.g_NUMBER) da_nil))) de_non)) dss_nil))))))
theorem ok_wrong_lot (y : Hy K w mg) : DOk P w K mg base 5 "wrong_lot" ["ahead", "item"] F_wrong_lot := by
  obtain ⟨h, X, G⟩ := y.g
  obtain ⟨fd, FD⟩ := y.c.t.d.def_ 18 (d := d_wrong_lot) rfl
  exact ⟨⟨_, fd, fnG_M FD sc_wrong_lot fun cdv A outer s H E hr => w_wrong_lot y cdv _ A outer s H E hr, FD.bindsN fun _ _ _ _ _ _ us hl => match us, hl with | [_, _], _ => rfl, FD.kp, He.glo_ok X G (y.c.t.d.fact 16 (f := .glo "wrong_lot") rfl)⟩⟩
theorem sc_numbers_of : FnScope ["terms", "found", "number", "power"] ["terms"] (defScope s_numbers_of) := ⟨rfl, rfl, rfl, by decide +kernel, rfl, by decide +kernel, by decide +kernel⟩
theorem w_numbers_of (y : Hy K w mg) (cdv : Value) (f : Addr) (A : Around) (outer : List PySem.Env) (s : Shared) (H : Hp) (E : XK) (hr : RoomG 0 (A.deeper (envOfC "numbers_of" (defScope s_numbers_of) s.heap.objs.size f cdv))) :
    PSs (cxOf CX0 P w K mg base ["terms", "found", "number", "power"] "numbers_of" (defScope s_numbers_of) f cdv A outer s H E).nox (defBody s_numbers_of) (tSt ⟨K, w⟩ X0 m_numbers_of) := by
  have S := sc_numbers_of
  have hu64 : (A.deeper (envOfC "numbers_of" (defScope s_numbers_of) s.heap.objs.size f cdv)).units + 64 < cLine := hr.rm.units
  have hu1 : (A.deeper (envOfC "numbers_of" (defScope s_numbers_of) s.heap.objs.size f cdv)).units + 1 < cLine := by omega
  have hu66 : (A.deeper (envOfC "numbers_of" (defScope s_numbers_of) s.heap.objs.size f cdv)).units + 66 < cLine := by have := hr.rm.un; omega
  exact (dss_cons (ds_set 1 S.nd (de_own (df_rep (de_frz (df_lst (da_cons de_int da_nil))) (de_add (de_glo y.g_MOST_POWER) de_int)))) (dss_cons (ds_for (vs := [2, 3]) PassesOwn.never rfl (di_seq (de_var 0)) (dg_sq rfl (dgs_cons (dg_nm 2 S.nd) (dgs_cons (dg_nm 3 S.nd) dgs_nil))) (dss_cons (ds_augS hu1 iop_add od_addI (de_var 1) (de_var 3) (de_var 2)) dss_nil)) (dss_cons (ds_while PassesOwn.never (PW.pt (dw_and (dt_cmp (op_neA hu64) od_ne (de_var 1) (de_frz (df_lst da_nil))) (dw_one (.inl rfl) (dt_cmp (op_eqA hu64) od_eq (de_ix hu1 (de_var 1) (de_neg de_int)) de_int)))) (dss_cons (ds_expr (de_mt0 F.plainAttrs_list F.slot_list_pop F.type_list_pop mt_pop md_pop (de_var 1))) dss_nil)) (dss_cons (ds_give 1 (ds_ret (de_ct call_tuple_of cd_tuple y.f_tuple boot_tuple (da_cons (de_var 1) da_nil)))) dss_nil))))
theorem ok_numbers_of (y : Hy K w mg) : DOk P w K mg base 1 "numbers_of" ["terms"] F_numbers_of := by
  obtain ⟨h, X, G⟩ := y.g
  obtain ⟨fd, FD⟩ := y.c.t.d.def_ 19 (d := d_numbers_of) rfl
  exact ⟨⟨_, fd, fnG_M FD sc_numbers_of fun cdv A outer s H E hr => w_numbers_of y cdv _ A outer s H E hr, FD.bindsN fun _ _ _ _ _ _ us hl => match us, hl with | [_], _ => rfl, FD.kp, He.glo_ok X G (y.c.t.d.fact 17 (f := .glo "numbers_of") rfl)⟩⟩
theorem sc_wrong_poly : FnScope ["item", "k", "terms", "times"] ["item"] (defScope s_wrong_poly) := ⟨rfl, rfl, rfl, by decide +kernel, rfl, by decide +kernel, by decide +kernel⟩
theorem w_wrong_poly (y : Hy K w mg) (cdv : Value) (f : Addr) (A : Around) (outer : List PySem.Env) (s : Shared) (H : Hp) (E : XK) (hr : RoomG 1 (A.deeper (envOfC "wrong_poly" (defScope s_wrong_poly) s.heap.objs.size f cdv))) :
    PSs (cxOf CX0 P w K mg base ["item", "k", "terms", "times"] "wrong_poly" (defScope s_wrong_poly) f cdv A outer s H E).nox (defBody s_wrong_poly) (tSt ⟨K, w⟩ X0 m_wrong_poly) := by
  have S := sc_wrong_poly
  have hu64 : (A.deeper (envOfC "wrong_poly" (defScope s_wrong_poly) s.heap.objs.size f cdv)).units + 64 < cLine := hr.rm.units
  have hu1 : (A.deeper (envOfC "wrong_poly" (defScope s_wrong_poly) s.heap.objs.size f cdv)).units + 1 < cLine := by omega
  have hu66 : (A.deeper (envOfC "wrong_poly" (defScope s_wrong_poly) s.heap.objs.size f cdv)).units + 66 < cLine := by have := hr.rm.un; omega
  exact (dss_cons (ds_for (vs := [1, 2, 3]) PassesOwn.never rfl (di_enum y.f_enumerate (da_cons (de_ix hu1 (de_var 0) de_int) da_nil)) (dg_sq rfl (dgs_cons (dg_nm 1 S.nd) (dgs_cons (dg_sq rfl (dgs_cons (dg_nm 2 S.nd) (dgs_cons (dg_nm 3 S.nd) dgs_nil))) dgs_nil))) (dss_cons (ds_if (dt_cmp (op_eqA hu64) od_eq (dc_callP (ok_numbers_of y) hr (da_cons (de_var 2) da_nil) (la_cons la_nil)) (de_tup da_nil)) (dss_cons (ds_ret (de_tup (da_cons (de_tup (da_cons de_int (da_cons (de_var 1) (da_cons de_int da_nil)))) (da_cons (de_glo y.g_POLY) da_nil)))) dss_nil) dss_nil) (dss_cons (ds_if (dt_cmp (op_eqA hu64) od_eq (de_var 3) de_int) (dss_cons (ds_ret (de_tup (da_cons (de_tup (da_cons de_int (da_cons (de_var 1) (da_cons de_int da_nil)))) (da_cons (de_glo y.g_NUMBER) da_nil)))) dss_nil) dss_nil) dss_nil))) (dss_cons (ds_ret de_non) dss_nil))
theorem ok_wrong_poly (y : Hy K w mg) : DOk P w K mg base 2 "wrong_poly" ["item"] F_wrong_poly := by
  obtain ⟨h, X, G⟩ := y.g
  obtain ⟨fd, FD⟩ := y.c.t.d.def_ 20 (d := d_wrong_poly) rfl
  exact ⟨⟨_, fd, fnG_M FD sc_wrong_poly fun cdv A outer s H E hr => w_wrong_poly y cdv _ A outer s H E hr, FD.bindsN fun _ _ _ _ _ _ us hl => match us, hl with | [_], _ => rfl, FD.kp, He.glo_ok X G (y.c.t.d.fact 18 (f := .glo "wrong_poly") rfl)⟩⟩
theorem sc_wrong_making : FnScope ["ahead", "item", "sorts", "fault"] ["ahead", "item"] (defScope s_wrong_making) := ⟨rfl, rfl, rfl, by decide +kernel, rfl, by decide +kernel, by decide +kernel⟩
theorem w_wrong_making (y : Hy K w mg) (cdv : Value) (f : Addr) (A : Around) (outer : List PySem.Env) (s : Shared) (H : Hp) (E : XK) (hr : RoomG 5 (A.deeper (envOfC "wrong_making" (defScope s_wrong_making) s.heap.objs.size f cdv))) :
    PSs (cxOf CX0 P w K mg base ["ahead", "item", "sorts", "fault"] "wrong_making" (defScope s_wrong_making) f cdv A outer s H E).nox (defBody s_wrong_making) (tSt ⟨K, w⟩ X0 m_wrong_making) := by
  have S := sc_wrong_making
  have hu64 : (A.deeper (envOfC "wrong_making" (defScope s_wrong_making) s.heap.objs.size f cdv)).units + 64 < cLine := hr.rm.units
  have hu1 : (A.deeper (envOfC "wrong_making" (defScope s_wrong_making) s.heap.objs.size f cdv)).units + 1 < cLine := by omega
  have hu66 : (A.deeper (envOfC "wrong_making" (defScope s_wrong_making) s.heap.objs.size f cdv)).units + 66 < cLine := by have := hr.rm.un; omega
  exact (dss_cons (ds_if (dt_cmp (op_eqA hu64) od_eq (de_ix hu1 (de_var 1) de_int) (de_glo y.g_POLY)) (dss_cons (ds_ret (dc_callP (ok_wrong_poly y) hr (da_cons (de_var 1) da_nil) (la_cons la_nil))) dss_nil) dss_nil) (dss_cons (ds_if (dt_cmp (op_eqA hu64) od_eq (de_ix hu1 (de_var 1) de_int) (de_glo y.g_LOT)) (dss_cons (ds_ret (dc_call (ok_wrong_lot y) hr (da_cons (de_var 0) (da_cons (de_var 1) da_nil)) (la_cons (la_cons la_nil)))) dss_nil) dss_nil) (dss_cons (ds_if (dt_cmp (op_eqA hu64) od_eq (de_ix hu1 (de_var 1) de_int) (de_glo y.g_GROW)) (dss_cons (ds_ret (de_if (dt_tru (dc_mth (ok_Ahead_is_named y) hr (de_var 0) (da_cons (de_glo y.g_LOT) (da_cons (de_ix hu1 (de_var 1) de_int) da_nil)) (la_cons (la_cons la_nil)))) de_non (de_tup (da_cons (de_tup (da_cons de_int da_nil)) (da_cons (de_glo y.g_LOT) da_nil))))) dss_nil) dss_nil) (dss_cons (ds_set 2 S.nd (de_if (dt_cmp (op_eqA hu64) od_eq (de_ix hu1 (de_var 1) de_int) de_str) (de_ix hu1 (de_glo y.g_PIPES) (de_ix hu1 (de_ix hu1 (de_var 1) de_int) de_int)) (de_ix hu1 (de_glo y.g_PROMISES) (de_ix hu1 (de_ix hu1 (de_var 1) de_int) de_int)))) (dss_cons (ds_set 3 S.nd (dc_call (ok_lacking y) hr (da_cons (de_var 0) (da_cons (de_slA (de_ix hu1 (de_var 1) de_int) (do_some de_int) do_none) (da_cons (de_var 2) da_nil))) (la_cons (la_cons (la_cons la_nil))))) (dss_cons (ds_ret (de_if (dt_cmp op_notN od_isnot (de_var 3) de_non) (de_tup (da_cons (de_tup (da_cons de_int (da_star (de_ix hu1 (de_var 3) de_int) da_nil))) (da_cons (de_ix hu1 (de_var 3) de_int) da_nil))) de_non)) dss_nil))))))
theorem ok_wrong_making (y : Hy K w mg) : DOk P w K mg base 6 "wrong_making" ["ahead", "item"] F_wrong_making := by
  obtain ⟨h, X, G⟩ := y.g
  obtain ⟨fd, FD⟩ := y.c.t.d.def_ 21 (d := d_wrong_making) rfl
  exact ⟨⟨_, fd, fnG_M FD sc_wrong_making fun cdv A outer s H E hr => w_wrong_making y cdv _ A outer s H E hr, FD.bindsN fun _ _ _ _ _ _ us hl => match us, hl with | [_, _], _ => rfl, FD.kp, He.glo_ok X G (y.c.t.d.fact 19 (f := .glo "wrong_making") rfl)⟩⟩
theorem sc_wrong_use : FnScope ["session", "number", "sort", "item", "ahead"] ["session", "number"] (defScope s_wrong_use) := ⟨rfl, rfl, rfl, by decide +kernel, rfl, by decide +kernel, by decide +kernel⟩
theorem w_wrong_use (y : Hy K w mg) (cdv : Value) (f : Addr) (A : Around) (outer : List PySem.Env) (s : Shared) (H : Hp) (E : XK) (hr : RoomG 6 (A.deeper (envOfC "wrong_use" (defScope s_wrong_use) s.heap.objs.size f cdv))) :
    PSs (cxOf CX0 P w K mg base ["session", "number", "sort", "item", "ahead"] "wrong_use" (defScope s_wrong_use) f cdv A outer s H E).nox (defBody s_wrong_use) (tSt ⟨K, w⟩ X0 m_wrong_use) := by
  have S := sc_wrong_use
  have hu64 : (A.deeper (envOfC "wrong_use" (defScope s_wrong_use) s.heap.objs.size f cdv)).units + 64 < cLine := hr.rm.units
  have hu1 : (A.deeper (envOfC "wrong_use" (defScope s_wrong_use) s.heap.objs.size f cdv)).units + 1 < cLine := by omega
  have hu66 : (A.deeper (envOfC "wrong_use" (defScope s_wrong_use) s.heap.objs.size f cdv)).units + 66 < cLine := by have := hr.rm.un; omega
  exact (dss_cons (ds_par 3 4 rfl S.nd (da_cons (de_ix hu1 (de_var 0) (de_var 1)) (da_cons (dc_make (cok_Ahead y) hr (da_cons (de_var 0) (da_cons (de_var 1) da_nil)) (la_cons (la_cons la_nil))) da_nil))) (dss_cons (ds_set 2 S.nd (dc_callP (ok_sort_of y) hr (da_cons (de_ix hu1 (de_var 3) de_int) da_nil) (la_cons la_nil))) (dss_cons (ds_if (dt_cmp op_isN od_is (de_var 2) de_non) (dss_cons (ds_ret (dc_call (ok_lacking y) hr (da_cons (de_var 4) (da_cons (de_slA (de_var 3) (do_some de_int) do_none) (da_cons (de_ix hu1 (de_glo y.g_ASKS) (de_ix hu1 (de_var 3) de_int)) da_nil))) (la_cons (la_cons (la_cons la_nil))))) dss_nil) dss_nil) (dss_cons (ds_if (dt_cmp (op_inA hu1) od_in (de_ix hu1 (de_var 3) de_int) (dc_call (ok_things_ahead y) hr (da_cons (de_var 0) (da_cons (de_var 1) (da_cons (de_ix hu1 (de_glo y.g_SORTS) (de_var 2)) da_nil))) (la_cons (la_cons (la_cons la_nil))))) (dss_cons (ds_ret (de_tup (da_cons (de_tup (da_cons de_int da_nil)) (da_cons de_str da_nil)))) dss_nil) dss_nil) (dss_cons (ds_ret (dc_call (ok_wrong_making y) hr (da_cons (de_var 4) (da_cons (de_var 3) da_nil)) (la_cons (la_cons la_nil)))) dss_nil)))))
theorem ok_wrong_use (y : Hy K w mg) : DOk P w K mg base 7 "wrong_use" ["session", "number"] F_wrong_use := by
  obtain ⟨h, X, G⟩ := y.g
  obtain ⟨fd, FD⟩ := y.c.t.d.def_ 22 (d := d_wrong_use) rfl
  exact ⟨⟨_, fd, fnG_M FD sc_wrong_use fun cdv A outer s H E hr => w_wrong_use y cdv _ A outer s H E hr, FD.bindsN fun _ _ _ _ _ _ us hl => match us, hl with | [_, _], _ => rfl, FD.kp, He.glo_ok X G (y.c.t.d.fact 20 (f := .glo "wrong_use") rfl)⟩⟩
theorem sc_wrong_item : FnScope ["session", "number", "fault"] ["session"] (defScope s_wrong_item) := ⟨rfl, rfl, rfl, by decide +kernel, rfl, by decide +kernel, by decide +kernel⟩
theorem w_wrong_item (y : Hy K w mg) (cdv : Value) (f : Addr) (A : Around) (outer : List PySem.Env) (s : Shared) (H : Hp) (E : XK) (hr : RoomG 7 (A.deeper (envOfC "wrong_item" (defScope s_wrong_item) s.heap.objs.size f cdv))) :
    PSs (cxOf CX0 P w K mg base ["session", "number", "fault"] "wrong_item" (defScope s_wrong_item) f cdv A outer s H E).nox (defBody s_wrong_item) (tSt ⟨K, w⟩ X0 m_wrong_item) := by
  have S := sc_wrong_item
  have hu64 : (A.deeper (envOfC "wrong_item" (defScope s_wrong_item) s.heap.objs.size f cdv)).units + 64 < cLine := hr.rm.units
  have hu1 : (A.deeper (envOfC "wrong_item" (defScope s_wrong_item) s.heap.objs.size f cdv)).units + 1 < cLine := by omega
  have hu66 : (A.deeper (envOfC "wrong_item" (defScope s_wrong_item) s.heap.objs.size f cdv)).units + 66 < cLine := by have := hr.rm.un; omega
  exact (dss_cons (ds_for (vs := [1]) PassesOwn.never rfl (di_range1 y.f_range (da_cons (de_cb call_lenA cd_len y.f_len boot_len (da_cons (de_var 0) da_nil)) da_nil)) (dg_nm 1 S.nd) (dss_cons (ds_set 2 S.nd (dc_callP (ok_wrong_use y) hr (da_cons (de_var 0) (da_cons (de_var 1) da_nil)) (la_cons (la_cons la_nil)))) (dss_cons (ds_if (dt_cmp op_notN od_isnot (de_var 2) de_non) (dss_cons (ds_ret (de_tup (da_cons (de_var 1) (da_cons (de_ix hu1 (de_var 2) de_int) (da_cons (de_ix hu1 (de_var 2) de_int) da_nil))))) dss_nil) dss_nil) dss_nil))) (dss_cons (ds_ret de_non) dss_nil))
theorem ok_wrong_item (y : Hy K w mg) : DOk P w K mg base 8 "wrong_item" ["session"] F_wrong_item := by
  obtain ⟨h, X, G⟩ := y.g
  obtain ⟨fd, FD⟩ := y.c.t.d.def_ 23 (d := d_wrong_item) rfl
  exact ⟨⟨_, fd, fnG_M FD sc_wrong_item fun cdv A outer s H E hr => w_wrong_item y cdv _ A outer s H E hr, FD.bindsN fun _ _ _ _ _ _ us hl => match us, hl with | [_], _ => rfl, FD.kp, He.glo_ok X G (y.c.t.d.fact 21 (f := .glo "wrong_item") rfl)⟩⟩
theorem sc_law : FnScope ["script", "source", "lap", "items", "number", "behind", "told", "kinds", "polys", "lots", "due", "name", "session", "many", "way", "factors", "fault", "item", "prime"] ["script"] (defScope s_law) := ⟨rfl, rfl, rfl, by decide +kernel, rfl, by decide +kernel, by decide +kernel⟩
theorem w_law (y : Hy K w mg) (cdv : Value) (f : Addr) (A : Around) (outer : List PySem.Env) (s : Shared) (H : Hp) (E : XK) (hr : RoomG 8 (A.deeper (envOfC "law" (defScope s_law) s.heap.objs.size f cdv))) :
    PSs (cxOf CX0 P w K mg base ["script", "source", "lap", "items", "number", "behind", "told", "kinds", "polys", "lots", "due", "name", "session", "many", "way", "factors", "fault", "item", "prime"] "law" (defScope s_law) f cdv A outer s H E).nox (defBody s_law) (tSt ⟨K, w⟩ X0 m_law) := by
  have S := sc_law
  have hu64 : (A.deeper (envOfC "law" (defScope s_law) s.heap.objs.size f cdv)).units + 64 < cLine := hr.rm.units
  have hu1 : (A.deeper (envOfC "law" (defScope s_law) s.heap.objs.size f cdv)).units + 1 < cLine := by omega
  have hu66 : (A.deeper (envOfC "law" (defScope s_law) s.heap.objs.size f cdv)).units + 66 < cLine := by have := hr.rm.un; omega
  exact (dss_cons (ds_set 1 S.nd (dc_call (ok__law_source y) hr (da_cons (de_var 0) da_nil) (la_cons la_nil))) (dss_cons (ds_for (vs := [2]) PassesOwn.never rfl (di_range1 y.f_range (da_cons de_int da_nil)) (dg_nm 2 S.nd) (dss_cons (ds_set 3 S.nd (de_own (df_lst (da_cons (de_tup (da_cons de_str (da_cons de_str (da_cons (de_tup (da_cons (de_tup (da_cons (de_tup (da_cons (de_tup (da_cons de_int (da_cons de_int da_nil))) da_nil)) (da_cons de_int da_nil))) da_nil)) da_nil)))) (da_cons (de_tup (da_cons de_str (da_cons de_str (da_cons de_int (da_cons (de_tup (da_cons de_str (da_cons de_str (da_cons de_int da_nil)))) da_nil))))) da_nil))))) (dss_cons (ds_expr (de_mt F.plainAttrs_list F.slot_list_append F.type_list_append mt_append md_append (de_var 3) (da_cons (de_tup (da_cons de_str (da_cons de_str (da_cons de_int (da_cons (de_tup (da_cons de_str (da_cons de_str (da_cons de_int da_nil)))) da_nil))))) da_nil))) (dss_cons (ds_asg (vs := [8, 9, 10]) (de_tup (da_cons (de_locK (dk_disp (pps_cons de_str (de_ix hu1 (de_var 3) de_int) pps_nil))) (da_cons (de_locK (dk_disp (pps_cons de_str de_int (pps_cons de_str de_int pps_nil)))) (da_cons de_non da_nil)))) (dg_sq rfl (dgs_cons (dg_nm 8 S.nd) (dgs_cons (dg_nm 9 S.nd) (dgs_cons (dg_nm 10 S.nd) dgs_nil))))) (dss_cons (ds_for (vs := [4]) PassesOwn.never rfl (di_range2 y.f_range (da_cons de_int (da_cons de_int da_nil))) (dg_nm 4 S.nd) (dss_cons (ds_par 14 11 rfl S.nd (da_cons (dc_call (ok__law_pick y) hr (da_cons (de_var 1) (da_cons de_int da_nil)) (la_cons (la_cons la_nil))) (da_cons (de_add (dc_call (ok__law_of y) hr (da_cons (de_var 1) (da_cons (de_frz (df_lst (da_cons de_str (da_cons de_str (da_cons de_str (da_cons de_str (da_cons de_str (da_cons de_str da_nil)))))))) da_nil)) (la_cons (la_cons la_nil))) (de_ct call_str_int cd_str y.f_str boot_str (da_cons (de_var 4) da_nil))) da_nil))) (dss_cons (ds_set 11 S.nd (de_if (PW.pt (dw_and (dt_cmp (op_neA hu64) od_ne (de_ix hu1 (de_var 11) de_int) de_str) (dw_one (.inl rfl) (dt_cmp (op_eqA hu64) od_eq (dc_call (ok__law_pick y) hr (da_cons (de_var 1) (da_cons de_int da_nil)) (la_cons (la_cons la_nil))) de_int)))) (de_slA (de_var 11) do_none (do_some de_int)) (de_var 11))) (dss_cons (ds_if (dt_cmp (op_eqA hu64) od_eq (de_var 14) de_int) (dss_cons (ds_asg (vs := [15, 16]) (dc_call (ok__law_poly y) hr (da_cons (de_var 1) da_nil) (la_cons la_nil)) (dg_sq rfl (dgs_cons (dg_nm 15 S.nd) (dgs_cons (dg_nm 16 S.nd) dgs_nil)))) (dss_cons (ds_par 17 16 rfl S.nd (da_cons (de_tup (da_cons de_str (da_cons (de_var 11) (da_cons (de_var 15) da_nil)))) (da_cons (de_if (dt_cmp (op_inA hu1) od_in (de_var 11) (de_var 8)) (de_tup (da_cons (de_tup (da_cons de_int da_nil)) (da_cons de_str da_nil))) (de_var 16)) da_nil))) dss_nil)) (dss_cons (ds_if (dt_cmp (op_eqA hu64) od_eq (de_var 14) de_int) (dss_cons (ds_asg (vs := [18, 6, 16]) (dc_call (ok__law_lot y) hr (da_cons (de_var 1) (da_cons (de_var 8) da_nil)) (la_cons (la_cons la_nil))) (dg_sq rfl (dgs_cons (dg_nm 18 S.nd) (dgs_cons (dg_nm 6 S.nd) (dgs_cons (dg_nm 16 S.nd) dgs_nil))))) (dss_cons (ds_par 17 16 rfl S.nd (da_cons (de_tup (da_cons de_str (da_cons (de_var 11) (da_cons (de_var 18) (da_cons (de_var 6) da_nil))))) (da_cons (de_if (dt_cmp (op_inA hu1) od_in (de_var 11) (de_var 9)) (de_tup (da_cons (de_tup (da_cons de_int da_nil)) (da_cons de_str da_nil))) (de_var 16)) da_nil))) dss_nil)) (dss_cons (ds_asg (vs := [6, 16, 18]) (dc_call (ok__law_pipe y) hr (da_cons (de_var 1) (da_cons (de_var 9) da_nil)) (la_cons (la_cons la_nil))) (dg_sq rfl (dgs_cons (dg_nm 6 S.nd) (dgs_cons (dg_nm 16 S.nd) (dgs_cons (dg_nm 18 S.nd) dgs_nil))))) (dss_cons (ds_par 17 16 rfl S.nd (da_cons (de_tup (da_cons de_str (da_cons (de_var 11) (da_cons (de_var 6) da_nil)))) (da_cons (de_if (dt_cmp (op_inA hu1) od_in (de_var 11) (de_var 9)) (de_tup (da_cons (de_tup (da_cons de_int da_nil)) (da_cons de_str da_nil))) (de_var 16)) da_nil))) dss_nil))) dss_nil)) (dss_cons (ds_expr (de_mt F.plainAttrs_list F.slot_list_append F.type_list_append mt_append md_append (de_var 3) (da_cons (de_var 17) da_nil))) (dss_cons (ds_if (dt_cmp op_notN od_isnot (de_var 16) de_non) (dss_cons (ds_set 10 S.nd (de_add (de_tup (da_cons (de_var 4) da_nil)) (de_var 16))) (dss_cons ds_brk dss_nil)) dss_nil) (dss_cons (ds_if (dt_cmp (op_eqA hu64) od_eq (de_var 14) de_int) (dss_cons (ds_asg (vs := []) (de_var 17) (dg_sub hu1 (de_var 8) (de_var 11))) dss_nil) (dss_cons (ds_asg (vs := []) (de_var 18) (dg_sub hu1 (de_var 9) (de_var 11))) dss_nil)) dss_nil))))))) (dss_cons (ds_par 12 13 rfl S.nd (da_cons (de_ct call_tuple_of cd_tuple y.f_tuple boot_tuple (da_cons (de_var 3) da_nil)) (da_cons (de_sub (de_cb call_lenA cd_len y.f_len boot_len (da_cons (de_var 3) da_nil)) (de_ct call_int1 cd_int y.f_int boot_int (da_cons (de_cmp op_notN od_isnot (de_var 10) de_non) da_nil))) da_nil))) (dss_cons (ds_set 5 S.nd (de_if (dt_cmp op_notN od_isnot (de_var 10) de_non) (de_tup (da_cons (de_tup (da_cons de_str (da_cons de_str da_nil))) (da_cons (de_tup (da_cons de_str (da_cons de_str (da_cons de_int (da_cons (de_tup (da_cons de_str (da_cons de_str (da_cons de_int da_nil)))) da_nil))))) (da_cons (de_tup (da_cons de_str (da_cons de_str da_nil))) da_nil)))) (de_tup da_nil))) (dss_cons (ds_if (dt_cmp (op_neA hu64) od_ne (de_cb (call_reprA hr.gd hu66 y.sys) cd_repr y.f_repr boot_repr (da_cons (dc_callP (ok_wrong_item y) hr (da_cons (de_add (de_var 12) (de_var 5)) da_nil) (la_cons la_nil)) da_nil)) (de_cb (call_reprA hr.gd hu66 y.sys) cd_repr y.f_repr boot_repr (da_cons (de_var 10) da_nil))) (dss_cons (ds_ret de_bl) dss_nil) dss_nil) (dss_cons (ds_if (dt_cmp (op_neA hu64) od_ne (de_cb (call_reprA hr.gd hu66 y.sys) cd_repr y.f_repr boot_repr (da_cons (de_frz (df_litems rfl y.f_list boot_list (dc_call (ok_told_polys y) hr (da_cons (de_var 12) (da_cons (de_var 13) da_nil)) (la_cons (la_cons la_nil))))) da_nil)) (de_cb (call_reprA hr.gd hu66 y.sys) cd_repr y.f_repr boot_repr (da_cons (de_frz (df_litems rfl y.f_list boot_list (de_var 8))) da_nil))) (dss_cons (ds_ret de_bl) dss_nil) dss_nil) (dss_cons (ds_set 6 S.nd (dc_call (ok_told_items y) hr (da_cons (de_var 12) (da_cons (de_var 13) da_nil)) (la_cons (la_cons la_nil)))) (dss_cons (ds_if (dt_cmp (op_neA hu64) od_ne (de_frz (df_ct (call_listA rfl) cf_list y.f_list boot_list (da_cons (de_var 6) da_nil))) (de_frz (df_ct (call_listA rfl) cf_list y.f_list boot_list (da_cons (de_var 9) da_nil)))) (dss_cons (ds_ret de_bl) dss_nil) dss_nil) (dss_cons (ds_lock 9 (ds_setLc [("name", 11)] tF_frz rfl S.nd rfl rfl (sw_true rfl rfl rfl rfl) (di_keys (de_var 9)) (blkOk_by (by kernel_rfl)) (fun _ _ _ _ _ => (dg_nm 11 S.nd)) (fun _ _ _ _ _ => dts_nil) (fun _ _ _ _ _ => (de_tup (da_cons (de_var 11) (da_cons (de_tup (da_cons (de_if (dt_cmp (op_eqA hu64) od_eq (de_ix hu1 (de_ix hu1 (de_var 6) (de_var 11)) de_int) de_str) de_str de_str) (da_cons (de_ix hu1 (de_var 9) (de_var 11)) da_nil))) da_nil)))))) (dss_cons (ds_if (dt_cmp (op_neA hu64) od_ne (de_cb (call_reprA hr.gd hu66 y.sys) cd_repr y.f_repr boot_repr (da_cons (de_frz (df_litems rfl y.f_list boot_list (dc_call (ok_made_kinds y) hr (da_cons (de_var 12) (da_cons (de_var 13) da_nil)) (la_cons (la_cons la_nil))))) da_nil)) (de_cb (call_reprA hr.gd hu66 y.sys) cd_repr y.f_repr boot_repr (da_cons (de_var 7) da_nil))) (dss_cons (ds_ret de_bl) dss_nil) dss_nil) dss_nil))))))))))))) (dss_cons (ds_ret de_bl) dss_nil)))
theorem ok_law (y : Hy K w mg) : DOk P w K mg base 9 "law" ["script"] F_law := by
  obtain ⟨h, X, G⟩ := y.g
  obtain ⟨fd, FD⟩ := y.c.t.d.def_ 24 (d := d_law) rfl
  exact ⟨⟨_, fd, fnG_M FD sc_law fun cdv A outer s H E hr => w_law y cdv _ A outer s H E hr, FD.bindsN fun _ _ _ _ _ _ us hl => match us, hl with | [_], _ => rfl, FD.kp, He.glo_ok X G (y.c.t.d.fact 22 (f := .glo "law") rfl)⟩⟩
end
end Lk04

set_option Elab.async false
set_option linter.all false
set_option maxRecDepth 100000
set_option maxHeartbeats 0
/-! k04: what wrong_item answers, by what wrong_use answers. -/
namespace Lk04
open PySem L2 DP
/-- the first place at which wrong_use answers -/
def usesAt (xs : List D) (i : Nat) : Res D := callP F_wrong_use [.tup xs, .int (i : Nat)] ⟨[], []⟩
abbrev wiB : MS := (sSeq (sSet 2 (eCallP F_wrong_use (aCons (eVar 0) (aCons (eVar 1) aNil)))) (sSeq (sIf (tB_ (eOp (opIs true) (eVar 2) (eC .non))) (sSeq (sRet (eTup (aCons (eVar 1) (aCons (eOp opIx (eVar 2) (eC (.int 0))) (aCons (eOp opIx (eVar 2) (eC (.int 1))) aNil))))) sNil) sNil) sNil))
theorem wi_shape : m_wrong_item = (sSeq (sFor (iRange1 (aCons (eB opLen (aCons (eVar 0) aNil)) aNil)) (gNm 1) wiB) (sSeq (sRet (eC .non)) sNil)) := rfl
abbrev e3 (xs : List D) (x y : Option D) : DP.Env := [some (.tup xs), x, y]
theorem wi_non {xs : List D} {k : Nat} {y : Option D} {w : Wd} (h : usesAt xs k = .ok .non ⟨[], []⟩) : wiB (e3 xs (some (.int (k : Nat))) y) w = .ok (.nx, e3 xs (some (.int (k : Nat))) (some .non)) w := by
  have a1 : (sSet 2 (eCallP F_wrong_use (aCons (eVar 0) (aCons (eVar 1) aNil)))) (e3 xs (some (.int (k : Nat))) y) w = .ok (.nx, e3 xs (some (.int (k : Nat))) (some .non)) w := by
    show Res.bind (callP F_wrong_use [.tup xs, .int (k : Nat)] w) _ = _
    rw [callP_w h]
    rfl
  unfold wiB
  rw [seq_nx a1]
  rfl
theorem wi_hit {xs : List D} {k : Nat} {a b : D} {y : Option D} {w : Wd} (h : usesAt xs k = .ok (.tup [a, b]) ⟨[], []⟩) : wiB (e3 xs (some (.int (k : Nat))) y) w = .ok (.rt (.tup [.int (k : Nat), a, b]), e3 xs (some (.int (k : Nat))) (some (.tup [a, b]))) w := by
  have a1 : (sSet 2 (eCallP F_wrong_use (aCons (eVar 0) (aCons (eVar 1) aNil)))) (e3 xs (some (.int (k : Nat))) y) w = .ok (.nx, e3 xs (some (.int (k : Nat))) (some (.tup [a, b]))) w := by
    show Res.bind (callP F_wrong_use [.tup xs, .int (k : Nat)] w) _ = _
    rw [callP_w h]
    rfl
  unfold wiB
  rw [seq_nx a1]
  rfl
theorem wi_rest {xs : List D} {w : Wd} : ∀ (n i : Nat) (x y : Option D), (∀ k, i ≤ k → k < i + n → usesAt xs k = .ok .non ⟨[], []⟩) → ∃ x' y', forD (gNm 1) wiB (intsF i n) (e3 xs x y) w = .ok (.nx, e3 xs x' y') w
  | 0, i, x, y, _ => ⟨x, y, rfl⟩
  | n + 1, i, x, y, h => by
    obtain ⟨x', y', e⟩ := wi_rest n (i + 1) (some (.int (i : Nat))) (some .non) fun k h1 h2 => h k (by omega) (by omega)
    refine ⟨x', y', ?_⟩
    rw [intsF, for_nx (δ1 := e3 xs (some (.int (i : Nat))) y) (w1 := w) rfl (wi_non (h i (Nat.le_refl _) (by omega)))]
    exact e
theorem wi_upto {xs : List D} {w : Wd} {a b : D} {j : Nat} (hj : usesAt xs j = .ok (.tup [a, b]) ⟨[], []⟩) : ∀ (n i : Nat) (x y : Option D), i ≤ j → j < i + n → (∀ k, i ≤ k → k < j → usesAt xs k = .ok .non ⟨[], []⟩) →
    ∃ δ', forD (gNm 1) wiB (intsF i n) (e3 xs x y) w = .ok (.rt (.tup [.int (j : Nat), a, b]), δ') w
  | 0, i, x, y, h1, h2, _ => by omega
  | n + 1, i, x, y, h1, h2, h => by
    by_cases e : i = j
    · subst e
      refine ⟨e3 xs (some (.int (i : Nat))) (some (.tup [a, b])), ?_⟩
      rw [intsF, forD]
      show Res.bind (wiB (e3 xs (some (.int (i : Nat))) y) w) _ = _
      rw [wi_hit hj]
      rfl
    · obtain ⟨δ', q⟩ := wi_upto hj n (i + 1) (some (.int (i : Nat))) (some .non) (by omega) (by omega) fun k h3 h4 => h k (by omega) h4
      refine ⟨δ', ?_⟩
      rw [intsF, for_nx (δ1 := e3 xs (some (.int (i : Nat))) y) (w1 := w) rfl (wi_non (h i (Nat.le_refl _) (by omega)))]
      exact q
theorem wi_for {xs : List D} {w : Wd} (hl : xs.length ≤ 1000) {x y : Option D} : (sFor (iRange1 (aCons (eB opLen (aCons (eVar 0) aNil)) aNil)) (gNm 1) wiB) (e3 xs x y) w = forD (gNm 1) wiB (intsF 0 xs.length) (e3 xs x y) w := by
  rw [for_run (range1_ok (n := xs.length) (w1 := w) rfl (by omega)), rangeL_ints0]
theorem wi_first {xs : List D} {w : Wd} {a b : D} (j : Nat) (hl : xs.length ≤ 1000) (hj : j < xs.length) (hp : D.puL xs = true) (h0 : ∀ k, k < j → usesAt xs k = .ok .non ⟨[], []⟩) (h1 : usesAt xs j = .ok (.tup [a, b]) ⟨[], []⟩) (ha : a.pu = true) (hb : b.pu = true) (ca : a.cl = true) (cb : b.cl = true) :
    callP F_wrong_item [.tup xs] w = .ok (.tup [.int (j : Nat), a, b]) w := by
  obtain ⟨δ', e⟩ := wi_upto (w := ⟨[], []⟩) h1 xs.length 0 none none (Nat.zero_le _) (by omega) fun k _ h => h0 k h
  have em : m_wrong_item (e3 xs none none) ⟨[], []⟩ = .ok (.rt (.tup [.int (j : Nat), a, b]), δ') ⟨[], []⟩ := by
    rw [wi_shape, seq_rt ((wi_for hl).trans e)]
  have ef : F_wrong_item [.tup xs] [] = .ok (.tup [.int (j : Nat), a, b]) ⟨[], []⟩ := by
    exact fn_rt (nl := 3) (np := 1) (m := m_wrong_item) (ds := [.tup xs]) (s := []) (δ0 := e3 xs none none) (δ' := δ') (w := ⟨[], []⟩) (d := .tup [.int (j : Nat), a, b]) rfl rfl em (by simp [D.cl, D.clL, ca, cb])
  unfold callP
  rw [if_pos (by simp [D.puL, D.pu, hp]), ef]
  show (if (D.tup [.int (j : Nat), a, b]).pu = true then Res.ok (D.tup [.int (j : Nat), a, b]) w else .stuck) = _
  rw [if_pos (by simp [D.puL, D.pu, ha, hb])]
theorem wi_none {xs : List D} {w : Wd} (hl : xs.length ≤ 1000) (hp : D.puL xs = true) (h0 : ∀ k, k < xs.length → usesAt xs k = .ok .non ⟨[], []⟩) : callP F_wrong_item [.tup xs] w = .ok .non w := by
  obtain ⟨x', y', e⟩ := wi_rest (w := ⟨[], []⟩) xs.length 0 none none fun k _ h => h0 k (by omega)
  have em : m_wrong_item (e3 xs none none) ⟨[], []⟩ = .ok (.rt .non, e3 xs x' y') ⟨[], []⟩ := by
    rw [wi_shape, seq_nx ((wi_for hl).trans e)]
    rfl
  have ef : F_wrong_item [.tup xs] [] = .ok .non ⟨[], []⟩ := by
    exact fn_rt (nl := 3) (np := 1) (m := m_wrong_item) (ds := [.tup xs]) (s := []) (δ0 := e3 xs none none) (w := ⟨[], []⟩) (d := .non) rfl rfl em rfl
  unfold callP
  rw [if_pos (by simp [D.puL, D.pu, hp]), ef]
  rfl
end Lk04

set_option Elab.async false
set_option linter.all false
set_option maxRecDepth 100000
set_option maxHeartbeats 0
/-! k04: what stands ahead of an item. -/
namespace Lk04
open PySem L2 DP
theorem cut_take {xs : List D} {k : Nat} : cutD xs none (some (k : Int)) = xs.take k := by
  unfold cutD
  rw [HT.sIx_none, HT.sIx_nat, List.drop_zero, Nat.sub_zero]
  by_cases h : k ≤ xs.length
  · rw [Nat.min_eq_left h]
  · rw [Nat.min_eq_right (by omega), List.take_length, List.take_of_length_le (by omega)]
theorem iSl_take {xs : List D} {k : Nat} {r : List (Option D)} {w : Wd} : (iSeq (eSlA (eVar 0) oNone (oSome (eVar 1)))) (some (.tup xs) :: some (.int (k : Nat)) :: r) w = .ok (xs.take k) w := by
  have e : (iSeq (eSlA (eVar 0) oNone (oSome (eVar 1)))) (some (.tup xs) :: some (.int (k : Nat)) :: r) w = .ok (cutD xs none (some (k : Int))) w := rfl
  rw [e, cut_take]
abbrev tTA : MT := (tB_ (eOp (opIn false) (eOp opIx (eVar 3) (eC (.int 0))) (eVar 2)))
abbrev eTA : ME := (eTup (aCons (eOp opIx (eVar 3) (eC (.int 1))) (aCons (eVar 3) aNil)))
abbrev cTA (xs : List D) (k : Nat) (W : D) (ys : List D) (w : Wd) : Res (List D) := compD (gNm 3) tTA eTA [3] [some (.tup xs), some (.int (k : Nat)), some W, none] ys w
theorem mem_take_len {xs : List D} {k : Nat} (h : xs.length ≤ 1000) : (xs.take k).length ≤ 10000000 := by
  rw [List.length_take]
  omega
theorem ta_ok {xs ys prs : List D} {k : Nat} {W : D} {kvs : List (Key × D)} {s : List SO} (hl : xs.length ≤ 1000) (hy : xs.take k = ys) (hW : W.cl = true) (hC : ∀ w, cTA xs k W ys w = .ok prs w) (hD : twoD prs = some kvs) (hc : ((mergeD [] kvs).all fun p => p.2.cl) = true) :
    F_things_ahead [.tup xs, .int (k : Nat), W] s = .ok (.loc s.length) ⟨s ++ [.dK (mergeD [] kvs)], []⟩ := by
  have e1 : (fComp (iSeq (eSlA (eVar 0) oNone (oSome (eVar 1)))) (gNm 3) tTA eTA [3]) [some (.tup xs), some (.int (k : Nat)), some W, none] ⟨s, []⟩ = .ok prs ⟨s, []⟩ := by
    unfold fComp
    rw [iSl_take, bind_ok, if_pos (mem_take_len hl), hy]
    exact hC _
  have e2 : (eLocK (kB opDictP (aCons (eFrz (fComp (iSeq (eSlA (eVar 0) oNone (oSome (eVar 1)))) (gNm 3) tTA eTA [3])) aNil))) [some (.tup xs), some (.int (k : Nat)), some W, none] ⟨s, []⟩ = .ok (.loc s.length) ⟨s ++ [.dK (mergeD [] kvs)], []⟩ := by
    unfold eLocK kB
    rw [acons_ok (frz_ok e1) anil_ok, bind_ok]
    have e3 : opDictP [.lst prs] ⟨s, []⟩ = .ok (mergeD [] kvs) ⟨s, []⟩ := by
      show (match twoD prs with
        | some kvs => Res.ok (mergeD [] kvs) (⟨s, []⟩ : Wd)
        | none => .stuck) = _
      rw [hD]
    rw [e3, bind_ok, if_pos hc]
  have e4 : m_things_ahead [some (.tup xs), some (.int (k : Nat)), some W, none] ⟨s, []⟩ = .ok (.rt (.loc s.length), [some (.tup xs), some (.int (k : Nat)), some W, none]) ⟨s ++ [.dK (mergeD [] kvs)], []⟩ := by
    have e5 : sRet (eLocK (kB opDictP (aCons (eFrz (fComp (iSeq (eSlA (eVar 0) oNone (oSome (eVar 1)))) (gNm 3) tTA eTA [3])) aNil))) [some (.tup xs), some (.int (k : Nat)), some W, none] ⟨s, []⟩ = .ok (.rt (.loc s.length), [some (.tup xs), some (.int (k : Nat)), some W, none]) ⟨s ++ [.dK (mergeD [] kvs)], []⟩ := by
      unfold sRet
      rw [e2, bind_ok]
    unfold m_things_ahead
    rw [seq_rt e5]
  exact fn_rt (nl := 4) (np := 3) (m := m_things_ahead) (ds := [.tup xs, .int (k : Nat), W]) (δ0 := [some (.tup xs), some (.int (k : Nat)), some W, none]) rfl rfl e4 rfl
/-- a dict's content of a list of pairs -/
def dctD (prs : List D) : List (Key × D) := match twoD prs with
  | some kvs => mergeD [] kvs
  | none => []
abbrev bMK : MS := (sSeq (sIf (tB_ (eOp opEq (eOp opIx (eVar 3) (eC (.int 0))) (eC g_LOT))) (sSeq (sAsg (gSub_ (eVar 2) (eOp opIx (eVar 3) (eC (.int 1)))) (eTup (aCons (eC g_LOT) (aCons (eOp opIx (eVar 3) (eC (.int 2))) aNil)))) sNil) sNil) (sSeq (sIf (tB_ (eOp opEq (eOp opIx (eVar 3) (eC (.int 0))) (eC g_PIPE))) (sSeq (sAsg (gSub_ (eVar 2) (eOp opIx (eVar 3) (eC (.int 1)))) (eTup (aCons (eC g_PIPE) (aCons (eOp opIx (eOp opIx (eVar 2) (eOp opIx (eOp opIx (eVar 3) (eC (.int 2))) (eC (.int 1)))) (eC (.int 1))) aNil)))) sNil) sNil) (sSeq (sIf (tB_ (eOp opEq (eOp opIx (eVar 3) (eC (.int 0))) (eC g_GROW))) (sSeq (sAsg (gSub_ (eVar 2) (eOp opIx (eVar 3) (eC (.int 1)))) (eTup (aCons (eC g_GROW) (aCons (eOp opIx (eOp opIx (eVar 2) (eOp opIx (eVar 3) (eC (.int 2)))) (eC (.int 1))) aNil)))) sNil) sNil) sNil)))
theorem mk_ok {xs ys : List D} {k : Nat} {X : SO} {kv : List (Key × D)} {x : Option D} (hl : xs.length ≤ 1000) (hy : xs.take k = ys)
    (hf : forD (gNm 3) bMK ys [some (.tup xs), some (.int (k : Nat)), some (.loc 1), none] ⟨[X, .dK []], []⟩ = .ok (.nx, [some (.tup xs), some (.int (k : Nat)), some (.loc 1), x]) ⟨[X, .dK kv], []⟩) :
    F_made_kinds [.tup xs, .int (k : Nat)] [X] = .ok (.loc 1) ⟨[X, .dK kv], []⟩ := by
  have e1 : (sSet 2 (eLocK kNew)) [some (.tup xs), some (.int (k : Nat)), none, none] ⟨[X], []⟩ = .ok (.nx, [some (.tup xs), some (.int (k : Nat)), some (.loc 1), none]) ⟨[X, .dK []], []⟩ := rfl
  have e2 : (sFor (iSeq (eSlA (eVar 0) oNone (oSome (eVar 1)))) (gNm 3) bMK) [some (.tup xs), some (.int (k : Nat)), some (.loc 1), none] ⟨[X, .dK []], []⟩ = .ok (.nx, [some (.tup xs), some (.int (k : Nat)), some (.loc 1), x]) ⟨[X, .dK kv], []⟩ := by
    rw [for_run iSl_take, hy]
    exact hf
  have e3 : (sRet (eVar 2)) [some (.tup xs), some (.int (k : Nat)), some (.loc 1), x] ⟨[X, .dK kv], []⟩ = .ok (.rt (.loc 1), [some (.tup xs), some (.int (k : Nat)), some (.loc 1), x]) ⟨[X, .dK kv], []⟩ := rfl
  have e4 : m_made_kinds [some (.tup xs), some (.int (k : Nat)), none, none] ⟨[X], []⟩ = .ok (.rt (.loc 1), [some (.tup xs), some (.int (k : Nat)), some (.loc 1), x]) ⟨[X, .dK kv], []⟩ := by
    unfold m_made_kinds
    rw [seq_nx e1, seq_nx e2, seq_rt e3]
  exact fn_rt (nl := 4) (np := 2) (m := m_made_kinds) (ds := [.tup xs, .int (k : Nat)]) (δ0 := [some (.tup xs), some (.int (k : Nat)), none, none]) rfl rfl e4 rfl
end Lk04

set_option Elab.async false
set_option linter.all false
set_option maxRecDepth 100000
set_option maxHeartbeats 0
/-! k04: one use, by what stands ahead. -/
namespace Lk04
open PySem L2 DP
abbrev AI (K P Q : List (Key × D)) : List SO := [.ins "Ahead" [("kinds", .loc 1), ("polys", .loc 2), ("promises", .loc 3)], .dK K, .dK P, .dK Q]
theorem tp_ok {xs : List D} {k : Nat} {P : List (Key × D)} {s : List SO} (hx : D.clL xs = true) (hp : ∀ s, F_things_ahead [.tup xs, .int (k : Nat), .tup [.str "poly"]] s = .ok (.loc s.length) ⟨s ++ [.dK P], []⟩) : F_told_polys [.tup xs, .int (k : Nat)] s = .ok (.loc s.length) ⟨s ++ [.dK P], []⟩ := by
  have a1 : (aCons (eVar 0) (aCons (eVar 1) (aCons (eTup (aCons (eC (.str "poly")) aNil)) aNil))) [some (.tup xs), some (.int (k : Nat))] ⟨s, []⟩ = .ok [.tup xs, .int (k : Nat), .tup [.str "poly"]] ⟨s, []⟩ := rfl
  have e1 : (sRet (eCall F_things_ahead (aCons (eVar 0) (aCons (eVar 1) (aCons (eTup (aCons (eC (.str "poly")) aNil)) aNil))))) [some (.tup xs), some (.int (k : Nat))] ⟨s, []⟩ = .ok (.rt (.loc s.length), [some (.tup xs), some (.int (k : Nat))]) ⟨s ++ [.dK P], []⟩ := by
    unfold sRet
    rw [callF_ok2 a1 (hp s) (.inl rfl), bind_ok]
  have em : m_told_polys [some (.tup xs), some (.int (k : Nat))] ⟨s, []⟩ = .ok (.rt (.loc s.length), [some (.tup xs), some (.int (k : Nat))]) ⟨s ++ [.dK P], []⟩ := by
    unfold m_told_polys
    rw [seq_rt e1]
  exact fn_rt (nl := 2) (np := 2) (m := m_told_polys) (ds := [.tup xs, .int (k : Nat)]) (δ0 := [some (.tup xs), some (.int (k : Nat))]) rfl rfl em rfl
section
variable {xs : List D} {k : Nat} {K P Q : List (Key × D)}
theorem init_ok (hx : D.clL xs = true) (hk : ∀ X, F_made_kinds [.tup xs, .int (k : Nat)] [X] = .ok (.loc 1) ⟨[X, .dK K], []⟩)
    (hp : ∀ s, F_things_ahead [.tup xs, .int (k : Nat), .tup [.str "poly"]] s = .ok (.loc s.length) ⟨s ++ [.dK P], []⟩) (hq : ∀ s, F_things_ahead [.tup xs, .int (k : Nat), .tup [.str "promise"]] s = .ok (.loc s.length) ⟨s ++ [.dK Q], []⟩) :
    F_Ahead_init [.loc 0, .tup xs, .int (k : Nat)] [.ins "Ahead" []] = .ok .non ⟨AI K P Q, []⟩ := by
  have a1 : (aCons (eVar 1) (aCons (eVar 2) aNil)) [some (.loc 0), some (.tup xs), some (.int (k : Nat))] ⟨[.ins "Ahead" []], []⟩ = .ok [.tup xs, .int (k : Nat)] ⟨[.ins "Ahead" []], []⟩ := rfl
  have a2 : (aCons (eVar 1) (aCons (eVar 2) aNil)) [some (.loc 0), some (.tup xs), some (.int (k : Nat))] ⟨[.ins "Ahead" [], .dK K], []⟩ = .ok [.tup xs, .int (k : Nat)] ⟨[.ins "Ahead" [], .dK K], []⟩ := rfl
  have c1 := callF_ok2 a1 (hk (.ins "Ahead" [])) (.inl rfl)
  have c2 := callF_ok2 a2 (tp_ok (s := [.ins "Ahead" [], .dK K]) hx hp) (.inl rfl)
  have t1 : (eTup (aCons (eCall F_made_kinds (aCons (eVar 1) (aCons (eVar 2) aNil))) (aCons (eCall F_told_polys (aCons (eVar 1) (aCons (eVar 2) aNil))) aNil))) [some (.loc 0), some (.tup xs), some (.int (k : Nat))] ⟨[.ins "Ahead" []], []⟩ = .ok (.tup [.loc 1, .loc 2]) ⟨[.ins "Ahead" [], .dK K, .dK P], []⟩ :=
    tup_ok (acons_ok c1 (acons_ok c2 anil_ok)) (by simp)
  have s1 : (sAsg (gSq 2 (gCons_ (gFldM "Ahead" "kinds" (eVar 0)) (gCons_ (gFldM "Ahead" "polys" (eVar 0)) gNil_))) (eTup (aCons (eCall F_made_kinds (aCons (eVar 1) (aCons (eVar 2) aNil))) (aCons (eCall F_told_polys (aCons (eVar 1) (aCons (eVar 2) aNil))) aNil)))) [some (.loc 0), some (.tup xs), some (.int (k : Nat))] ⟨[.ins "Ahead" []], []⟩
      = .ok (.nx, [some (.loc 0), some (.tup xs), some (.int (k : Nat))]) ⟨[.ins "Ahead" [("kinds", .loc 1), ("polys", .loc 2)], .dK K, .dK P], []⟩ := by
    unfold sAsg
    rw [t1, bind_ok]
    rfl
  have a3 : (aCons (eVar 1) (aCons (eVar 2) (aCons (eTup (aCons (eC (.str "promise")) aNil)) aNil))) [some (.loc 0), some (.tup xs), some (.int (k : Nat))] ⟨[.ins "Ahead" [("kinds", .loc 1), ("polys", .loc 2)], .dK K, .dK P], []⟩ = .ok [.tup xs, .int (k : Nat), .tup [.str "promise"]] ⟨[.ins "Ahead" [("kinds", .loc 1), ("polys", .loc 2)], .dK K, .dK P], []⟩ := rfl
  have c3 := callF_ok2 a3 (hq _) (.inl rfl)
  have s2 : (sFldM "Ahead" "promises" (eVar 0) (eCall F_things_ahead (aCons (eVar 1) (aCons (eVar 2) (aCons (eTup (aCons (eC (.str "promise")) aNil)) aNil))))) [some (.loc 0), some (.tup xs), some (.int (k : Nat))] ⟨[.ins "Ahead" [("kinds", .loc 1), ("polys", .loc 2)], .dK K, .dK P], []⟩
      = .ok (.nx, [some (.loc 0), some (.tup xs), some (.int (k : Nat))]) ⟨AI K P Q, []⟩ := by
    unfold sFldM
    rw [c3, bind_ok]
    rfl
  have em : m_Ahead_init [some (.loc 0), some (.tup xs), some (.int (k : Nat))] ⟨[.ins "Ahead" []], []⟩ = .ok (.nx, [some (.loc 0), some (.tup xs), some (.int (k : Nat))]) ⟨AI K P Q, []⟩ := by
    unfold m_Ahead_init
    rw [seq_nx s1, seq_nx s2]
    rfl
  exact fn_nx (nl := 3) (np := 3) (m := m_Ahead_init) (ds := [.loc 0, .tup xs, .int (k : Nat)]) (δ0 := [some (.loc 0), some (.tup xs), some (.int (k : Nat))]) rfl rfl em
def U2 : MS := (sSet 2 (eCallP F_sort_of (aCons (eOp opIx (eVar 3) (eC (.int 0))) aNil)))
def U3 : MS := (sIf (tB_ (eOp (opIs false) (eVar 2) (eC .non))) (sSeq (sRet (eCall F_lacking (aCons (eVar 4) (aCons (eSlA (eVar 3) (oSome (eC (.int 1))) oNone) (aCons (eOp opIx (eC g_ASKS) (eOp opIx (eVar 3) (eC (.int 0)))) aNil))))) sNil) sNil)
def T4 : MT := (tB_ (eOp (opIn false) (eOp opIx (eVar 3) (eC (.int 1))) (eCall F_things_ahead (aCons (eVar 0) (aCons (eVar 1) (aCons (eOp opIx (eC g_SORTS) (eVar 2)) aNil))))))
def U4 : MS := (sIf T4 (sSeq (sRet (eTup (aCons (eTup (aCons (eC (.int 1)) aNil)) (aCons (eC (.str "twice")) aNil)))) sNil) sNil)
def U5 : MS := (sRet (eCall F_wrong_making (aCons (eVar 4) (aCons (eVar 3) aNil))))
def restU : MS := (sSeq U2 (sSeq U3 (sSeq U4 (sSeq U5 sNil))))
theorem use_shape : m_wrong_use = (sSeq (sPar 3 4 (aCons (eOp opIx (eVar 0) (eVar 1)) (aCons (eMake "Ahead" F_Ahead_init (aCons (eVar 0) (aCons (eVar 1) aNil))) aNil))) restU) := rfl
abbrev δU (xs : List D) (k : Nat) (y : Option D) (x : D) : DP.Env := [some (.tup xs), some (.int (k : Nat)), y, some x, some (.loc 0)]
def isRN (r : Res (Fl × DP.Env)) : Bool := match r with
  | .ok (.rt .non, _) _ => true
  | _ => false
theorem ix_tup {xs : List D} {n : Nat} (hn : n < xs.length) {w : Wd} : opIx (.tup xs) (.int (n : Int)) w = .ok xs[n] w := by
  show (match L2.atI xs (n : Int) with
    | some d => Res.ok d w
    | none => .stuck) = _
  rw [atI_nat hn]
theorem use_rest (hn : k < xs.length) (hx : D.clL xs = true) (hk : ∀ X, F_made_kinds [.tup xs, .int (k : Nat)] [X] = .ok (.loc 1) ⟨[X, .dK K], []⟩)
    (hp : ∀ s, F_things_ahead [.tup xs, .int (k : Nat), .tup [.str "poly"]] s = .ok (.loc s.length) ⟨s ++ [.dK P], []⟩) (hq : ∀ s, F_things_ahead [.tup xs, .int (k : Nat), .tup [.str "promise"]] s = .ok (.loc s.length) ⟨s ++ [.dK Q], []⟩)
    (hr : isRN (restU (δU xs k none xs[k]) ⟨AI K P Q, []⟩) = true) : ∃ w, F_wrong_use [.tup xs, .int (k : Nat)] [] = .ok .non w := by
  have m1 : eMake "Ahead" F_Ahead_init (aCons (eVar 0) (aCons (eVar 1) aNil)) [some (.tup xs), some (.int (k : Nat)), none, none, none] ⟨[], []⟩ = .ok (.loc 0) ⟨AI K P Q, []⟩ := by
    have c0 : callM F_Ahead_init [.loc 0, .tup xs, .int (k : Nat)] ⟨[.ins "Ahead" []], []⟩ = .ok .non ⟨AI K P Q, []⟩ := by
      rw [callM_nil, init_ok hx hk hp hq]
    show Res.bind (callM F_Ahead_init [.loc 0, .tup xs, .int (k : Nat)] ⟨[.ins "Ahead" []], []⟩) _ = _
    rw [c0]
    rfl
  have s1 : (sPar 3 4 (aCons (eOp opIx (eVar 0) (eVar 1)) (aCons (eMake "Ahead" F_Ahead_init (aCons (eVar 0) (aCons (eVar 1) aNil))) aNil))) [some (.tup xs), some (.int (k : Nat)), none, none, none] ⟨[], []⟩ = .ok (.nx, δU xs k none xs[k]) ⟨AI K P Q, []⟩ := by
    have i1 : eOp opIx (eVar 0) (eVar 1) [some (.tup xs), some (.int (k : Nat)), none, none, none] ⟨[], []⟩ = .ok xs[k] ⟨[], []⟩ := ix_tup hn
    exact par_ok (acons_ok i1 (acons_ok m1 anil_ok))
  unfold isRN at hr
  split at hr
  · rename_i δ' w' e
    have em : m_wrong_use [some (.tup xs), some (.int (k : Nat)), none, none, none] ⟨[], []⟩ = .ok (.rt .non, δ') w' := by
      rw [use_shape, seq_nx s1, e]
    exact ⟨_, fn_rt (nl := 5) (np := 2) (m := m_wrong_use) (ds := [.tup xs, .int (k : Nat)]) (δ0 := [some (.tup xs), some (.int (k : Nat)), none, none, none]) rfl rfl em rfl⟩
  · cases hr
/-- an item that tells a name -/
theorem use_named {x x1 W y : D} {M : List (Key × D)} (hx : D.clL xs = true) (h2 : ∀ w, U2 (δU xs k none x) w = .ok (.nx, δU xs k (some y) x) w) (h3 : ∀ w, U3 (δU xs k (some y) x) w = .ok (.nx, δU xs k (some y) x) w)
    (hW : ∀ w, (eOp opIx (eC g_SORTS) (eVar 2)) (δU xs k (some y) x) w = .ok W w) (hx1 : ∀ w, (eOp opIx (eVar 3) (eC (.int 1))) (δU xs k (some y) x) w = .ok x1 w)
    (hm : ∀ s, F_things_ahead [.tup xs, .int (k : Nat), W] s = .ok (.loc s.length) ⟨s ++ [.dK M], []⟩)
    (hin : opIn false x1 (.loc 4) ⟨AI K P Q ++ [.dK M], []⟩ = .ok (.bl false) ⟨AI K P Q ++ [.dK M], []⟩)
    (h5 : isRN (U5 (δU xs k (some y) x) ⟨AI K P Q ++ [.dK M], []⟩) = true) : isRN (restU (δU xs k none x) ⟨AI K P Q, []⟩) = true := by
  have a1 : (aCons (eVar 0) (aCons (eVar 1) (aCons (eOp opIx (eC g_SORTS) (eVar 2)) aNil))) (δU xs k (some y) x) ⟨AI K P Q, []⟩ = .ok [.tup xs, .int (k : Nat), W] ⟨AI K P Q, []⟩ :=
    acons_ok (d := .tup xs) rfl (acons_ok (d := .int (k : Nat)) rfl (acons_ok (hW _) anil_ok))
  have t4 : T4 (δU xs k (some y) x) ⟨AI K P Q, []⟩ = .ok false ⟨AI K P Q ++ [.dK M], []⟩ := by
    unfold T4 tB_
    have e : eOp (opIn false) (eOp opIx (eVar 3) (eC (.int 1))) (eCall F_things_ahead (aCons (eVar 0) (aCons (eVar 1) (aCons (eOp opIx (eC g_SORTS) (eVar 2)) aNil)))) (δU xs k (some y) x) ⟨AI K P Q, []⟩ = .ok (.bl false) ⟨AI K P Q ++ [.dK M], []⟩ := by
      have f1 := hx1 ⟨AI K P Q, []⟩
      have f2 := callF_ok2 a1 (hm (AI K P Q)) (.inl rfl)
      generalize (eOp opIx (eVar 3) (eC (.int 1))) = m1 at f1 ⊢
      generalize (eCall F_things_ahead (aCons (eVar 0) (aCons (eVar 1) (aCons (eOp opIx (eC g_SORTS) (eVar 2)) aNil)))) = m2 at f2 ⊢
      unfold eOp
      rw [f1, bind_ok, f2, bind_ok]
      exact hin
    rw [e]
    rfl
  unfold restU
  rw [seq_nx (h2 _), seq_nx (h3 _)]
  have s4 : U4 (δU xs k (some y) x) ⟨AI K P Q, []⟩ = .ok (.nx, δU xs k (some y) x) ⟨AI K P Q ++ [.dK M], []⟩ := nil_f t4
  rw [seq_nx s4]
  unfold isRN at h5
  split at h5
  · rename_i δ' w' e
    rw [seq_rt e]
    rfl
  · cases h5
end
end Lk04

set_option Elab.async false
set_option linter.all false
set_option maxRecDepth 100000
set_option maxHeartbeats 0
/-! k04: what is named, what is lacking, whatever stands ahead. -/
namespace Lk04
open PySem L2 DP
section
variable {m ma mb mo mi : ME} {r : MA} {g : MG} {gs : MGs} {δ δ1 δ2 : DP.Env} {w w1 w2 w3 w4 : Wd} {x y z d o i : D} {ds xs : List D} {res : Res D} {op : D → D → Wd → Res D}
theorem op2_ok (h1 : ma δ w = .ok x w1) (h2 : mb δ w1 = .ok y w2) (h3 : op x y w2 = res) : eOp op ma mb δ w = res := by
  unfold eOp
  rw [h1, bind_ok, h2, bind_ok, h3]
theorem ret_ok (h1 : m δ w = .ok d w1) : sRet m δ w = .ok (.rt d, δ) w1 := by
  unfold sRet
  rw [h1, bind_ok]
theorem and_t (h1 : ma δ w = .ok (.bl true) w1) (h2 : mb δ w1 = res) : eAnd ma mb δ w = res := by
  unfold eAnd
  rw [h1, bind_ok]
  exact h2
theorem and_f (h1 : ma δ w = .ok (.bl false) w1) : eAnd ma mb δ w = .ok (.bl false) w1 := by
  unfold eAnd
  rw [h1, bind_ok]
  rfl
theorem tB_ok {b : Bool} (h : m δ w = .ok (.bl b) w1) : tB_ m δ w = .ok b w1 := by
  unfold tB_
  rw [h, bind_ok]
theorem eif_t {t : MT} (h : t δ w = .ok true w1) : eIf t ma mb δ w = ma δ w1 := by
  unfold eIf
  rw [h, bind_ok, if_pos rfl]
theorem eif_f {t : MT} (h : t δ w = .ok false w1) : eIf t ma mb δ w = mb δ w1 := by
  unfold eIf
  rw [h, bind_ok, if_neg (by decide)]
theorem if_tt {t : MT} {m n : MS} {b : Bool} (h : t δ w = .ok b w1) (hb : b = true) : sIf t m n δ w = m δ w1 := by subst hb; exact if_t h
theorem if_ff {t : MT} {m n : MS} {b : Bool} (h : t δ w = .ok b w1) (hb : b = false) : sIf t m n δ w = n δ w1 := by subst hb; exact if_f h
end
abbrev ST (K P Q : List (Key × D)) (r : List SO) : List SO := .ins "Ahead" [("kinds", .loc 1), ("polys", .loc 2), ("promises", .loc 3)] :: .dK K :: .dK P :: .dK Q :: r
section
variable {K P Q : List (Key × D)} {r : List SO} {y kd : Str} {pr prime : D} {δ : DP.Env}
theorem is_poly : F_Ahead_is_named [.loc 0, .str "poly", .str y] (ST K P Q r) = .ok (.bl (valD P (.inr y)).isSome) ⟨ST K P Q r, []⟩ := by kernel_rfl
theorem ix_dk {n : Nat} {w : Wd} {kvs : List (Key × D)} {y : Str} {d : D} (h : w.s[n]? = some (.dK kvs)) (hv : valD kvs (.inr y) = some d) : opIx (.loc n) (.str y) w = .ok d w := by
  have e0 : lstOf w (.loc n) = none := by
    show soL w.s[n]? = _
    rw [h]
    rfl
  have e1 : dKof w (.loc n) = some kvs := by
    show soK w.s[n]? = _
    rw [h]
    rfl
  show (match lstOf w (.loc n), D.str y with
    | some xs, .int i => (match L2.atI xs i with
      | some d => Res.ok d w
      | none => .stuck)
    | _, _ => opIxD (.loc n) (.str y) w) = _
  rw [e0]
  show (match dKof w (.loc n), keyD (.str y) with
    | some kvs, some k => (match valD kvs k with
      | some d => Res.ok d w
      | none => .stuck)
    | _, _ => .stuck) = _
  rw [e1]
  show (match valD kvs (.inr y) with
      | some d => Res.ok d w
      | none => .stuck) = _
  rw [hv]
def I1 : MS := (sIf (tB_ (eOp opEq (eVar 1) (eC g_POLY))) (sSeq (sRet (eOp (opIn false) (eVar 2) (eFld "Ahead" "polys" (eVar 0)))) sNil) sNil)
def I2 : MS := (sIf (tB_ (eOp opEq (eVar 1) (eC g_PROMISE))) (sSeq (sRet (eOp (opIn false) (eVar 2) (eFld "Ahead" "promises" (eVar 0)))) sNil) sNil)
def A3 : ME := (eOp (opIn false) (eVar 2) (eFld "Ahead" "kinds" (eVar 0)))
def B3 : ME := (eOp (opIn false) (eOp opIx (eOp opIx (eFld "Ahead" "kinds" (eVar 0)) (eVar 2)) (eC (.int 0))) (eOp opIx (eC g_KINDS) (eVar 1)))
theorem named_M : m_Ahead_is_named = (sSeq I1 (sSeq I2 (sSeq (sRet (eAnd A3 B3)) sNil))) := rfl
abbrev δI (y : Str) : DP.Env := [some (.loc 0), some (.str "lot"), some (.str y)]
theorem a3_ok : A3 (δI y) ⟨ST K P Q r, []⟩ = .ok (.bl (valD K (.inr y)).isSome) ⟨ST K P Q r, []⟩ := by kernel_rfl
theorem is_lot (h : valD K (.inr y) = some (.tup [.str kd, pr])) (hk : kd = "lot" ∨ kd = "pipe") : F_Ahead_is_named [.loc 0, .str "lot", .str y] (ST K P Q r) = .ok (.bl true) ⟨ST K P Q r, []⟩ := by
  have a1 := a3_ok (K := K) (P := P) (Q := Q) (r := r) (y := y)
  rw [h] at a1
  have b1 : B3 (δI y) ⟨ST K P Q r, []⟩ = .ok (.bl true) ⟨ST K P Q r, []⟩ := by
    refine op2_ok (x := .str kd) (y := .tup [.str "lot", .str "pipe"]) (w1 := ⟨ST K P Q r, []⟩) (w2 := ⟨ST K P Q r, []⟩) ?_ (by kernel_rfl) (by rcases hk with rfl | rfl <;> kernel_rfl)
    refine op2_ok (x := .tup [.str kd, pr]) (y := .int 0) (w1 := ⟨ST K P Q r, []⟩) (w2 := ⟨ST K P Q r, []⟩) ?_ rfl rfl
    exact op2_ok (x := .loc 1) (y := .str y) (w1 := ⟨ST K P Q r, []⟩) (w2 := ⟨ST K P Q r, []⟩) (by kernel_rfl) rfl (ix_dk (kvs := K) rfl h)
  have e1 : I1 (δI y) ⟨ST K P Q r, []⟩ = .ok (.nx, δI y) ⟨ST K P Q r, []⟩ := by kernel_rfl
  have e2 : I2 (δI y) ⟨ST K P Q r, []⟩ = .ok (.nx, δI y) ⟨ST K P Q r, []⟩ := by kernel_rfl
  have em : m_Ahead_is_named (δI y) ⟨ST K P Q r, []⟩ = .ok (.rt (.bl true), δI y) ⟨ST K P Q r, []⟩ := by
    rw [named_M, seq_nx e1, seq_nx e2, seq_rt (ret_ok (and_t a1 b1))]
  exact fn_rt (nl := 3) (np := 3) (m := m_Ahead_is_named) (ds := [.loc 0, .str "lot", .str y]) (δ0 := δI y) rfl rfl em rfl
theorem is_nolot (h : valD K (.inr y) = none) : F_Ahead_is_named [.loc 0, .str "lot", .str y] (ST K P Q r) = .ok (.bl false) ⟨ST K P Q r, []⟩ := by
  have a1 := a3_ok (K := K) (P := P) (Q := Q) (r := r) (y := y)
  rw [h] at a1
  have e1 : I1 (δI y) ⟨ST K P Q r, []⟩ = .ok (.nx, δI y) ⟨ST K P Q r, []⟩ := by kernel_rfl
  have e2 : I2 (δI y) ⟨ST K P Q r, []⟩ = .ok (.nx, δI y) ⟨ST K P Q r, []⟩ := by kernel_rfl
  have em : m_Ahead_is_named (δI y) ⟨ST K P Q r, []⟩ = .ok (.rt (.bl false), δI y) ⟨ST K P Q r, []⟩ := by
    rw [named_M, seq_nx e1, seq_nx e2, seq_rt (ret_ok (and_f a1))]
  exact fn_rt (nl := 3) (np := 3) (m := m_Ahead_is_named) (ds := [.loc 0, .str "lot", .str y]) (δ0 := δI y) rfl rfl em rfl
/-! named_fault -/
def N1t : ME := (eMth "Ahead" "is_named" F_Ahead_is_named (eVar 0) (aCons (eVar 2) (aCons (eVar 1) aNil)))
def N1 : MS := (sIf (tNot_ (tTr_ N1t)) (sSeq (sRet (eTup (aCons (eTup aNil) (aCons (eVar 2) aNil)))) sNil) sNil)
def N2a : ME := (eOp opEq (eVar 2) (eC g_LOT))
def N2b : ME := (eOp (opIs true) (eVar 3) (eC .non))
def N2c : ME := (eOp opNe (eOp opIx (eOp opIx (eFld "Ahead" "kinds" (eVar 0)) (eVar 1)) (eC (.int 1))) (eVar 3))
def N2 : MS := (sSet 4 (eAnd N2a (eAnd N2b N2c)))
def N3 : MS := (sRet (eIf (tTr_ (eVar 4)) (eTup (aCons (eTup aNil) (aCons (eC g_PRIME) aNil))) (eC .non)))
theorem nf_M : m_named_fault = (sSeq N1 (sSeq N2 (sSeq N3 sNil))) := rfl
abbrev δNf (y sort : Str) (prime : D) (z : Option D) : DP.Env := [some (.loc 0), some (.str y), some (.str sort), some prime, z]
theorem n1_call {sort : Str} {z : Option D} {b : D} (h : F_Ahead_is_named [.loc 0, .str sort, .str y] (ST K P Q r) = .ok b ⟨ST K P Q r, []⟩) : N1t (δNf y sort prime z) ⟨ST K P Q r, []⟩ = .ok b ⟨ST K P Q r, []⟩ := by
  have e : N1t (δNf y sort prime z) ⟨ST K P Q r, []⟩ = callM F_Ahead_is_named [.loc 0, .str sort, .str y] ⟨ST K P Q r, []⟩ := by kernel_rfl
  rw [e, callM_nil, h]
theorem n1_f {sort : Str} (h : F_Ahead_is_named [.loc 0, .str sort, .str y] (ST K P Q r) = .ok (.bl false) ⟨ST K P Q r, []⟩) : F_named_fault [.loc 0, .str y, .str sort, prime] (ST K P Q r) = .ok (.tup [.tup [], .str sort]) ⟨ST K P Q r, []⟩ := by
  have t : (tNot_ (tTr_ N1t)) (δNf y sort prime none) ⟨ST K P Q r, []⟩ = .ok true ⟨ST K P Q r, []⟩ := by
    unfold tNot_ tTr_
    rw [n1_call h]
    rfl
  have e1 : N1 (δNf y sort prime none) ⟨ST K P Q r, []⟩ = .ok (.rt (.tup [.tup [], .str sort]), δNf y sort prime none) ⟨ST K P Q r, []⟩ := by
    unfold N1
    rw [if_t t]
    rfl
  have em : m_named_fault (δNf y sort prime none) ⟨ST K P Q r, []⟩ = .ok (.rt (.tup [.tup [], .str sort]), δNf y sort prime none) ⟨ST K P Q r, []⟩ := by
    rw [nf_M, seq_rt e1]
  exact fn_rt (nl := 5) (np := 4) (m := m_named_fault) (ds := [.loc 0, .str y, .str sort, prime]) (δ0 := δNf y sort prime none) rfl rfl em rfl
theorem n1_t {sort : Str} {v : D} {b : Bool} (h : F_Ahead_is_named [.loc 0, .str sort, .str y] (ST K P Q r) = .ok (.bl true) ⟨ST K P Q r, []⟩) (h2 : (eAnd N2a (eAnd N2b N2c)) (δNf y sort prime none) ⟨ST K P Q r, []⟩ = .ok (.bl b) ⟨ST K P Q r, []⟩) : F_named_fault [.loc 0, .str y, .str sort, prime] (ST K P Q r) = .ok (if b = true then .tup [.tup [], .str "prime"] else .non) ⟨ST K P Q r, []⟩ := by
  have t : (tNot_ (tTr_ N1t)) (δNf y sort prime none) ⟨ST K P Q r, []⟩ = .ok false ⟨ST K P Q r, []⟩ := by
    unfold tNot_ tTr_
    rw [n1_call h]
    rfl
  have e1 : N1 (δNf y sort prime none) ⟨ST K P Q r, []⟩ = .ok (.nx, δNf y sort prime none) ⟨ST K P Q r, []⟩ := nil_f t
  have e2 : N2 (δNf y sort prime none) ⟨ST K P Q r, []⟩ = .ok (.nx, δNf y sort prime (some (.bl b))) ⟨ST K P Q r, []⟩ := set_ok h2
  have e3 : N3 (δNf y sort prime (some (.bl b))) ⟨ST K P Q r, []⟩ = .ok (.rt (if b = true then .tup [.tup [], .str "prime"] else .non), δNf y sort prime (some (.bl b))) ⟨ST K P Q r, []⟩ := by cases b <;> kernel_rfl
  have em : m_named_fault (δNf y sort prime none) ⟨ST K P Q r, []⟩ = .ok (.rt (if b = true then .tup [.tup [], .str "prime"] else .non), δNf y sort prime (some (.bl b))) ⟨ST K P Q r, []⟩ := by
    rw [nf_M, seq_nx e1, seq_nx e2, seq_rt e3]
  exact fn_rt (nl := 5) (np := 4) (m := m_named_fault) (ds := [.loc 0, .str y, .str sort, prime]) (δ0 := δNf y sort prime none) rfl rfl em (by cases b <;> rfl)
end
end Lk04

set_option Elab.async false
set_option linter.all false
set_option maxRecDepth 100000
set_option maxHeartbeats 0
/-! k04: what a member lacks, what is lacking (texts of the mirrors printed). -/
namespace Lk04
open PySem L2 DP
section
variable {K P Q : List (Key × D)} {r : List SO} {y kd : Str} {pr prime : D} {δ : DP.Env}
def f0 : MS := (sIf (tB_ (eOp opEq (eVar 2) (eC g_ANY))) (sSeq (sRet (eC .non)) sNil) sNil)
def f1 : MS := (sIf (tB_ (eOp opEq (eVar 2) (eC g_PRIME))) (sSeq (sRet (eIf (tB_ (eOp (opIn true) (eVar 1) (eC g_PRIMES))) (eTup (aCons (eTup aNil) (aCons (eC g_PRIME) aNil))) (eC .non))) sNil) sNil)
def f2 : MS := (sIf (tB_ (eOp opEq (eVar 2) (eC g_NUMBER))) (sSeq (sRet (eIf (tB_ (eOp opEq (eVar 1) (eC (.int 0)))) (eTup (aCons (eTup aNil) (aCons (eC g_NUMBER) aNil))) (eC .non))) sNil) sNil)
def f3 : MS := (sIf (tB_ (eOp opEq (eVar 2) (eC g_DIGIT))) (sSeq (sRet (eIf (tB_ (eOp opGe (eVar 1) (eVar 3))) (eTup (aCons (eTup aNil) (aCons (eC g_DIGIT) aNil))) (eC .non))) sNil) sNil)
def f4 : MS := (sIf (tB_ (eOp opEq (eVar 2) (eC (.str "digits")))) (sSeq (sSet 4 (eFrz (fComp (iEnumM (aCons (eVar 1) aNil)) (gSq 2 (gCons_ (gNm 5) (gCons_ (gNm 6) gNil_))) (tB_ (eOp opGe (eVar 6) (eVar 3))) (eVar 5) [5, 6]))) (sSeq (sRet (eIf (tB_ (eOp opNe (eVar 4) (eFrz (fLst aNil)))) (eTup (aCons (eTup (aCons (eOp opIx (eVar 4) (eC (.int 0))) aNil)) (aCons (eC g_DIGIT) aNil))) (eC .non))) sNil)) sNil)
def f5 : MS := (sRet (eCall F_named_fault (aCons (eVar 0) (aCons (eVar 1) (aCons (eVar 2) (aCons (eVar 3) aNil))))))
theorem mf_M : m_member_fault = (sSeq f0 (sSeq f1 (sSeq f2 (sSeq f3 (sSeq f4 (sSeq f5 sNil)))))) := rfl
abbrev δm (m : D) (sort : Str) (prime : D) : DP.Env := [some (.loc 0), some m, some (.str sort), some prime, none, none, none]
theorem mf_any {m prime : D} : F_member_fault [.loc 0, m, .str "any", prime] (ST K P Q r) = .ok .non ⟨ST K P Q r, []⟩ := by kernel_rfl
theorem mf_named {sort : Str} {v : D} (hs : sort = "poly" ∨ sort = "lot") (hv : v.cl = true) (h : F_named_fault [.loc 0, .str y, .str sort, prime] (ST K P Q r) = .ok v ⟨ST K P Q r, []⟩) : F_member_fault [.loc 0, .str y, .str sort, prime] (ST K P Q r) = .ok v ⟨ST K P Q r, []⟩ := by
  have e0 : f0 (δm (.str y) sort prime) ⟨ST K P Q r, []⟩ = .ok (.nx, δm (.str y) sort prime) ⟨ST K P Q r, []⟩ := by rcases hs with rfl | rfl <;> kernel_rfl
  have e1 : f1 (δm (.str y) sort prime) ⟨ST K P Q r, []⟩ = .ok (.nx, δm (.str y) sort prime) ⟨ST K P Q r, []⟩ := by rcases hs with rfl | rfl <;> kernel_rfl
  have e2 : f2 (δm (.str y) sort prime) ⟨ST K P Q r, []⟩ = .ok (.nx, δm (.str y) sort prime) ⟨ST K P Q r, []⟩ := by rcases hs with rfl | rfl <;> kernel_rfl
  have e3 : f3 (δm (.str y) sort prime) ⟨ST K P Q r, []⟩ = .ok (.nx, δm (.str y) sort prime) ⟨ST K P Q r, []⟩ := by rcases hs with rfl | rfl <;> kernel_rfl
  have e4 : f4 (δm (.str y) sort prime) ⟨ST K P Q r, []⟩ = .ok (.nx, δm (.str y) sort prime) ⟨ST K P Q r, []⟩ := by rcases hs with rfl | rfl <;> kernel_rfl
  have e5 : f5 (δm (.str y) sort prime) ⟨ST K P Q r, []⟩ = .ok (.rt v, δm (.str y) sort prime) ⟨ST K P Q r, []⟩ :=
    ret_ok (callF_ok2 (w1 := ⟨ST K P Q r, []⟩) (ds := [.loc 0, .str y, .str sort, prime]) rfl h (.inl rfl))
  have em : m_member_fault (δm (.str y) sort prime) ⟨ST K P Q r, []⟩ = .ok (.rt v, δm (.str y) sort prime) ⟨ST K P Q r, []⟩ := by
    rw [mf_M, seq_nx e0, seq_nx e1, seq_nx e2, seq_nx e3, seq_nx e4, seq_rt e5]
  exact fn_rt (nl := 7) (np := 4) (m := m_member_fault) (ds := [.loc 0, .str y, .str sort, prime]) (δ0 := δm (.str y) sort prime) rfl rfl em hv
theorem mf_poly (h : (valD P (.inr y)).isSome = true) : F_member_fault [.loc 0, .str y, .str "poly", prime] (ST K P Q r) = .ok .non ⟨ST K P Q r, []⟩ := by
  have i := is_poly (K := K) (P := P) (Q := Q) (r := r) (y := y)
  rw [h] at i
  exact mf_named (.inl rfl) rfl (n1_t (v := .non) (b := false) i (by kernel_rfl))
theorem mf_nopoly (h : (valD P (.inr y)).isSome = false) : F_member_fault [.loc 0, .str y, .str "poly", prime] (ST K P Q r) = .ok (.tup [.tup [], .str "poly"]) ⟨ST K P Q r, []⟩ := by
  have i := is_poly (K := K) (P := P) (Q := Q) (r := r) (y := y)
  rw [h] at i
  exact mf_named (.inl rfl) rfl (n1_f i)
theorem mf_nolot (h : valD K (.inr y) = none) : F_member_fault [.loc 0, .str y, .str "lot", prime] (ST K P Q r) = .ok (.tup [.tup [], .str "lot"]) ⟨ST K P Q r, []⟩ :=
  mf_named (.inr rfl) rfl (n1_f (is_nolot h))
theorem mf_lot (h : valD K (.inr y) = some (.tup [.str kd, pr])) (hk : kd = "lot" ∨ kd = "pipe") : F_member_fault [.loc 0, .str y, .str "lot", .non] (ST K P Q r) = .ok .non ⟨ST K P Q r, []⟩ :=
  mf_named (.inr rfl) rfl (n1_t (v := .non) (b := false) (is_lot h hk) (by kernel_rfl))
theorem mf_lot2 {p q : Int} (h : valD K (.inr y) = some (.tup [.str kd, .int q])) (hk : kd = "lot" ∨ kd = "pipe") : F_member_fault [.loc 0, .str y, .str "lot", .int p] (ST K P Q r) = .ok (if decide (q = p) = true then .non else .tup [.tup [], .str "prime"]) ⟨ST K P Q r, []⟩ := by
  have c : (eAnd N2a (eAnd N2b N2c)) (δNf y "lot" (.int p) none) ⟨ST K P Q r, []⟩ = .ok (.bl (!decide (q = p))) ⟨ST K P Q r, []⟩ := by
    refine and_t (w1 := ⟨ST K P Q r, []⟩) (by kernel_rfl) (and_t (w1 := ⟨ST K P Q r, []⟩) (by kernel_rfl) ?_)
    refine op2_ok (x := .int q) (y := .int p) (w1 := ⟨ST K P Q r, []⟩) (w2 := ⟨ST K P Q r, []⟩) ?_ rfl rfl
    refine op2_ok (x := .tup [.str kd, .int q]) (y := .int 1) (w1 := ⟨ST K P Q r, []⟩) (w2 := ⟨ST K P Q r, []⟩) ?_ rfl rfl
    exact op2_ok (x := .loc 1) (y := .str y) (w1 := ⟨ST K P Q r, []⟩) (w2 := ⟨ST K P Q r, []⟩) (by kernel_rfl) rfl (ix_dk (kvs := K) rfl h)
  have n := n1_t (v := .non) (prime := .int p) (is_lot (P := P) (Q := Q) (r := r) h hk) c
  have m := mf_named (K := K) (P := P) (Q := Q) (r := r) (.inr rfl) (by cases decide (q = p) <;> rfl) n
  rw [m]
  cases decide (q = p) <;> rfl
def LB : MS := (sSeq (sSet 6 (eCall F_member_fault (aCons (eVar 0) (aCons (eOp opIx (eVar 1) (eVar 4)) (aCons (eVar 5) (aCons (eVar 3) aNil)))))) (sSeq (sIf (tB_ (eOp (opIs true) (eVar 6) (eC .non))) (sSeq (sRet (eTup (aCons (eTup (aCons (eOp opAdd (eVar 4) (eC (.int 1))) (aStar (eOp opIx (eVar 6) (eC (.int 0))) aNil))) (aCons (eOp opIx (eVar 6) (eC (.int 1))) aNil)))) sNil) sNil) (sSeq (sSet 3 (eIf (tB_ (eOp (opIn false) (eVar 5) (eTup (aCons (eC g_LOT) (aCons (eC g_GROWN) aNil))))) (eOp opIx (eOp opIx (eFld "Ahead" "kinds" (eVar 0)) (eOp opIx (eVar 1) (eVar 4))) (eC (.int 1))) (eVar 3))) sNil)))
abbrev gE : MG := (gSq 2 (gCons_ (gNm 4) (gCons_ (gNm 5) gNil_)))
abbrev δL (ms ss : D) (p k s f : Option D) : DP.Env := [some (.loc 0), some ms, some ss, p, k, s, f]
def M6 : MS := (sSet 6 (eCall F_member_fault (aCons (eVar 0) (aCons (eOp opIx (eVar 1) (eVar 4)) (aCons (eVar 5) (aCons (eVar 3) aNil))))))
def M7 : MS := (sIf (tB_ (eOp (opIs true) (eVar 6) (eC .non))) (sSeq (sRet (eTup (aCons (eTup (aCons (eOp opAdd (eVar 4) (eC (.int 1))) (aStar (eOp opIx (eVar 6) (eC (.int 0))) aNil))) (aCons (eOp opIx (eVar 6) (eC (.int 1))) aNil)))) sNil) sNil)
def eP : ME := (eIf (tB_ (eOp (opIn false) (eVar 5) (eTup (aCons (eC g_LOT) (aCons (eC g_GROWN) aNil))))) (eOp opIx (eOp opIx (eFld "Ahead" "kinds" (eVar 0)) (eOp opIx (eVar 1) (eVar 4))) (eC (.int 1))) (eVar 3))
def M8 : MS := (sSet 3 eP)
theorem LB_M : LB = (sSeq M6 (sSeq M7 (sSeq M8 sNil))) := rfl
theorem ix_tupS {xs : List D} {n : Nat} {m : D} (hn : xs[n]? = some m) {w : Wd} : opIx (.tup xs) (.int (n : Int)) w = .ok m w := by
  obtain ⟨h, e⟩ := List.getElem?_eq_some_iff.mp hn
  show (match L2.atI xs (n : Int) with
    | some d => Res.ok d w
    | none => .stuck) = _
  rw [atI_nat h, e]
theorem m6_ok {ms : List D} {ss m s v : D} {k : Nat} {f : Option D} (hm : ms[k]? = some m) (h : F_member_fault [.loc 0, m, s, prime] (ST K P Q r) = .ok v ⟨ST K P Q r, []⟩) : M6 (δL (.tup ms) ss (some prime) (some (.int (k : Nat))) (some s) f) ⟨ST K P Q r, []⟩ = .ok (.nx, δL (.tup ms) ss (some prime) (some (.int (k : Nat))) (some s) (some v)) ⟨ST K P Q r, []⟩ := by
  refine set_ok (callF_ok2 (w1 := ⟨ST K P Q r, []⟩) (ds := [.loc 0, m, s, prime]) ?_ h (.inl rfl))
  exact acons_ok (d := .loc 0) rfl (acons_ok (w1 := ⟨ST K P Q r, []⟩) (op2_ok (x := .tup ms) (y := .int (k : Nat)) rfl rfl (ix_tupS hm)) (acons_ok (d := s) rfl (acons_ok (d := prime) rfl anil_ok)))
theorem m7_non {ms ss s : D} {k : Nat} {w : Wd} : M7 (δL ms ss (some prime) (some (.int (k : Nat))) (some s) (some .non)) w = .ok (.nx, δL ms ss (some prime) (some (.int (k : Nat))) (some s) (some .non)) w := by kernel_rfl
theorem m7_bad {ms ss s word : D} {path : List D} {k : Nat} {w : Wd} (hl : path.length ≤ 10) : M7 (δL ms ss (some prime) (some (.int (k : Nat))) (some s) (some (.tup [.tup path, word]))) w = .ok (.rt (.tup [.tup (.int ((k : Nat) + 1) :: path), word]), δL ms ss (some prime) (some (.int (k : Nat))) (some s) (some (.tup [.tup path, word]))) w := by
  have t : (tB_ (eOp (opIs true) (eVar 6) (eC .non))) (δL ms ss (some prime) (some (.int (k : Nat))) (some s) (some (.tup [.tup path, word]))) w = .ok true w := by kernel_rfl
  have e : (eTup (aCons (eTup (aCons (eOp opAdd (eVar 4) (eC (.int 1))) (aStar (eOp opIx (eVar 6) (eC (.int 0))) aNil))) (aCons (eOp opIx (eVar 6) (eC (.int 1))) aNil))) (δL ms ss (some prime) (some (.int (k : Nat))) (some s) (some (.tup [.tup path, word]))) w = .ok (.tup [.tup (.int ((k : Nat) + 1) :: path), word]) w := by
    refine tup_ok (acons_ok (tup_ok (ds := .int ((k : Nat) + 1) :: path) (acons_ok (d := .int ((k : Nat) + 1)) rfl ?_) (by rw [List.length_cons]; omega)) (acons_ok (d := word) rfl anil_ok)) (by simp)
    show aStar _ _ _ _ = _
    unfold aStar
    show Res.bind (Res.ok (D.tup path) w) _ = _
    rw [bind_ok]
    show Res.ok (path ++ []) w = _
    rw [List.append_nil]
  unfold M7
  rw [if_t t, seq_rt (ret_ok e)]
/-- what is lacking, from the k-th member on -/
inductive LackR (K P Q : List (Key × D)) (r : List SO) (ms : List D) : Nat → List D → D → D → Prop
  | nil (k : Nat) (prime : D) : LackR K P Q r ms k [] prime .non
  | bad {k : Nat} {m s prime word : D} {path ss : List D} : ms[k]? = some m → F_member_fault [.loc 0, m, s, prime] (ST K P Q r) = .ok (.tup [.tup path, word]) ⟨ST K P Q r, []⟩ → path.length ≤ 10 → word.cl = true → D.clL path = true → LackR K P Q r ms k (s :: ss) prime (.tup [.tup (.int ((k : Nat) + 1) :: path), word])
  | fine {k : Nat} {m s prime prime' res : D} {ss : List D} : ms[k]? = some m → F_member_fault [.loc 0, m, s, prime] (ST K P Q r) = .ok .non ⟨ST K P Q r, []⟩ → (∀ ss', eP (δL (.tup ms) ss' (some prime) (some (.int (k : Nat))) (some s) (some .non)) ⟨ST K P Q r, []⟩ = .ok prime' ⟨ST K P Q r, []⟩) → LackR K P Q r ms (k + 1) ss prime' res → LackR K P Q r ms k (s :: ss) prime res
theorem LackR.cl {ms : List D} {k : Nat} {ss : List D} {prime res : D} (h : LackR K P Q r ms k ss prime res) : res.cl = true := by
  induction h with
  | nil => rfl
  | bad _ _ _ h1 h2 => simp [D.cl, D.clL, h1, h2]
  | fine _ _ _ _ ih => exact ih
theorem lack_loop {ms : List D} {k : Nat} {ss : List D} {prime res S : D} (h : LackR K P Q r ms k ss prime res) : ∀ (k0 s0 f0 : Option D), (∃ δ', forD gE LB (enumD k ss) (δL (.tup ms) S (some prime) k0 s0 f0) ⟨ST K P Q r, []⟩ = .ok (.rt res, δ') ⟨ST K P Q r, []⟩) ∨ (res = .non ∧ ∃ p' k' s' f', forD gE LB (enumD k ss) (δL (.tup ms) S (some prime) k0 s0 f0) ⟨ST K P Q r, []⟩ = .ok (.nx, δL (.tup ms) S p' k' s' f') ⟨ST K P Q r, []⟩) := by
  induction h with
  | nil k prime => exact fun k0 s0 f0 => .inr ⟨rfl, _, _, _, _, rfl⟩
  | bad hm hf hl _ _ =>
    rename_i k m s prime word path ss _ _
    intro k0 s0 f0
    refine .inl ⟨δL (.tup ms) S (some prime) (some (.int (k : Nat))) (some s) (some (.tup [.tup path, word])), ?_⟩
    rw [enumD, forD]
    show Res.bind (LB (δL (.tup ms) S (some prime) (some (.int (k : Nat))) (some s) f0) ⟨ST K P Q r, []⟩) _ = _
    rw [LB_M, seq_nx (m6_ok hm hf), seq_rt (m7_bad hl), bind_ok]
  | fine hm hf hp _ ih =>
    rename_i k m s prime prime' res ss _
    intro k0 s0 f0
    have e : LB (δL (.tup ms) S (some prime) (some (.int (k : Nat))) (some s) f0) ⟨ST K P Q r, []⟩ = .ok (.nx, δL (.tup ms) S (some prime') (some (.int (k : Nat))) (some s) (some .non)) ⟨ST K P Q r, []⟩ := by
      rw [LB_M, seq_nx (m6_ok hm hf), seq_nx m7_non]
      unfold M8
      rw [seq_nx (set_ok (hp S))]
      rfl
    rw [enumD, for_nx (δ1 := δL (.tup ms) S (some prime) (some (.int (k : Nat))) (some s) f0) (w1 := ⟨ST K P Q r, []⟩) rfl e]
    exact ih _ _ _
end
end Lk04

set_option Elab.async false
set_option linter.all false
set_option maxRecDepth 100000
set_option maxHeartbeats 0
/-! k04: lacking, by forms. -/
namespace Lk04
open PySem L2 DP
section
variable {K P Q : List (Key × D)} {r : List SO} {y f g : Str} {kd : Str} {pr prime : D}
theorem lack_ok {ms ss : List D} {res : D} (h : LackR K P Q r ms 0 ss .non res) : F_lacking [.loc 0, .tup ms, .tup ss] (ST K P Q r) = .ok res ⟨ST K P Q r, []⟩ := by
  have s1 : (sSet 3 (eC .non)) (δL (.tup ms) (.tup ss) none none none none) ⟨ST K P Q r, []⟩ = .ok (.nx, δL (.tup ms) (.tup ss) (some .non) none none none) ⟨ST K P Q r, []⟩ := rfl
  have sh : m_lacking = (sSeq (sSet 3 (eC .non)) (sSeq (sFor (iEnumM (aCons (eVar 2) aNil)) gE LB) (sSeq (sRet (eC .non)) sNil))) := rfl
  have hcl := h.cl
  rcases lack_loop (S := .tup ss) h none none none with ⟨δ', e⟩ | ⟨rfl, p', k', s', f', e⟩
  · have em : m_lacking (δL (.tup ms) (.tup ss) none none none none) ⟨ST K P Q r, []⟩ = .ok (.rt res, δ') ⟨ST K P Q r, []⟩ := by
      rw [sh, seq_nx s1, seq_rt ((for_run (ds := enumD 0 ss) (w1 := ⟨ST K P Q r, []⟩) (show (iEnumM (aCons (eVar 2) aNil)) _ _ = _ from rfl)).trans e)]
    exact fn_rt (nl := 7) (np := 3) (m := m_lacking) (ds := [.loc 0, .tup ms, .tup ss]) (δ0 := δL (.tup ms) (.tup ss) none none none none) rfl rfl em hcl
  · have em : m_lacking (δL (.tup ms) (.tup ss) none none none none) ⟨ST K P Q r, []⟩ = .ok (.rt .non, δL (.tup ms) (.tup ss) p' k' s' f') ⟨ST K P Q r, []⟩ := by
      rw [sh, seq_nx s1, seq_nx ((for_run (ds := enumD 0 ss) (w1 := ⟨ST K P Q r, []⟩) (show (iEnumM (aCons (eVar 2) aNil)) _ _ = _ from rfl)).trans e)]
      rfl
    exact fn_rt (nl := 7) (np := 3) (m := m_lacking) (ds := [.loc 0, .tup ms, .tup ss]) (δ0 := δL (.tup ms) (.tup ss) none none none none) rfl rfl em hcl
/-- the prime behind a member that is no lot -/
theorem eP_same {ms : List D} {ss s prime : D} {k : Nat} (hs : s = .str "poly" ∨ s = .str "any" ∨ s = .str "number" ∨ s = .str "digits") : eP (δL (.tup ms) ss (some prime) (some (.int (k : Nat))) (some s) (some .non)) ⟨ST K P Q r, []⟩ = .ok prime ⟨ST K P Q r, []⟩ := by
  rcases hs with rfl | rfl | rfl | rfl <;> kernel_rfl
theorem eP_lot {ms : List D} {ss prime : D} {k : Nat} (hm : ms[k]? = some (.str y)) (h : valD K (.inr y) = some (.tup [.str kd, pr])) : eP (δL (.tup ms) ss (some prime) (some (.int (k : Nat))) (some (.str "lot")) (some .non)) ⟨ST K P Q r, []⟩ = .ok pr ⟨ST K P Q r, []⟩ := by
  unfold eP
  rw [eif_t (w1 := ⟨ST K P Q r, []⟩) (by kernel_rfl)]
  refine op2_ok (x := .tup [.str kd, pr]) (y := .int 1) (w1 := ⟨ST K P Q r, []⟩) (w2 := ⟨ST K P Q r, []⟩) ?_ rfl rfl
  refine op2_ok (x := .loc 1) (y := .str y) (w1 := ⟨ST K P Q r, []⟩) (w2 := ⟨ST K P Q r, []⟩) (by kernel_rfl) ?_ (ix_dk (kvs := K) rfl h)
  exact op2_ok (x := .tup ms) (y := .int (k : Nat)) rfl rfl (ix_tupS hm)
def poF (k : Int) : D := .tup [.tup [.int k], .str "poly"]
theorem lr_poly {ms ss : List D} {k : Nat} {prime res : D} (hm : ms[k]? = some (.str y)) (hy : (valD P (.inr y)).isSome = true) (t : LackR K P Q r ms (k + 1) ss prime res) : LackR K P Q r ms k (.str "poly" :: ss) prime res :=
  .fine hm (mf_poly hy) (fun _ => eP_same (.inl rfl)) t
theorem lr_any {ms ss : List D} {k : Nat} {m prime res : D} (hm : ms[k]? = some m) (t : LackR K P Q r ms (k + 1) ss prime res) : LackR K P Q r ms k (.str "any" :: ss) prime res :=
  .fine hm mf_any (fun _ => eP_same (.inr (.inl rfl))) t
theorem lr_nopoly {ms ss : List D} {k : Nat} {prime : D} (hm : ms[k]? = some (.str y)) (hy : (valD P (.inr y)).isSome = false) : LackR K P Q r ms k (.str "poly" :: ss) prime (poF ((k : Nat) + 1)) :=
  .bad (path := []) hm (mf_nopoly hy) (by simp) rfl rfl
theorem lr_nolot {ms ss : List D} {k : Nat} {prime : D} (hm : ms[k]? = some (.str y)) (hy : valD K (.inr y) = none) : LackR K P Q r ms k (.str "lot" :: ss) prime (.tup [.tup [.int ((k : Nat) + 1)], .str "lot"]) :=
  .bad (path := []) hm (mf_nolot hy) (by simp) rfl rfl
theorem lr_lot {ms ss : List D} {k : Nat} {res : D} (hm : ms[k]? = some (.str y)) (h : valD K (.inr y) = some (.tup [.str kd, pr])) (hk : kd = "lot" ∨ kd = "pipe") (t : LackR K P Q r ms (k + 1) ss pr res) : LackR K P Q r ms k (.str "lot" :: ss) .non res :=
  .fine hm (mf_lot h hk) (fun _ => eP_lot hm h) t
theorem lr_lot2 {ms ss : List D} {k : Nat} {res : D} {p : Int} (hm : ms[k]? = some (.str y)) (h : valD K (.inr y) = some (.tup [.str kd, .int p])) (hk : kd = "lot" ∨ kd = "pipe") (t : LackR K P Q r ms (k + 1) ss (.int p) res) : LackR K P Q r ms k (.str "lot" :: ss) (.int p) res := by
  have e := mf_lot2 (P := P) (Q := Q) (r := r) (p := p) h hk
  rw [if_pos (decide_eq_true rfl)] at e
  exact .fine hm e (fun _ => eP_lot hm h) t
theorem lr_lotp {ms ss : List D} {k : Nat} {p q : Int} (hm : ms[k]? = some (.str y)) (h : valD K (.inr y) = some (.tup [.str kd, .int q])) (hk : kd = "lot" ∨ kd = "pipe") (hne : q ≠ p) : LackR K P Q r ms k (.str "lot" :: ss) (.int p) (.tup [.tup [.int ((k : Nat) + 1)], .str "prime"]) := by
  have e := mf_lot2 (P := P) (Q := Q) (r := r) (p := p) h hk
  rw [if_neg (by rw [decide_eq_false hne]; decide)] at e
  exact .bad (path := []) hm e (by simp) rfl rfl
theorem lr_nil {ms : List D} {k : Nat} {prime : D} : LackR K P Q r ms k [] prime .non := .nil k prime
end
end Lk04

set_option Elab.async false
set_option linter.all false
set_option maxRecDepth 100000
set_option maxHeartbeats 0
/-! k04: wrong lots, pipes (texts of the mirrors printed). -/
namespace Lk04
open PySem L2 DP
section
variable {K P Q : List (Key × D)} {r : List SO} {y f g : Str} {kd : Str} {pr prime : D}
def wl0 : MS := (sIf (tB_ (eOp (opIn true) (eOp opIx (eVar 1) (eC (.int 2))) (eC g_PRIMES))) (sSeq (sRet (eTup (aCons (eTup (aCons (eC (.int 2)) aNil)) (aCons (eC g_PRIME) aNil)))) sNil) sNil)
def wl1 : MS := (sSet 2 (eOp opIx (eVar 1) (eC (.int 3))))
def wl2 : MS := (sSet 3 (eCall F_lacking (aCons (eVar 0) (aCons (eSlA (eVar 2) (oSome (eC (.int 1))) oNone) (aCons (eOp opIx (eC g_LOTS) (eOp opIx (eVar 2) (eC (.int 0)))) aNil)))))
def wl3 : MS := (sIf (tB_ (eOp (opIs true) (eVar 3) (eC .non))) (sSeq (sRet (eTup (aCons (eTup (aCons (eC (.int 3)) (aStar (eOp opIx (eVar 3) (eC (.int 0))) aNil))) (aCons (eOp opIx (eVar 3) (eC (.int 1))) aNil)))) sNil) sNil)
def wl4 : MS := (sIf (tAnd_ (tB_ (eOp opEq (eOp opIx (eVar 2) (eC (.int 0))) (eC (.str "rest")))) (tNot_ (tB_ (eChain opLt opLe (eC (.int 0)) (eOp opIx (eVar 2) (eC (.int 3))) (eC g_MOST_OF))))) (sSeq (sRet (eTup (aCons (eTup (aCons (eC (.int 3)) (aCons (eC (.int 3)) aNil))) (aCons (eC g_NUMBER) aNil)))) sNil) sNil)
def wl5 : MS := (sRet (eIf (tAnd_ (tB_ (eOp opEq (eOp opIx (eVar 2) (eC (.int 0))) (eC (.str "rest")))) (tB_ (eOp opGe (eOp opIx (eVar 2) (eC (.int 2))) (eOp opIx (eVar 2) (eC (.int 3)))))) (eTup (aCons (eTup (aCons (eC (.int 3)) (aCons (eC (.int 2)) aNil))) (aCons (eC g_NUMBER) aNil))) (eC .non)))
theorem wl_M : m_wrong_lot = (sSeq wl0 (sSeq wl1 (sSeq wl2 (sSeq wl3 (sSeq wl4 (sSeq wl5 sNil)))))) := rfl
def wm0 : MS := (sIf (tB_ (eOp opEq (eOp opIx (eVar 1) (eC (.int 0))) (eC g_POLY))) (sSeq (sRet (eCallP F_wrong_poly (aCons (eVar 1) aNil))) sNil) sNil)
def wm1 : MS := (sIf (tB_ (eOp opEq (eOp opIx (eVar 1) (eC (.int 0))) (eC g_LOT))) (sSeq (sRet (eCall F_wrong_lot (aCons (eVar 0) (aCons (eVar 1) aNil)))) sNil) sNil)
def wm2 : MS := (sIf (tB_ (eOp opEq (eOp opIx (eVar 1) (eC (.int 0))) (eC g_GROW))) (sSeq (sRet (eIf (tTr_ (eMth "Ahead" "is_named" F_Ahead_is_named (eVar 0) (aCons (eC g_LOT) (aCons (eOp opIx (eVar 1) (eC (.int 2))) aNil)))) (eC .non) (eTup (aCons (eTup (aCons (eC (.int 2)) aNil)) (aCons (eC g_LOT) aNil))))) sNil) sNil)
def wm3 : MS := (sSet 2 (eIf (tB_ (eOp opEq (eOp opIx (eVar 1) (eC (.int 0))) (eC (.str "pipe")))) (eOp opIx (eC g_PIPES) (eOp opIx (eOp opIx (eVar 1) (eC (.int 2))) (eC (.int 0)))) (eOp opIx (eC g_PROMISES) (eOp opIx (eOp opIx (eVar 1) (eC (.int 2))) (eC (.int 0))))))
def wm4 : MS := (sSet 3 (eCall F_lacking (aCons (eVar 0) (aCons (eSlA (eOp opIx (eVar 1) (eC (.int 2))) (oSome (eC (.int 1))) oNone) (aCons (eVar 2) aNil)))))
def wm5 : MS := (sRet (eIf (tB_ (eOp (opIs true) (eVar 3) (eC .non))) (eTup (aCons (eTup (aCons (eC (.int 2)) (aStar (eOp opIx (eVar 3) (eC (.int 0))) aNil))) (aCons (eOp opIx (eVar 3) (eC (.int 1))) aNil))) (eC .non)))
theorem wm_M : m_wrong_making = (sSeq wm0 (sSeq wm1 (sSeq wm2 (sSeq wm3 (sSeq wm4 (sSeq wm5 sNil)))))) := rfl
abbrev δw (item : D) (told fault : Option D) : DP.Env := [some (.loc 0), some item, told, fault]
def prs4 : List Int := [2, 3, 5, 7]
/-- what is lacking, as a whole fault of something told at place k -/
def atF (k : Int) : D → D
  | .tup [.tup path, word] => .tup [.tup (.int k :: path), word]
  | d => d
theorem wl0_ok {name told : D} {p : Int} (hp : p ∈ prs4) {w : Wd} : wl0 (δw (.tup [.str "lot", name, .int p, told]) none none) w = .ok (.nx, δw (.tup [.str "lot", name, .int p, told]) none none) w := by
  unfold prs4 at hp
  simp only [List.mem_cons, List.not_mem_nil, or_false] at hp
  rcases hp with rfl | rfl | rfl | rfl <;> kernel_rfl
theorem wl1_ok {name told : D} {p : Int} {w : Wd} : wl1 (δw (.tup [.str "lot", name, .int p, told]) none none) w = .ok (.nx, δw (.tup [.str "lot", name, .int p, told]) (some told) none) w := by kernel_rfl
theorem wl2_ok {name : D} {told ms ss : List D} {tg : Str} {p : Int} {lk : D} (ht : told = .str tg :: ms) (hs : ∀ w, (eOp opIx (eC g_LOTS) (eOp opIx (eVar 2) (eC (.int 0)))) (δw (.tup [.str "lot", name, .int p, .tup told]) (some (.tup told)) none) w = .ok (.tup ss) w) (h : F_lacking [.loc 0, .tup ms, .tup ss] (ST K P Q r) = .ok lk ⟨ST K P Q r, []⟩) :
    wl2 (δw (.tup [.str "lot", name, .int p, .tup told]) (some (.tup told)) none) ⟨ST K P Q r, []⟩ = .ok (.nx, δw (.tup [.str "lot", name, .int p, .tup told]) (some (.tup told)) (some lk)) ⟨ST K P Q r, []⟩ := by
  refine set_ok (callF_ok2 (w1 := ⟨ST K P Q r, []⟩) (ds := [.loc 0, .tup ms, .tup ss]) ?_ h (.inl rfl))
  refine acons_ok (d := .loc 0) rfl (acons_ok (d := .tup ms) (w1 := ⟨ST K P Q r, []⟩) ?_ (acons_ok (hs _) anil_ok))
  subst ht
  show Res.ok (D.tup (cutD (.str tg :: ms) (some ((1 : Nat) : Int)) none)) _ = _
  unfold cutD
  rw [HT.sIx_none, HT.sIx_nat]
  have e : min 1 (D.str tg :: ms).length = 1 := by rw [List.length_cons]; omega
  rw [e]
  show Res.ok (D.tup (ms.take ((ms.length + 1) - 1))) _ = _
  rw [Nat.add_sub_cancel, List.take_length]
theorem wl3_bad {item told word : D} {path : List D} {w : Wd} (hl : path.length ≤ 10) : wl3 (δw item (some told) (some (.tup [.tup path, word]))) w = .ok (.rt (.tup [.tup (.int 3 :: path), word]), δw item (some told) (some (.tup [.tup path, word]))) w := by
  have t : (tB_ (eOp (opIs true) (eVar 3) (eC .non))) (δw item (some told) (some (.tup [.tup path, word]))) w = .ok true w := by kernel_rfl
  have e : (eTup (aCons (eTup (aCons (eC (.int 3)) (aStar (eOp opIx (eVar 3) (eC (.int 0))) aNil))) (aCons (eOp opIx (eVar 3) (eC (.int 1))) aNil))) (δw item (some told) (some (.tup [.tup path, word]))) w = .ok (.tup [.tup (.int 3 :: path), word]) w := by
    refine tup_ok (acons_ok (tup_ok (ds := .int 3 :: path) (acons_ok (d := .int 3) rfl ?_) (by rw [List.length_cons]; omega)) (acons_ok (d := word) rfl anil_ok)) (by simp)
    unfold aStar
    show Res.bind (Res.ok (D.tup path) w) _ = _
    rw [bind_ok]
    show Res.ok (path ++ []) w = _
    rw [List.append_nil]
  unfold wl3
  rw [if_t t, seq_rt (ret_ok e)]
theorem wl3_fine {item told : D} {w : Wd} : wl3 (δw item (some told) (some .non)) w = .ok (.nx, δw item (some told) (some .non)) w := by kernel_rfl
theorem wlot_bad {name word : D} {told ms ss path : List D} {tg : Str} {p : Int} (hp : p ∈ prs4) (ht : told = .str tg :: ms) (hs : ∀ w, (eOp opIx (eC g_LOTS) (eOp opIx (eVar 2) (eC (.int 0)))) (δw (.tup [.str "lot", name, .int p, .tup told]) (some (.tup told)) none) w = .ok (.tup ss) w) (h : LackR K P Q r ms 0 ss .non (.tup [.tup path, word])) (hl : path.length ≤ 10) :
    F_wrong_lot [.loc 0, .tup [.str "lot", name, .int p, .tup told]] (ST K P Q r) = .ok (.tup [.tup (.int 3 :: path), word]) ⟨ST K P Q r, []⟩ := by
  have em : m_wrong_lot (δw (.tup [.str "lot", name, .int p, .tup told]) none none) ⟨ST K P Q r, []⟩ = .ok (.rt (.tup [.tup (.int 3 :: path), word]), δw (.tup [.str "lot", name, .int p, .tup told]) (some (.tup told)) (some (.tup [.tup path, word]))) ⟨ST K P Q r, []⟩ := by
    rw [wl_M, seq_nx (wl0_ok hp), seq_nx wl1_ok, seq_nx (wl2_ok ht hs (lack_ok h)), seq_rt (wl3_bad hl)]
  have hc := h.cl
  simp [D.cl, D.clL] at hc
  exact fn_rt (nl := 4) (np := 2) (m := m_wrong_lot) (ds := [.loc 0, .tup [.str "lot", name, .int p, .tup told]]) (δ0 := δw (.tup [.str "lot", name, .int p, .tup told]) none none) rfl rfl em (by simp [D.cl, D.clL, hc])
theorem wlot_fine {name res : D} {told ms ss : List D} {tg : Str} {p : Int} (hp : p ∈ prs4) (ht : told = .str tg :: ms) (hs : ∀ w, (eOp opIx (eC g_LOTS) (eOp opIx (eVar 2) (eC (.int 0)))) (δw (.tup [.str "lot", name, .int p, .tup told]) (some (.tup told)) none) w = .ok (.tup ss) w) (h : LackR K P Q r ms 0 ss .non .non)
    (h45 : ∃ δ', (sSeq wl4 (sSeq wl5 sNil)) (δw (.tup [.str "lot", name, .int p, .tup told]) (some (.tup told)) (some .non)) ⟨ST K P Q r, []⟩ = .ok (.rt res, δ') ⟨ST K P Q r, []⟩) (hc : res.cl = true) :
    F_wrong_lot [.loc 0, .tup [.str "lot", name, .int p, .tup told]] (ST K P Q r) = .ok res ⟨ST K P Q r, []⟩ := by
  obtain ⟨δ', e⟩ := h45
  have em : m_wrong_lot (δw (.tup [.str "lot", name, .int p, .tup told]) none none) ⟨ST K P Q r, []⟩ = .ok (.rt res, δ') ⟨ST K P Q r, []⟩ := by
    rw [wl_M, seq_nx (wl0_ok hp), seq_nx wl1_ok, seq_nx (wl2_ok ht hs (lack_ok h)), seq_nx wl3_fine, e]
  exact fn_rt (nl := 4) (np := 2) (m := m_wrong_lot) (ds := [.loc 0, .tup [.str "lot", name, .int p, .tup told]]) (δ0 := δw (.tup [.str "lot", name, .int p, .tup told]) none none) rfl rfl em hc
/-! pipes -/
theorem wpipe {name : D} {told ms ss : List D} {tg : Str} {lk : D} (ht : told = .str tg :: ms) (hs : ∀ w, wm3 (δw (.tup [.str "pipe", name, .tup told]) none none) w = .ok (.nx, δw (.tup [.str "pipe", name, .tup told]) (some (.tup ss)) none) w) (h : LackR K P Q r ms 0 ss .non lk)
    (h5 : wm5 (δw (.tup [.str "pipe", name, .tup told]) (some (.tup ss)) (some lk)) ⟨ST K P Q r, []⟩ = .ok (.rt (atF 2 lk), δw (.tup [.str "pipe", name, .tup told]) (some (.tup ss)) (some lk)) ⟨ST K P Q r, []⟩) (hc : (atF 2 lk).cl = true) :
    F_wrong_making [.loc 0, .tup [.str "pipe", name, .tup told]] (ST K P Q r) = .ok (atF 2 lk) ⟨ST K P Q r, []⟩ := by
  have e0 : wm0 (δw (.tup [.str "pipe", name, .tup told]) none none) ⟨ST K P Q r, []⟩ = .ok (.nx, δw (.tup [.str "pipe", name, .tup told]) none none) ⟨ST K P Q r, []⟩ := by kernel_rfl
  have e1 : wm1 (δw (.tup [.str "pipe", name, .tup told]) none none) ⟨ST K P Q r, []⟩ = .ok (.nx, δw (.tup [.str "pipe", name, .tup told]) none none) ⟨ST K P Q r, []⟩ := by kernel_rfl
  have e2 : wm2 (δw (.tup [.str "pipe", name, .tup told]) none none) ⟨ST K P Q r, []⟩ = .ok (.nx, δw (.tup [.str "pipe", name, .tup told]) none none) ⟨ST K P Q r, []⟩ := by kernel_rfl
  have e4 : wm4 (δw (.tup [.str "pipe", name, .tup told]) (some (.tup ss)) none) ⟨ST K P Q r, []⟩ = .ok (.nx, δw (.tup [.str "pipe", name, .tup told]) (some (.tup ss)) (some lk)) ⟨ST K P Q r, []⟩ := by
    refine set_ok (callF_ok2 (w1 := ⟨ST K P Q r, []⟩) (ds := [.loc 0, .tup ms, .tup ss]) ?_ (lack_ok h) (.inl rfl))
    refine acons_ok (d := .loc 0) rfl (acons_ok (d := .tup ms) (w1 := ⟨ST K P Q r, []⟩) ?_ (acons_ok (d := .tup ss) rfl anil_ok))
    subst ht
    show Res.ok (D.tup (cutD (.str tg :: ms) (some ((1 : Nat) : Int)) none)) _ = _
    unfold cutD
    rw [HT.sIx_none, HT.sIx_nat]
    have e : min 1 (D.str tg :: ms).length = 1 := by rw [List.length_cons]; omega
    rw [e]
    show Res.ok (D.tup (ms.take ((ms.length + 1) - 1))) _ = _
    rw [Nat.add_sub_cancel, List.take_length]
  have em : m_wrong_making (δw (.tup [.str "pipe", name, .tup told]) none none) ⟨ST K P Q r, []⟩ = .ok (.rt (atF 2 lk), δw (.tup [.str "pipe", name, .tup told]) (some (.tup ss)) (some lk)) ⟨ST K P Q r, []⟩ := by
    rw [wm_M, seq_nx e0, seq_nx e1, seq_nx e2, seq_nx (hs _), seq_nx e4, seq_rt h5]
  exact fn_rt (nl := 4) (np := 2) (m := m_wrong_making) (ds := [.loc 0, .tup [.str "pipe", name, .tup told]]) (δ0 := δw (.tup [.str "pipe", name, .tup told]) none none) rfl rfl em hc
theorem wm5_non {item S : D} {w : Wd} : wm5 (δw item (some S) (some .non)) w = .ok (.rt .non, δw item (some S) (some .non)) w := by kernel_rfl
theorem wm5_bad {item S word : D} {path : List D} {w : Wd} (hl : path.length ≤ 10) : wm5 (δw item (some S) (some (.tup [.tup path, word]))) w = .ok (.rt (.tup [.tup (.int 2 :: path), word]), δw item (some S) (some (.tup [.tup path, word]))) w := by
  have t : (tB_ (eOp (opIs true) (eVar 3) (eC .non))) (δw item (some S) (some (.tup [.tup path, word]))) w = .ok true w := by kernel_rfl
  have e : (eTup (aCons (eTup (aCons (eC (.int 2)) (aStar (eOp opIx (eVar 3) (eC (.int 0))) aNil))) (aCons (eOp opIx (eVar 3) (eC (.int 1))) aNil))) (δw item (some S) (some (.tup [.tup path, word]))) w = .ok (.tup [.tup (.int 2 :: path), word]) w := by
    refine tup_ok (acons_ok (tup_ok (ds := .int 2 :: path) (acons_ok (d := .int 2) rfl ?_) (by rw [List.length_cons]; omega)) (acons_ok (d := word) rfl anil_ok)) (by simp)
    unfold aStar
    show Res.bind (Res.ok (D.tup path) w) _ = _
    rw [bind_ok]
    show Res.ok (path ++ []) w = _
    rw [List.append_nil]
  exact ret_ok ((eif_t t).trans e)
/-- lots are made as lots -/
theorem making_lot {rest : List D} {v : D} (h : F_wrong_lot [.loc 0, .tup (.str "lot" :: rest)] (ST K P Q r) = .ok v ⟨ST K P Q r, []⟩) (hc : v.cl = true) : F_wrong_making [.loc 0, .tup (.str "lot" :: rest)] (ST K P Q r) = .ok v ⟨ST K P Q r, []⟩ := by
  have e0 : wm0 (δw (.tup (.str "lot" :: rest)) none none) ⟨ST K P Q r, []⟩ = .ok (.nx, δw (.tup (.str "lot" :: rest)) none none) ⟨ST K P Q r, []⟩ := by
    have t : (tB_ (eOp opEq (eOp opIx (eVar 1) (eC (.int 0))) (eC g_POLY))) (δw (.tup (.str "lot" :: rest)) none none) ⟨ST K P Q r, []⟩ = .ok false ⟨ST K P Q r, []⟩ := by
      refine tB_ok (op2_ok (x := .str "lot") (y := .str "poly") (w1 := ⟨ST K P Q r, []⟩) (w2 := ⟨ST K P Q r, []⟩) (op2_ok (x := .tup (.str "lot" :: rest)) (y := .int 0) rfl rfl (ix_tupS (n := 0) rfl)) rfl (by kernel_rfl))
    exact nil_f t
  have t1 : (tB_ (eOp opEq (eOp opIx (eVar 1) (eC (.int 0))) (eC g_LOT))) (δw (.tup (.str "lot" :: rest)) none none) ⟨ST K P Q r, []⟩ = .ok true ⟨ST K P Q r, []⟩ := by
    refine tB_ok (op2_ok (x := .str "lot") (y := .str "lot") (w1 := ⟨ST K P Q r, []⟩) (w2 := ⟨ST K P Q r, []⟩) (op2_ok (x := .tup (.str "lot" :: rest)) (y := .int 0) rfl rfl (ix_tupS (n := 0) rfl)) rfl (by kernel_rfl))
  have e1 : wm1 (δw (.tup (.str "lot" :: rest)) none none) ⟨ST K P Q r, []⟩ = .ok (.rt v, δw (.tup (.str "lot" :: rest)) none none) ⟨ST K P Q r, []⟩ := by
    unfold wm1
    rw [if_t t1]
    exact seq_rt (ret_ok (callF_ok2 (w1 := ⟨ST K P Q r, []⟩) (ds := [.loc 0, .tup (.str "lot" :: rest)]) rfl h (.inl rfl)))
  have em : m_wrong_making (δw (.tup (.str "lot" :: rest)) none none) ⟨ST K P Q r, []⟩ = .ok (.rt v, δw (.tup (.str "lot" :: rest)) none none) ⟨ST K P Q r, []⟩ := by
    rw [wm_M, seq_nx e0, seq_rt e1]
  exact fn_rt (nl := 4) (np := 2) (m := m_wrong_making) (ds := [.loc 0, .tup (.str "lot" :: rest)]) (δ0 := δw (.tup (.str "lot" :: rest)) none none) rfl rfl em hc
end
end Lk04

set_option Elab.async false
set_option linter.all false
set_option maxRecDepth 100000
set_option maxHeartbeats 0
/-! k04: one use, by its value. -/
namespace Lk04
open PySem L2 DP
section
variable {xs : List D} {k : Nat} {K P Q M : List (Key × D)} {x x1 W y v : D} {n : Str}
theorem use_val (hn : k < xs.length) (hx : D.clL xs = true) (hk : ∀ X, F_made_kinds [.tup xs, .int (k : Nat)] [X] = .ok (.loc 1) ⟨[X, .dK K], []⟩)
    (hp : ∀ s, F_things_ahead [.tup xs, .int (k : Nat), .tup [.str "poly"]] s = .ok (.loc s.length) ⟨s ++ [.dK P], []⟩) (hq : ∀ s, F_things_ahead [.tup xs, .int (k : Nat), .tup [.str "promise"]] s = .ok (.loc s.length) ⟨s ++ [.dK Q], []⟩)
    (hr : ∃ δ' w', restU (δU xs k none xs[k]) ⟨ST K P Q [], []⟩ = .ok (.rt v, δ') w') (hc : v.cl = true) : ∃ w, F_wrong_use [.tup xs, .int (k : Nat)] [] = .ok v w := by
  have m1 : eMake "Ahead" F_Ahead_init (aCons (eVar 0) (aCons (eVar 1) aNil)) [some (.tup xs), some (.int (k : Nat)), none, none, none] ⟨[], []⟩ = .ok (.loc 0) ⟨AI K P Q, []⟩ := by
    have c0 : callM F_Ahead_init [.loc 0, .tup xs, .int (k : Nat)] ⟨[.ins "Ahead" []], []⟩ = .ok .non ⟨AI K P Q, []⟩ := by
      rw [callM_nil, init_ok hx hk hp hq]
    show Res.bind (callM F_Ahead_init [.loc 0, .tup xs, .int (k : Nat)] ⟨[.ins "Ahead" []], []⟩) _ = _
    rw [c0]
    rfl
  have s1 : (sPar 3 4 (aCons (eOp opIx (eVar 0) (eVar 1)) (aCons (eMake "Ahead" F_Ahead_init (aCons (eVar 0) (aCons (eVar 1) aNil))) aNil))) [some (.tup xs), some (.int (k : Nat)), none, none, none] ⟨[], []⟩ = .ok (.nx, δU xs k none xs[k]) ⟨AI K P Q, []⟩ := by
    have i1 : eOp opIx (eVar 0) (eVar 1) [some (.tup xs), some (.int (k : Nat)), none, none, none] ⟨[], []⟩ = .ok xs[k] ⟨[], []⟩ := ix_tup hn
    exact par_ok (acons_ok i1 (acons_ok m1 anil_ok))
  obtain ⟨δ', w', e⟩ := hr
  have em : m_wrong_use [some (.tup xs), some (.int (k : Nat)), none, none, none] ⟨[], []⟩ = .ok (.rt v, δ') w' := by
    rw [use_shape, seq_nx s1]
    exact e
  exact ⟨_, fn_rt (nl := 5) (np := 2) (m := m_wrong_use) (ds := [.tup xs, .int (k : Nat)]) (δ0 := [some (.tup xs), some (.int (k : Nat)), none, none, none]) rfl rfl em hc⟩
theorem t4_val {b : Bool} (hx : D.clL xs = true) (hW : ∀ w, (eOp opIx (eC g_SORTS) (eVar 2)) (δU xs k (some y) x) w = .ok W w) (hx1 : ∀ w, (eOp opIx (eVar 3) (eC (.int 1))) (δU xs k (some y) x) w = .ok (.str n) w)
    (hm : ∀ s, F_things_ahead [.tup xs, .int (k : Nat), W] s = .ok (.loc s.length) ⟨s ++ [.dK M], []⟩) (hv : (valD M (.inr n)).isSome = b) : T4 (δU xs k (some y) x) ⟨ST K P Q [], []⟩ = .ok b ⟨ST K P Q [.dK M], []⟩ := by
  have a1 : (aCons (eVar 0) (aCons (eVar 1) (aCons (eOp opIx (eC g_SORTS) (eVar 2)) aNil))) (δU xs k (some y) x) ⟨ST K P Q [], []⟩ = .ok [.tup xs, .int (k : Nat), W] ⟨ST K P Q [], []⟩ :=
    acons_ok (d := .tup xs) rfl (acons_ok (d := .int (k : Nat)) rfl (acons_ok (hW _) anil_ok))
  have f1 := hx1 ⟨ST K P Q [], []⟩
  have f2 := callF_ok2 a1 (hm (ST K P Q [])) (.inl rfl)
  have hin : opIn false (.str n) (.loc 4) ⟨ST K P Q [.dK M], []⟩ = .ok (.bl b) ⟨ST K P Q [.dK M], []⟩ := by
    rw [← hv]
    rfl
  exact tB_ok (op2_ok f1 f2 hin)
theorem named_twice (hx : D.clL xs = true) (h2 : ∀ w, U2 (δU xs k none x) w = .ok (.nx, δU xs k (some y) x) w) (h3 : ∀ w, U3 (δU xs k (some y) x) w = .ok (.nx, δU xs k (some y) x) w)
    (hW : ∀ w, (eOp opIx (eC g_SORTS) (eVar 2)) (δU xs k (some y) x) w = .ok W w) (hx1 : ∀ w, (eOp opIx (eVar 3) (eC (.int 1))) (δU xs k (some y) x) w = .ok (.str n) w)
    (hm : ∀ s, F_things_ahead [.tup xs, .int (k : Nat), W] s = .ok (.loc s.length) ⟨s ++ [.dK M], []⟩) (hv : (valD M (.inr n)).isSome = true) : ∃ δ' w', restU (δU xs k none x) ⟨ST K P Q [], []⟩ = .ok (.rt (.tup [.tup [.int 1], .str "twice"]), δ') w' := by
  have s4 : U4 (δU xs k (some y) x) ⟨ST K P Q [], []⟩ = .ok (.rt (.tup [.tup [.int 1], .str "twice"]), δU xs k (some y) x) ⟨ST K P Q [.dK M], []⟩ := by
    unfold U4
    rw [if_t (t4_val hx hW hx1 hm hv)]
    rfl
  refine ⟨δU xs k (some y) x, ⟨ST K P Q [.dK M], []⟩, ?_⟩
  unfold restU
  rw [seq_nx (h2 _), seq_nx (h3 _), seq_rt s4]
theorem named_val (hx : D.clL xs = true) (h2 : ∀ w, U2 (δU xs k none x) w = .ok (.nx, δU xs k (some y) x) w) (h3 : ∀ w, U3 (δU xs k (some y) x) w = .ok (.nx, δU xs k (some y) x) w)
    (hW : ∀ w, (eOp opIx (eC g_SORTS) (eVar 2)) (δU xs k (some y) x) w = .ok W w) (hx1 : ∀ w, (eOp opIx (eVar 3) (eC (.int 1))) (δU xs k (some y) x) w = .ok (.str n) w)
    (hm : ∀ s, F_things_ahead [.tup xs, .int (k : Nat), W] s = .ok (.loc s.length) ⟨s ++ [.dK M], []⟩) (hv : (valD M (.inr n)).isSome = false)
    (h5 : ∃ w', F_wrong_making [.loc 0, x] (ST K P Q [.dK M]) = .ok v w') : ∃ δ' w', restU (δU xs k none x) ⟨ST K P Q [], []⟩ = .ok (.rt v, δ') w' := by
  obtain ⟨w', h5⟩ := h5
  have s4 : U4 (δU xs k (some y) x) ⟨ST K P Q [], []⟩ = .ok (.nx, δU xs k (some y) x) ⟨ST K P Q [.dK M], []⟩ := nil_f (t4_val hx hW hx1 hm hv)
  have s5 : U5 (δU xs k (some y) x) ⟨ST K P Q [.dK M], []⟩ = .ok (.rt v, δU xs k (some y) x) ⟨w'.s, []⟩ :=
    ret_ok (callF_ok2 (w1 := ⟨ST K P Q [.dK M], []⟩) (ds := [.loc 0, x]) rfl h5 (.inl rfl))
  refine ⟨δU xs k (some y) x, ⟨w'.s, []⟩, ?_⟩
  unfold restU
  rw [seq_nx (h2 _), seq_nx (h3 _), seq_nx s4, seq_rt s5]
end
end Lk04

set_option Elab.async false
set_option linter.all false
set_option maxRecDepth 100000
set_option maxHeartbeats 0
/-! k04: right sessions, and what stands ahead in them. -/
namespace Lk04
open PySem L2 DP
structure Pt where
  n : Str
  it : D
structure Lt where
  n : Str
  kd : Str
  p : Int
  it : D
abbrev pI (n : Str) (fs : List D) : D := .tup [.str "poly", .str n, .tup fs]
abbrev lI (n : Str) (p : Int) (told : D) : D := .tup [.str "lot", .str n, .int p, told]
abbrev qI (n tg w : Str) (ms : List D) : D := .tup [.str "pipe", .str n, .tup (.str tg :: .str w :: ms)]
def Pd (P : List Pt) : List (Key × D) := P.map fun q => (.inr q.n, q.it)
def Kd (L : List Lt) : List (Key × D) := L.map fun l => (.inr l.n, .tup [.str l.kd, .int l.p])
def Td (L : List Lt) : List (Key × D) := L.map fun l => (.inr l.n, l.it)
def Right (P : List Pt) (L : List Lt) (x : D) : Prop := ∀ r, F_wrong_making [.loc 0, x] (ST (Kd L) (Pd P) [] r) = .ok .non ⟨ST (Kd L) (Pd P) [] r, []⟩
/-- one more right item -/
inductive Stp (P : List Pt) (L : List Lt) : D → List Pt → List Lt → Prop
  | poly (n : Str) (fs : List D) : (∀ q ∈ P, q.n ≠ n) → D.puL fs = true → Right P L (pI n fs) → Stp P L (pI n fs) (P ++ [⟨n, pI n fs⟩]) L
  | lot (n : Str) (p : Int) (told : D) : (∀ l ∈ L, l.n ≠ n) → told.pu = true → Right P L (lI n p told) → Stp P L (lI n p told) P (L ++ [⟨n, "lot", p, lI n p told⟩])
  | pipe (n tg w : Str) (ms : List D) (l : Lt) : (∀ l ∈ L, l.n ≠ n) → l ∈ L → l.n = w → D.puL ms = true → Right P L (qI n tg w ms) → Stp P L (qI n tg w ms) P (L ++ [⟨n, "pipe", l.p, qI n tg w ms⟩])
inductive Ses : List D → List Pt → List Lt → Prop
  | nil : Ses [] [] []
  | snoc {ys : List D} {P P' : List Pt} {L L' : List Lt} {x : D} : Ses ys P L → Stp P L x P' L' → Ses (ys ++ [x]) P' L'
theorem Ses.split {ys : List D} {P : List Pt} {L : List Lt} (h : Ses ys P L) : ∀ j (hj : j < ys.length), ∃ P0 L0 P1 L1, Ses (ys.take j) P0 L0 ∧ Stp P0 L0 ys[j] P1 L1 := by
  induction h with
  | nil => intro j hj; exact absurd hj (by simp)
  | snoc r o ih =>
    rename_i ys P P' L L' x
    intro j hj
    by_cases h : j < ys.length
    · obtain ⟨P0, L0, P1, L1, q1, q2⟩ := ih j h
      refine ⟨P0, L0, P1, L1, ?_, ?_⟩
      · rw [List.take_append_of_le_length (Nat.le_of_lt h)]; exact q1
      · rw [List.getElem_append_left h]; exact q2
    · have e : j = ys.length := by rw [List.length_append, List.length_singleton] at hj; omega
      subst e
      refine ⟨P, L, P', L', ?_, ?_⟩
      · rw [List.take_left]; exact r
      · rw [List.getElem_append_right (Nat.le_refl _)]; simpa using o
theorem Stp.pu {P P' : List Pt} {L L' : List Lt} {x : D} (h : Stp P L x P' L') : x.pu = true := by
  cases h with
  | poly n fs h1 h2 _ => simp [D.pu, D.puL, h2]
  | lot n p told h1 h2 _ => simp [D.pu, D.puL, h2]
  | pipe n tg w ms l h1 h2 h3 h4 _ => simp [D.pu, D.puL, h4]
theorem Ses.pu {ys : List D} {P : List Pt} {L : List Lt} (h : Ses ys P L) : D.puL ys = true := by
  induction h with
  | nil => rfl
  | snoc _ o ih => exact puL_app ih (by rw [D.puL, o.pu]; rfl)
theorem nd_app {α : Type} {f : α → Str} {xs : List α} {x : α} (h : (xs.map f).Nodup) (h2 : ∀ y ∈ xs, f y ≠ f x) : ((xs ++ [x]).map f).Nodup := by
  rw [List.map_append, List.nodup_append]
  refine ⟨h, by simp, fun a ha b hb => ?_⟩
  obtain ⟨y, hy, rfl⟩ := List.mem_map.mp ha
  rw [List.mem_singleton.mp hb]
  exact h2 y hy
theorem Ses.nd {ys : List D} {P : List Pt} {L : List Lt} (h : Ses ys P L) : (P.map (·.n)).Nodup ∧ (L.map (·.n)).Nodup := by
  induction h with
  | nil => exact ⟨List.nodup_nil, List.nodup_nil⟩
  | snoc _ o ih =>
    cases o with
    | poly n fs h1 h2 _ => exact ⟨nd_app ih.1 h1, ih.2⟩
    | lot n p told h1 h2 _ => exact ⟨ih.1, nd_app ih.2 h1⟩
    | pipe n tg w ms l h1 h2 h3 h4 _ => exact ⟨ih.1, nd_app ih.2 h1⟩
/-! dicts of names -/
section
variable {α : Type} {f : α → Str} {g : α → D}
theorem val_none : ∀ {xs : List α} {n : Str}, (∀ y ∈ xs, f y ≠ n) → valD (xs.map fun x => ((.inr (f x) : Key), g x)) (.inr n) = none
  | [], n, _ => rfl
  | x :: xs, n, h => by
    have ih := val_none (xs := xs) (n := n) fun y hy => h y (List.mem_cons_of_mem _ hy)
    unfold valD at ih ⊢
    rw [List.map_cons, List.find?_cons_of_neg]
    · exact ih
    · intro e
      have e : (Sum.inr (f x) : Key) = .inr n := of_decide_eq_true e
      injection e with e
      exact h x List.mem_cons_self e
theorem val_some : ∀ {xs : List α} {x : α}, (xs.map f).Nodup → x ∈ xs → valD (xs.map fun x => ((.inr (f x) : Key), g x)) (.inr (f x)) = some (g x)
  | y :: ys, x, hn, hx => by
    rw [List.map_cons, List.nodup_cons] at hn
    rcases List.mem_cons.mp hx with e | e
    · subst e
      unfold valD
      rw [List.map_cons, List.find?_cons_of_pos]
      · rfl
      · exact decide_eq_true rfl
    · have ih := val_some hn.2 e
      unfold valD at ih ⊢
      rw [List.map_cons, List.find?_cons_of_neg]
      · exact ih
      · intro z
        have z : (Sum.inr (f y) : Key) = .inr (f x) := of_decide_eq_true z
        injection z with z
        exact hn.1 (List.mem_map.mpr ⟨x, e, z.symm⟩)
theorem two_map : ∀ xs : List α, twoD (xs.map fun x => D.tup [.str (f x), g x]) = some (xs.map fun x => ((.inr (f x) : Key), g x))
  | [] => rfl
  | x :: xs => by
    rw [List.map_cons, List.map_cons]
    unfold twoD
    show (match keyD (.str (f x)), twoD (xs.map fun x => D.tup [.str (f x), g x]) with
      | some k, some r => some ((k, g x) :: r)
      | _, _ => none) = _
    rw [two_map xs]
    rfl
theorem put_fresh : ∀ {acc : List (Key × D)} {k : Key} {d : D}, (∀ kv ∈ acc, kv.1 ≠ k) → putD acc k d = acc ++ [(k, d)] := fun {acc k d} h => by
  unfold putD
  rw [if_neg]
  rw [List.any_eq_true]
  rintro ⟨kv, h1, h2⟩
  exact h kv h1 (of_decide_eq_true h2)
theorem merge_fresh : ∀ (kvs acc : List (Key × D)), (∀ kv ∈ kvs, ∀ ab ∈ acc, ab.1 ≠ kv.1) → (kvs.map (·.1)).Nodup → mergeD acc kvs = acc ++ kvs
  | [], acc, _, _ => (List.append_nil _).symm
  | kv :: kvs, acc, h, hn => by
    rw [List.map_cons, List.nodup_cons] at hn
    show mergeD (putD acc kv.1 kv.2) kvs = _
    rw [put_fresh fun ab hab => h kv List.mem_cons_self ab hab, merge_fresh kvs _ (fun x hx ab hab => ?_) hn.2, List.append_assoc]
    · rfl
    · rcases List.mem_append.mp hab with q | q
      · exact h x (List.mem_cons_of_mem _ hx) ab q
      · rw [List.mem_singleton.mp q]
        exact fun z => hn.1 (List.mem_map.mpr ⟨x, hx, z.symm⟩)
theorem nd_inr : ∀ {ns : List Str}, ns.Nodup → (ns.map fun n => (Sum.inr n : Key)).Nodup
  | [], _ => List.nodup_nil
  | n :: ns, h => by
    rw [List.nodup_cons] at h
    rw [List.map_cons, List.nodup_cons]
    refine ⟨fun z => ?_, nd_inr h.2⟩
    obtain ⟨y, hy, e⟩ := List.mem_map.mp z
    injection e with e
    exact h.1 (by rw [← e]; exact hy)
theorem merge_map {xs : List α} (hn : (xs.map f).Nodup) : mergeD [] (xs.map fun x => ((.inr (f x) : Key), g x)) = xs.map fun x => ((.inr (f x) : Key), g x) := by
  rw [merge_fresh _ [] (fun _ _ _ h => nomatch h) ?_, List.nil_append]
  rw [List.map_map]
  have := nd_inr hn
  rw [List.map_map] at this
  exact this
end
/-! ahead -/
abbrev WP : D := .tup [.str "poly"]
abbrev WQ : D := .tup [.str "promise"]
abbrev WM : D := .tup [.str "lot", .str "pipe", .str "grow"]
abbrev WI : D := .tup [.str "lot", .str "pipe"]
theorem comp_app {g : MG} {t : MT} {e : ME} {vs : List Nat} {δ : DP.Env} : ∀ {a b p q : List D} {w w1 w2 : Wd}, compD g t e vs δ a w = .ok p w1 → compD g t e vs δ b w1 = .ok q w2 → compD g t e vs δ (a ++ b) w = .ok (p ++ q) w2
  | [], b, p, q, w, w1, w2, h1, h2 => by cases h1; exact h2
  | d :: ds, b, p, q, w, w1, w2, h1, h2 => by
    rw [compD] at h1
    rw [List.cons_append, compD]
    cases e1 : g d (wipeD δ vs) w with
    | exc c as s => rw [e1] at h1; cases h1
    | stuck => rw [e1] at h1; cases h1
    | ok δ1 u1 =>
      rw [e1, bind_ok] at h1
      rw [bind_ok]
      cases e2 : t δ1 u1 with
      | exc c as s => rw [e2] at h1; cases h1
      | stuck => rw [e2] at h1; cases h1
      | ok z u2 =>
        rw [e2, bind_ok] at h1
        rw [bind_ok]
        cases z with
        | false =>
          rw [if_neg (by decide)] at h1 ⊢
          exact comp_app h1 h2
        | true =>
          rw [if_pos rfl] at h1 ⊢
          cases e3 : e δ1 u2 with
          | exc c as s => rw [e3] at h1; cases h1
          | stuck => rw [e3] at h1; cases h1
          | ok y u3 =>
            rw [e3, bind_ok] at h1
            rw [bind_ok]
            cases e4 : compD g t e vs δ ds u3 with
            | exc c as s => rw [e4] at h1; cases h1
            | stuck => rw [e4] at h1; cases h1
            | ok ys u4 =>
              rw [e4, bind_ok] at h1
              cases h1
              rw [comp_app e4 h2, bind_ok]
              rfl
section
variable {ys xs : List D} {k : Nat} {P : List Pt} {L : List Lt}
theorem taP_run (h : Ses ys P L) (w : Wd) : cTA xs k WP ys w = .ok (P.map fun q => .tup [.str q.n, q.it]) w := by
  induction h with
  | nil => rfl
  | snoc r o ih =>
    cases o with
    | poly n fs h1 h2 _ =>
      rw [List.map_append]
      exact comp_app ih (by kernel_rfl)
    | lot n p told h1 h2 _ =>
      have := comp_app ih (show cTA xs k WP [lI n p told] w = .ok [] w by kernel_rfl)
      rw [List.append_nil] at this
      exact this
    | pipe n tg v ms l h1 h2 h3 h4 _ =>
      have := comp_app ih (show cTA xs k WP [qI n tg v ms] w = .ok [] w by kernel_rfl)
      rw [List.append_nil] at this
      exact this
theorem taQ_run (h : Ses ys P L) (w : Wd) : cTA xs k WQ ys w = .ok [] w := by
  induction h with
  | nil => rfl
  | snoc r o ih =>
    cases o with
    | poly n fs h1 h2 _ => exact comp_app ih (show cTA xs k WQ [pI n fs] w = .ok [] w by kernel_rfl)
    | lot n p told h1 h2 _ => exact comp_app ih (show cTA xs k WQ [lI n p told] w = .ok [] w by kernel_rfl)
    | pipe n tg v ms l h1 h2 h3 h4 _ => exact comp_app ih (show cTA xs k WQ [qI n tg v ms] w = .ok [] w by kernel_rfl)
theorem taL_run {W : D} (hW : W = WM ∨ W = WI) (h : Ses ys P L) (w : Wd) : cTA xs k W ys w = .ok (L.map fun l => .tup [.str l.n, l.it]) w := by
  induction h with
  | nil => rfl
  | snoc r o ih =>
    cases o with
    | poly n fs h1 h2 _ =>
      have := comp_app ih (show cTA xs k W [pI n fs] w = .ok [] w by rcases hW with rfl | rfl <;> kernel_rfl)
      rw [List.append_nil] at this
      exact this
    | lot n p told h1 h2 _ =>
      rw [List.map_append]
      exact comp_app ih (by rcases hW with rfl | rfl <;> kernel_rfl)
    | pipe n tg v ms l h1 h2 h3 h4 _ =>
      rw [List.map_append]
      exact comp_app ih (by rcases hW with rfl | rfl <;> kernel_rfl)
end
end Lk04

set_option Elab.async false
set_option linter.all false
set_option maxRecDepth 100000
set_option maxHeartbeats 0
/-! k04: uses in sessions. -/
namespace Lk04
open PySem L2 DP
/-- a loop's turns, none of which ends it -/
inductive Turns (g : MG) (b : MS) : List D → DP.Env → Wd → DP.Env → Wd → Prop
  | nil (δ : DP.Env) (w : Wd) : Turns g b [] δ w δ w
  | cons {d : D} {ds : List D} {δ δa δb δ1 : DP.Env} {w wa wb w1 : Wd} : g d δ w = .ok δa wa → b δa wa = .ok (.nx, δb) wb → Turns g b ds δb wb δ1 w1 → Turns g b (d :: ds) δ w δ1 w1
theorem Turns.app {g : MG} {b : MS} {a c : List D} {δ δ1 δ2 : DP.Env} {w w1 w2 : Wd} (h : Turns g b a δ w δ1 w1) (k : Turns g b c δ1 w1 δ2 w2) : Turns g b (a ++ c) δ w δ2 w2 := by
  induction h with
  | nil => exact k
  | cons e1 e2 _ ih => exact .cons e1 e2 (ih k)
theorem Turns.one {g : MG} {b : MS} {d : D} {δ δa δb : DP.Env} {w wa wb : Wd} (e1 : g d δ w = .ok δa wa) (e2 : b δa wa = .ok (.nx, δb) wb) : Turns g b [d] δ w δb wb := .cons e1 e2 (.nil _ _)
theorem Turns.run {g : MG} {b : MS} {a : List D} {δ δ1 : DP.Env} {w w1 : Wd} (h : Turns g b a δ w δ1 w1) : forD g b a δ w = .ok (.nx, δ1) w1 := by
  induction h with
  | nil => rfl
  | cons e1 e2 _ ih => rw [for_nx e1 e2]; exact ih
theorem put_dk {n : Nat} {w : Wd} {kvs : List (Key × D)} {y : Str} {d : D} (h : w.s[n]? = some (.dK kvs)) (hc : d.cl = true) (hl : kvs.length < sizeLine) : opPut (.loc n) (.str y) d w = .ok () ⟨w.s.set n (.dK (putD kvs (.inr y) d)), w.l⟩ := by
  have g : w.get (.loc n) = some (.dK kvs) := h
  unfold opPut
  rw [g]
  show (if cln (.loc n) d = true ∧ kvs.length < sizeLine then Res.ok () (w.put (.loc n) (.dK (putD kvs (.inr y) d))) else .stuck) = _
  rw [if_pos ⟨hc, hl⟩]
  rfl
section
variable {mo mi m : ME} {g : MG} {δ δ1 : DP.Env} {w w1 w2 w3 : Wd} {o i d : D}
theorem gsub_ok (h1 : mo δ w = .ok o w1) (h2 : mi δ w1 = .ok i w2) (h3 : opPut o i d w2 = .ok () w3) : gSub_ mo mi d δ w = .ok δ w3 := by
  unfold gSub_
  rw [h1, bind_ok, h2, bind_ok, h3, bind_ok]
theorem asg_ok (h1 : m δ w = .ok d w1) (h2 : g d δ w1 = .ok δ1 w2) : sAsg g m δ w = .ok (.nx, δ1) w2 := by
  unfold sAsg
  rw [h1, bind_ok, h2, bind_ok]
theorem seq_one {s : MS} {δ' : DP.Env} {w' : Wd} (h : s δ w = .ok (.nx, δ') w') : sSeq s sNil δ w = .ok (.nx, δ') w' := by rw [seq_nx h]; rfl
end
abbrev δM (xs : List D) (k : Nat) (x : Option D) : DP.Env := [some (.tup xs), some (.int (k : Nat)), some (.loc 1), x]
abbrev wM (X : SO) (kv : List (Key × D)) : Wd := ⟨[X, .dK kv], []⟩
theorem Kd_put {L : List Lt} {n kd : Str} {p : Int} {it : D} (h : ∀ l ∈ L, l.n ≠ n) : putD (Kd L) (.inr n) (.tup [.str kd, .int p]) = Kd (L ++ [⟨n, kd, p, it⟩]) := by
  rw [put_fresh]
  · unfold Kd
    rw [List.map_append]
    rfl
  · intro kv hkv e
    obtain ⟨l, hl, rfl⟩ := List.mem_map.mp hkv
    injection e with e
    exact h l hl e
section
variable {ys xs : List D} {k : Nat} {P P' : List Pt} {L L' : List Lt} {x : D} {X : SO}
theorem Kd_len (L : List Lt) : (Kd L).length = L.length := List.length_map _
theorem mk_one (h : Stp P L x P' L') (hnd : (L.map (·.n)).Nodup) (hl : L.length < 1000) : bMK (δM xs k (some x)) (wM X (Kd L)) = .ok (.nx, δM xs k (some x)) (wM X (Kd L')) := by
  have hz : (Kd L).length < sizeLine := by rw [Kd_len]; exact Nat.lt_of_lt_of_le hl (by decide)
  cases h with
  | poly n fs h1 h2 _ => kernel_rfl
  | lot n p told h1 h2 _ =>
    have s1 : (sAsg (gSub_ (eVar 2) (eOp opIx (eVar 3) (eC (.int 1)))) (eTup (aCons (eC g_LOT) (aCons (eOp opIx (eVar 3) (eC (.int 2))) aNil)))) (δM xs k (some (lI n p told))) (wM X (Kd L)) = .ok (.nx, δM xs k (some (lI n p told))) (wM X (Kd (L ++ [⟨n, "lot", p, lI n p told⟩]))) := by
      refine asg_ok (d := .tup [.str "lot", .int p]) (w1 := wM X (Kd L)) (by kernel_rfl) (gsub_ok (o := .loc 1) (i := .str n) (w1 := wM X (Kd L)) (w2 := wM X (Kd L)) rfl (by kernel_rfl) ?_)
      rw [put_dk (n := 1) (kvs := Kd L) rfl rfl hz, Kd_put (it := lI n p told) h1]
      rfl
    have t1 : (tB_ (eOp opEq (eOp opIx (eVar 3) (eC (.int 0))) (eC g_LOT))) (δM xs k (some (lI n p told))) (wM X (Kd L)) = .ok true (wM X (Kd L)) := by kernel_rfl
    unfold bMK
    rw [seq_nx ((if_t t1).trans (seq_one s1))]
    kernel_rfl
  | pipe n tg v ms l h1 h2 h3 h4 _ =>
    subst h3
    have hv : valD (Kd L) (.inr l.n) = some (.tup [.str l.kd, .int l.p]) := val_some (f := fun l : Lt => l.n) (g := fun l : Lt => .tup [.str l.kd, .int l.p]) hnd h2
    have e2 : (eOp opIx (eOp opIx (eVar 2) (eOp opIx (eOp opIx (eVar 3) (eC (.int 2))) (eC (.int 1)))) (eC (.int 1))) (δM xs k (some (qI n tg l.n ms))) (wM X (Kd L)) = .ok (.int l.p) (wM X (Kd L)) := by
      refine op2_ok (x := .tup [.str l.kd, .int l.p]) (y := .int 1) (w1 := wM X (Kd L)) (w2 := wM X (Kd L)) ?_ rfl rfl
      refine op2_ok (x := .loc 1) (y := .str l.n) (w1 := wM X (Kd L)) (w2 := wM X (Kd L)) rfl ?_ (ix_dk (kvs := Kd L) rfl hv)
      exact op2_ok (x := .tup (.str tg :: .str l.n :: ms)) (y := .int 1) (w1 := wM X (Kd L)) (w2 := wM X (Kd L)) (by kernel_rfl) rfl (ix_tupS (n := 1) rfl)
    have s2 : (sAsg (gSub_ (eVar 2) (eOp opIx (eVar 3) (eC (.int 1)))) (eTup (aCons (eC g_PIPE) (aCons (eOp opIx (eOp opIx (eVar 2) (eOp opIx (eOp opIx (eVar 3) (eC (.int 2))) (eC (.int 1)))) (eC (.int 1))) aNil)))) (δM xs k (some (qI n tg l.n ms))) (wM X (Kd L)) = .ok (.nx, δM xs k (some (qI n tg l.n ms))) (wM X (Kd (L ++ [⟨n, "pipe", l.p, qI n tg l.n ms⟩]))) := by
      refine asg_ok (d := .tup [.str "pipe", .int l.p]) (w1 := wM X (Kd L)) (tup_ok (acons_ok (d := .str "pipe") rfl (acons_ok e2 anil_ok)) (by simp)) (gsub_ok (o := .loc 1) (i := .str n) (w1 := wM X (Kd L)) (w2 := wM X (Kd L)) rfl (by kernel_rfl) ?_)
      rw [put_dk (n := 1) (kvs := Kd L) rfl rfl hz, Kd_put (it := qI n tg l.n ms) h1]
      rfl
    have n1 : (sIf (tB_ (eOp opEq (eOp opIx (eVar 3) (eC (.int 0))) (eC g_LOT))) (sSeq (sAsg (gSub_ (eVar 2) (eOp opIx (eVar 3) (eC (.int 1)))) (eTup (aCons (eC g_LOT) (aCons (eOp opIx (eVar 3) (eC (.int 2))) aNil)))) sNil) sNil) (δM xs k (some (qI n tg l.n ms))) (wM X (Kd L)) = .ok (.nx, δM xs k (some (qI n tg l.n ms))) (wM X (Kd L)) := by kernel_rfl
    have t2 : (tB_ (eOp opEq (eOp opIx (eVar 3) (eC (.int 0))) (eC g_PIPE))) (δM xs k (some (qI n tg l.n ms))) (wM X (Kd L)) = .ok true (wM X (Kd L)) := by kernel_rfl
    unfold bMK
    rw [seq_nx n1, seq_nx ((if_t t2).trans (seq_one s2))]
    kernel_rfl
theorem mk_run (h : Ses ys P L) (hl : ys.length ≤ 900) : L.length ≤ ys.length ∧ ∃ x, Turns (gNm 3) bMK ys (δM xs k none) (wM X []) (δM xs k x) (wM X (Kd L)) := by
  induction h with
  | nil => exact ⟨Nat.le_refl _, none, .nil _ _⟩
  | snoc r o ih =>
    rw [List.length_append, List.length_singleton] at hl
    obtain ⟨h1, x, t⟩ := ih (by omega)
    have hs := mk_one (xs := xs) (k := k) (X := X) o r.nd.2 (by omega)
    refine ⟨?_, _, t.app (.one (δa := δM xs k (some _)) (wa := wM X _) rfl hs)⟩
    cases o <;> simp only [List.length_append, List.length_singleton] <;> omega
variable (hl : xs.length ≤ 900) (hy : xs.take k = ys)
theorem clP (h : Ses ys P L) : (∀ q ∈ P, q.it.cl = true) ∧ ∀ l ∈ L, l.it.cl = true := by
  induction h with
  | nil => exact ⟨(fun _ h => nomatch h), fun _ h => nomatch h⟩
  | snoc r o ih =>
    have c := pu_cl o.pu
    cases o with
    | poly n fs h1 h2 _ => exact ⟨fun q hq => (List.mem_append.mp hq).elim (ih.1 q) (fun z => by rw [List.mem_singleton.mp z]; exact c), ih.2⟩
    | lot n p told h1 h2 _ => exact ⟨ih.1, fun q hq => (List.mem_append.mp hq).elim (ih.2 q) (fun z => by rw [List.mem_singleton.mp z]; exact c)⟩
    | pipe n tg v ms l h1 h2 h3 h4 _ => exact ⟨ih.1, fun q hq => (List.mem_append.mp hq).elim (ih.2 q) (fun z => by rw [List.mem_singleton.mp z]; exact c)⟩
include hl hy
theorem kinds_ok (h : Ses ys P L) (X : SO) : F_made_kinds [.tup xs, .int (k : Nat)] [X] = .ok (.loc 1) ⟨[X, .dK (Kd L)], []⟩ := by
  have hly : ys.length ≤ 900 := by rw [← hy, List.length_take]; omega
  obtain ⟨_, x, t⟩ := mk_run (xs := xs) (k := k) (X := X) h hly
  exact mk_ok (by omega) hy t.run
theorem polys_ok (h : Ses ys P L) (s : List SO) : F_things_ahead [.tup xs, .int (k : Nat), WP] s = .ok (.loc s.length) ⟨s ++ [.dK (Pd P)], []⟩ := by
  have e := merge_map (f := fun q : Pt => q.n) (g := fun q : Pt => q.it) h.nd.1
  have r := ta_ok (s := s) (by omega) hy rfl (fun w => taP_run h w) (two_map (f := fun q : Pt => q.n) (g := fun q : Pt => q.it) P) (by
    rw [e]
    rw [List.all_map, List.all_eq_true]
    exact fun q hq => (clP h).1 q hq)
  rw [e] at r
  exact r
theorem proms_ok (h : Ses ys P L) (s : List SO) : F_things_ahead [.tup xs, .int (k : Nat), WQ] s = .ok (.loc s.length) ⟨s ++ [.dK []], []⟩ :=
  ta_ok (prs := []) (kvs := []) (by omega) hy rfl (fun w => taQ_run h w) rfl rfl
theorem lots_ok {W : D} (hW : W = WM ∨ W = WI) (h : Ses ys P L) (s : List SO) : F_things_ahead [.tup xs, .int (k : Nat), W] s = .ok (.loc s.length) ⟨s ++ [.dK (Td L)], []⟩ := by
  have e := merge_map (f := fun l : Lt => l.n) (g := fun l : Lt => l.it) h.nd.2
  have r := ta_ok (s := s) (W := W) (by omega) hy (by rcases hW with rfl | rfl <;> rfl) (fun w => taL_run hW h w) (two_map (f := fun l : Lt => l.n) (g := fun l : Lt => l.it) L) (by
    rw [e]
    rw [List.all_map, List.all_eq_true]
    exact fun q hq => (clP h).2 q hq)
  rw [e] at r
  exact r
end
end Lk04

set_option Elab.async false
set_option linter.all false
set_option maxRecDepth 100000
set_option maxHeartbeats 0
/-! k04: wrong_item, by the first item that isn't right. -/
namespace Lk04
open PySem L2 DP
abbrev twiceF : D := .tup [.tup [.int 1], .str "twice"]
theorem isSome_of {o : Option D} {d : D} (h : o = some d) : o.isSome = true := by rw [h]; rfl
theorem isNone_of {o : Option D} (h : o = none) : o.isSome = false := by rw [h]; rfl
theorem Pd_mem {ys : List D} {P : List Pt} {L : List Lt} (h : Ses ys P L) {q : Pt} (hq : q ∈ P) : valD (Pd P) (.inr q.n) = some q.it := val_some (f := fun q : Pt => q.n) (g := fun q : Pt => q.it) h.nd.1 hq
theorem Pd_no {P : List Pt} {n : Str} (h : ∀ q ∈ P, q.n ≠ n) : valD (Pd P) (.inr n) = none := val_none (f := fun q : Pt => q.n) (g := fun q : Pt => q.it) h
theorem Td_mem {ys : List D} {P : List Pt} {L : List Lt} (h : Ses ys P L) {l : Lt} (hl : l ∈ L) : valD (Td L) (.inr l.n) = some l.it := val_some (f := fun l : Lt => l.n) (g := fun l : Lt => l.it) h.nd.2 hl
theorem Td_no {L : List Lt} {n : Str} (h : ∀ l ∈ L, l.n ≠ n) : valD (Td L) (.inr n) = none := val_none (f := fun l : Lt => l.n) (g := fun l : Lt => l.it) h
theorem Kd_mem {ys : List D} {P : List Pt} {L : List Lt} (h : Ses ys P L) {l : Lt} (hl : l ∈ L) : valD (Kd L) (.inr l.n) = some (.tup [.str l.kd, .int l.p]) := val_some (f := fun l : Lt => l.n) (g := fun l : Lt => .tup [.str l.kd, .int l.p]) h.nd.2 hl
theorem Kd_no {L : List Lt} {n : Str} (h : ∀ l ∈ L, l.n ≠ n) : valD (Kd L) (.inr n) = none := val_none (f := fun l : Lt => l.n) (g := fun l : Lt => .tup [.str l.kd, .int l.p]) h
theorem Ses.kds {ys : List D} {P : List Pt} {L : List Lt} (h : Ses ys P L) : ∀ l ∈ L, l.kd = "lot" ∨ l.kd = "pipe" := by
  induction h with
  | nil => exact fun _ h => nomatch h
  | snoc r o ih =>
    cases o with
    | poly n fs h1 h2 _ => exact ih
    | lot n p told h1 h2 _ => exact fun l hl => (List.mem_append.mp hl).elim (ih l) fun z => by rw [List.mem_singleton.mp z]; exact .inl rfl
    | pipe n tg v ms l h1 h2 h3 h4 _ => exact fun l hl => (List.mem_append.mp hl).elim (ih l) fun z => by rw [List.mem_singleton.mp z]; exact .inr rfl
section
variable {ys xs : List D} {k : Nat} {P : List Pt} {L : List Lt} {n : Str} {v : D}
/-- an item that tells a polynomial -/
theorem use_poly {fs : D} (hl : xs.length ≤ 900) (hx : D.clL xs = true) (hk : k < xs.length) (hy : xs.take k = ys) (hg : xs[k] = .tup [.str "poly", .str n, fs]) (h : Ses ys P L) (hc : v.cl = true)
    (hv : ((∃ q ∈ P, q.n = n) ∧ v = twiceF) ∨ ((∀ q ∈ P, q.n ≠ n) ∧ ∃ w', F_wrong_making [.loc 0, .tup [.str "poly", .str n, fs]] (ST (Kd L) (Pd P) [] [.dK (Pd P)]) = .ok v w')) : ∃ w, F_wrong_use [.tup xs, .int (k : Nat)] [] = .ok v w := by
  refine use_val (K := Kd L) (P := Pd P) (Q := []) hk hx (kinds_ok hl hy h) (polys_ok hl hy h) (proms_ok hl hy h) ?_ hc
  rw [hg]
  rcases hv with ⟨⟨q, hq, rfl⟩, rfl⟩ | ⟨hn, hm⟩
  · exact named_twice (y := .str "poly") (W := WP) hx (fun w => by kernel_rfl) (fun w => by kernel_rfl) (fun w => by kernel_rfl) (fun w => by kernel_rfl) (polys_ok hl hy h) (isSome_of (Pd_mem h hq))
  · exact named_val (y := .str "poly") (W := WP) hx (fun w => by kernel_rfl) (fun w => by kernel_rfl) (fun w => by kernel_rfl) (fun w => by kernel_rfl) (polys_ok hl hy h) (isNone_of (Pd_no hn)) hm
/-- an item that tells a lot, a pipe -/
theorem use_made {tag : Str} {rest : List D} (ht : tag = "lot" ∨ tag = "pipe") (hl : xs.length ≤ 900) (hx : D.clL xs = true) (hk : k < xs.length) (hy : xs.take k = ys) (hg : xs[k] = .tup (.str tag :: .str n :: rest)) (h : Ses ys P L) (hc : v.cl = true)
    (hv : ((∃ l ∈ L, l.n = n) ∧ v = twiceF) ∨ ((∀ l ∈ L, l.n ≠ n) ∧ ∃ w', F_wrong_making [.loc 0, .tup (.str tag :: .str n :: rest)] (ST (Kd L) (Pd P) [] [.dK (Td L)]) = .ok v w')) : ∃ w, F_wrong_use [.tup xs, .int (k : Nat)] [] = .ok v w := by
  refine use_val (K := Kd L) (P := Pd P) (Q := []) hk hx (kinds_ok hl hy h) (polys_ok hl hy h) (proms_ok hl hy h) ?_ hc
  rw [hg]
  have hx0 : ∀ (y : Option D) (w : Wd), (eOp opIx (eVar 3) (eC (.int 0))) (δU xs k y (.tup (.str tag :: .str n :: rest))) w = .ok (.str tag) w := fun y w => op2_ok (x := .tup (.str tag :: .str n :: rest)) (y := .int 0) rfl rfl (ix_tupS (n := 0) rfl)
  have hx1 : ∀ (y : Option D) (w : Wd), (eOp opIx (eVar 3) (eC (.int 1))) (δU xs k y (.tup (.str tag :: .str n :: rest))) w = .ok (.str n) w := fun y w => op2_ok (x := .tup (.str tag :: .str n :: rest)) (y := .int 1) rfl rfl (ix_tupS (n := 1) rfl)
  have hs : ∀ w, callP F_sort_of [.str tag] w = .ok (.str "made") w := fun w => callP_of (by rcases ht with rfl | rfl <;> kernel_rfl) rfl (by rcases ht with rfl | rfl <;> kernel_rfl)
  have u2 : ∀ w, U2 (δU xs k none (.tup (.str tag :: .str n :: rest))) w = .ok (.nx, δU xs k (some (.str "made")) (.tup (.str tag :: .str n :: rest))) w := fun w => set_ok ((callP_m (hx0 none w)).trans (hs w))
  rcases hv with ⟨⟨l, hl', rfl⟩, rfl⟩ | ⟨hn, hm⟩
  · exact named_twice (y := .str "made") (W := WM) hx u2 (fun w => by kernel_rfl) (fun w => by kernel_rfl) (hx1 _) (lots_ok hl hy (.inl rfl) h) (isSome_of (Td_mem h hl'))
  · exact named_val (y := .str "made") (W := WM) hx u2 (fun w => by kernel_rfl) (fun w => by kernel_rfl) (hx1 _) (lots_ok hl hy (.inl rfl) h) (isNone_of (Td_no hn)) hm
theorem stp_use {x : D} {P' : List Pt} {L' : List Lt} (o : Stp P L x P' L') (hl : xs.length ≤ 900) (hx : D.clL xs = true) (hk : k < xs.length) (hy : xs.take k = ys) (hg : xs[k] = x) (h : Ses ys P L) : ∃ w, F_wrong_use [.tup xs, .int (k : Nat)] [] = .ok .non w := by
  cases o with
  | poly n fs h1 h2 h3 => exact use_poly hl hx hk hy hg h rfl (.inr ⟨h1, _, h3 _⟩)
  | lot n p told h1 h2 h3 => exact use_made (.inl rfl) hl hx hk hy hg h rfl (.inr ⟨h1, _, h3 _⟩)
  | pipe n tg w ms l h1 h2 h3 h4 h5 => exact use_made (.inr rfl) hl hx hk hy hg h rfl (.inr ⟨h1, _, h5 _⟩)
theorem ses_uses {tail : List D} (h : Ses ys P L) (hxs : xs = ys ++ tail) (hl : xs.length ≤ 900) (hp : D.puL xs = true) : ∀ j, j < ys.length → usesAt xs j = .ok .non ⟨[], []⟩ := by
  intro j hj
  obtain ⟨P0, L0, P1, L1, r, o⟩ := h.split j hj
  have hk : j < xs.length := by rw [hxs, List.length_append]; omega
  have hy : xs.take j = ys.take j := by rw [hxs, List.take_append_of_le_length (Nat.le_of_lt hj)]
  have hg : xs[j] = ys[j] := by subst hxs; rw [List.getElem_append_left hj]
  obtain ⟨w, e⟩ := stp_use o hl (pu_clL hp) hk hy hg r
  unfold usesAt callP
  rw [if_pos (by simp [D.puL, D.pu, hp]), e]
  rfl
theorem ses_none (h : Ses ys P L) (hl : ys.length ≤ 900) (w : Wd) : callP F_wrong_item [.tup ys] w = .ok .non w :=
  wi_none (by omega) h.pu fun k hk => ses_uses (tail := []) h (List.append_nil _).symm hl h.pu k hk
theorem ses_bad {x a b : D} {tail : List D} (h : Ses ys P L) (hxs : xs = ys ++ x :: tail) (hl : xs.length ≤ 900) (hp : D.puL xs = true) (ha : a.pu = true) (hb : b.pu = true) (hu : ∃ w, F_wrong_use [.tup xs, .int (ys.length : Nat)] [] = .ok (.tup [a, b]) w) (w : Wd) : callP F_wrong_item [.tup xs] w = .ok (.tup [.int (ys.length : Nat), a, b]) w := by
  obtain ⟨w', e⟩ := hu
  refine wi_first ys.length (by omega) (by rw [hxs, List.length_append, List.length_cons]; omega) hp (fun j hj => ses_uses h hxs hl hp j hj) ?_ ha hb (pu_cl ha) (pu_cl hb)
  unfold usesAt callP
  rw [if_pos (by simp [D.puL, D.pu, hp]), e]
  show (if (D.tup [a, b]).pu = true then Res.ok (D.tup [a, b]) (⟨[], []⟩ : Wd) else .stuck) = _
  rw [if_pos (by simp [D.pu, D.puL, ha, hb])]
end
end Lk04

set_option Elab.async false
set_option linter.all false
set_option maxRecDepth 100000
set_option maxHeartbeats 0
/-! k04: sums of terms; wrong polynomials (texts of the mirrors printed). -/
namespace Lk04
open PySem L2 DP
def tmD (t : Int × Nat) : D := .tup [.int t.1, .int (t.2 : Nat)]
def sumP (j : Nat) (T : List (Int × Nat)) : Int := (T.map fun t => if t.2 = j then t.1 else 0).sum
theorem sumP_cons (j : Nat) (t : Int × Nat) (T : List (Int × Nat)) : sumP j (t :: T) = (if t.2 = j then t.1 else 0) + sumP j T := by
  unfold sumP
  rw [List.map_cons, List.sum_cons]
theorem sumP_app (j : Nat) (a b : List (Int × Nat)) : sumP j (a ++ b) = sumP j a + sumP j b := by
  induction a with
  | nil => exact (Int.zero_add _).symm
  | cons t T ih => rw [List.cons_append, sumP_cons, sumP_cons, ih]; omega
theorem sumP_perm {j : Nat} {a b : List (Int × Nat)} (h : a.Perm b) : sumP j a = sumP j b := by
  induction h with
  | nil => rfl
  | cons x _ ih => rw [sumP_cons, sumP_cons, ih]
  | swap x y l => rw [sumP_cons, sumP_cons, sumP_cons, sumP_cons]; omega
  | trans _ _ h1 h2 => rw [h1, h2]
def nb : MS := (sSeq (sAugS (eVar 1) (eVar 3) opAddI (eVar 2)) sNil)
abbrev gN2 : MG := (gSq 2 (gCons_ (gNm 2) (gCons_ (gNm 3) gNil_)))
abbrev δn (ts : D) (x y : Option D) : DP.Env := [some ts, some (.own 0), x, y]
abbrev l4 (a b c d : Int) : List SO := [.lst [.int a, .int b, .int c, .int d]]
theorem nb_ok {ts : D} {n a0 a1 a2 a3 : Int} {p : Nat} {s : List SO} (hp : p < 4) : nb (δn ts (some (.int n)) (some (.int (p : Nat)))) ⟨s, l4 a0 a1 a2 a3⟩ = .ok (.nx, δn ts (some (.int n)) (some (.int (p : Nat)))) ⟨s, l4 (a0 + if p = 0 then n else 0) (a1 + if p = 1 then n else 0) (a2 + if p = 2 then n else 0) (a3 + if p = 3 then n else 0)⟩ := by
  have h : p = 0 ∨ p = 1 ∨ p = 2 ∨ p = 3 := by omega
  rcases h with rfl | rfl | rfl | rfl
  · have e : nb (δn ts (some (.int n)) (some (.int ((0 : Nat) : Int)))) ⟨s, l4 a0 a1 a2 a3⟩ = .ok (.nx, δn ts (some (.int n)) (some (.int ((0 : Nat) : Int)))) ⟨s, l4 (a0 + n) a1 a2 a3⟩ := by kernel_rfl
    rw [e]; simp
  · have e : nb (δn ts (some (.int n)) (some (.int ((1 : Nat) : Int)))) ⟨s, l4 a0 a1 a2 a3⟩ = .ok (.nx, δn ts (some (.int n)) (some (.int ((1 : Nat) : Int)))) ⟨s, l4 a0 (a1 + n) a2 a3⟩ := by kernel_rfl
    rw [e]; simp
  · have e : nb (δn ts (some (.int n)) (some (.int ((2 : Nat) : Int)))) ⟨s, l4 a0 a1 a2 a3⟩ = .ok (.nx, δn ts (some (.int n)) (some (.int ((2 : Nat) : Int)))) ⟨s, l4 a0 a1 (a2 + n) a3⟩ := by kernel_rfl
    rw [e]; simp
  · have e : nb (δn ts (some (.int n)) (some (.int ((3 : Nat) : Int)))) ⟨s, l4 a0 a1 a2 a3⟩ = .ok (.nx, δn ts (some (.int n)) (some (.int ((3 : Nat) : Int)))) ⟨s, l4 a0 a1 a2 (a3 + n)⟩ := by kernel_rfl
    rw [e]; simp
theorem nb_turns {ts : D} {s : List SO} : ∀ (T : List (Int × Nat)) (a0 a1 a2 a3 : Int) (x y : Option D), (∀ t ∈ T, t.2 < 4) → ∃ x' y', Turns gN2 nb (T.map tmD) (δn ts x y) ⟨s, l4 a0 a1 a2 a3⟩ (δn ts x' y') ⟨s, l4 (a0 + sumP 0 T) (a1 + sumP 1 T) (a2 + sumP 2 T) (a3 + sumP 3 T)⟩
  | [], a0, a1, a2, a3, x, y, _ => ⟨x, y, by
    show Turns gN2 nb [] _ _ _ ⟨s, l4 (a0 + 0) (a1 + 0) (a2 + 0) (a3 + 0)⟩
    rw [Int.add_zero, Int.add_zero, Int.add_zero, Int.add_zero]
    exact .nil _ _⟩
  | (n, p) :: T, a0, a1, a2, a3, x, y, h => by
    obtain ⟨x', y', t⟩ := nb_turns (ts := ts) (s := s) T (a0 + if p = 0 then n else 0) (a1 + if p = 1 then n else 0) (a2 + if p = 2 then n else 0) (a3 + if p = 3 then n else 0) (some (.int n)) (some (.int (p : Nat))) fun t ht => h t (List.mem_cons_of_mem _ ht)
    refine ⟨x', y', ?_⟩
    rw [sumP_cons, sumP_cons, sumP_cons, sumP_cons, ← Int.add_assoc, ← Int.add_assoc, ← Int.add_assoc, ← Int.add_assoc]
    exact .cons (δa := δn ts (some (.int n)) (some (.int (p : Nat)))) (wa := ⟨s, l4 a0 a1 a2 a3⟩) rfl (nb_ok (h (n, p) List.mem_cons_self)) t
def nW : MS := (sWhile (tAnd_ (tB_ (eOp opNe (eVar 1) (eFrz (fLst aNil)))) (tB_ (eOp opEq (eOp opIx (eVar 1) (eUn opNeg (eC (.int 1)))) (eC (.int 0))))) (sSeq (sExpr (eMt "list" opPop (eVar 1) aNil)) sNil))
def nR : MS := (sGive 1 (sRet (eB opTuple (aCons (eVar 1) aNil))))
theorem num_M : m_numbers_of = (sSeq ((sSet 1 (eOwn (fRep (eFrz (fLst (aCons (eC (.int 0)) aNil))) (eOp opAdd (eC g_MOST_POWER) (eC (.int 1))))))) (sSeq (sFor (iSeq (eVar 0)) gN2 nb) (sSeq nW (sSeq nR sNil)))) := rfl
theorem num_run {T : List (Int × Nat)} {v : D} (hT : ∀ t ∈ T, t.2 < 4) (hr : ∀ x y, ∃ δ' w', (sSeq nW (sSeq nR sNil)) (δn (.tup (T.map tmD)) x y) ⟨[], l4 (sumP 0 T) (sumP 1 T) (sumP 2 T) (sumP 3 T)⟩ = .ok (.rt v, δ') w') (hc : v.cl = true) : ∃ w, F_numbers_of [.tup (T.map tmD)] [] = .ok v w := by
  have s1 : ((sSet 1 (eOwn (fRep (eFrz (fLst (aCons (eC (.int 0)) aNil))) (eOp opAdd (eC g_MOST_POWER) (eC (.int 1))))))) [some (.tup (T.map tmD)), none, none, none] ⟨[], []⟩ = .ok (.nx, δn (.tup (T.map tmD)) none none) ⟨[], l4 0 0 0 0⟩ := by kernel_rfl
  obtain ⟨x', y', t⟩ := nb_turns (ts := .tup (T.map tmD)) (s := []) T 0 0 0 0 none none hT
  rw [Int.zero_add, Int.zero_add, Int.zero_add, Int.zero_add] at t
  obtain ⟨δ', w', e⟩ := hr x' y'
  have em : m_numbers_of [some (.tup (T.map tmD)), none, none, none] ⟨[], []⟩ = .ok (.rt v, δ') w' := by
    rw [num_M, seq_nx s1, seq_nx ((for_run (ds := T.map tmD) (w1 := ⟨[], l4 0 0 0 0⟩) rfl).trans t.run), e]
  exact ⟨_, fn_rt (nl := 4) (np := 1) (m := m_numbers_of) (ds := [.tup (T.map tmD)]) (δ0 := [some (.tup (T.map tmD)), none, none, none]) rfl rfl em hc⟩
theorem num_zero {T : List (Int × Nat)} (hT : ∀ t ∈ T, t.2 < 4) (h : ∀ j, sumP j T = 0) (w : Wd) (hp : D.puL (T.map tmD) = true) : callP F_numbers_of [.tup (T.map tmD)] w = .ok (.tup []) w := by
  obtain ⟨w', e⟩ := num_run (v := .tup []) hT (fun x y => by
    rw [h 0, h 1, h 2, h 3]
    exact ⟨[some (.tup (T.map tmD)), some (.lst []), x, y], ⟨[], [.gone]⟩, by kernel_rfl⟩) rfl
  unfold callP
  rw [if_pos (by simp [D.puL, D.pu, hp]), e]
  rfl
theorem num_some {T : List (Int × Nat)} (hT : ∀ t ∈ T, t.2 < 4) (h : sumP 3 T ≠ 0) (w : Wd) (hp : D.puL (T.map tmD) = true) : callP F_numbers_of [.tup (T.map tmD)] w = .ok (.tup [.int (sumP 0 T), .int (sumP 1 T), .int (sumP 2 T), .int (sumP 3 T)]) w := by
  obtain ⟨w', e⟩ := num_run (v := .tup [.int (sumP 0 T), .int (sumP 1 T), .int (sumP 2 T), .int (sumP 3 T)]) hT (fun x y => by
    generalize sumP 3 T = d at h
    generalize sumP 0 T = a
    generalize sumP 1 T = b
    generalize sumP 2 T = c
    have tt : (tAnd_ (tB_ (eOp opNe (eVar 1) (eFrz (fLst aNil)))) (tB_ (eOp opEq (eOp opIx (eVar 1) (eUn opNeg (eC (.int 1)))) (eC (.int 0))))) (δn (.tup (T.map tmD)) x y) ⟨[], l4 a b c d⟩ = .ok false ⟨[], l4 a b c d⟩ := by
      have e : (tAnd_ (tB_ (eOp opNe (eVar 1) (eFrz (fLst aNil)))) (tB_ (eOp opEq (eOp opIx (eVar 1) (eUn opNeg (eC (.int 1)))) (eC (.int 0))))) (δn (.tup (T.map tmD)) x y) ⟨[], l4 a b c d⟩ = .ok (decide (d = 0)) ⟨[], l4 a b c d⟩ := by kernel_rfl
      rw [e, decide_eq_false h]
    have w1 : nW (δn (.tup (T.map tmD)) x y) ⟨[], l4 a b c d⟩ = .ok (.nx, δn (.tup (T.map tmD)) x y) ⟨[], l4 a b c d⟩ := by
      unfold nW sWhile
      unfold FUEL
      rw [whileD, tt, bind_ok]
      rfl
    refine ⟨[some (.tup (T.map tmD)), some (.lst [.int a, .int b, .int c, .int d]), x, y], ⟨[], [.gone]⟩, ?_⟩
    rw [seq_nx w1]
    kernel_rfl) rfl
  unfold callP
  rw [if_pos (by simp [D.puL, D.pu, hp]), e]
  rfl
/-! wrong_poly -/
/-- a factor: its terms, how often, whether its terms' sum is nothing -/
structure Fac where
  T : List (Int × Nat)
  t : Int
  b : Bool
def Fac.d (f : Fac) : D := .tup [.tup (f.T.map tmD), .int f.t]
structure Fac.Ok (f : Fac) : Prop where
  lt : ∀ t ∈ f.T, t.2 < 4
  z : f.b = true → ∀ j, sumP j f.T = 0
  nz : f.b = false → sumP 3 f.T ≠ 0
def fauP (k : Nat) (f : Fac) : D := if f.b = true then .tup [.tup [.int 2, .int (k : Nat), .int 0], .str "poly"] else if f.t = 0 then .tup [.tup [.int 2, .int (k : Nat), .int 1], .str "number"] else .non
/-- the first fault of factors, from the k-th on -/
def firstP : Nat → List Fac → D
  | _, [] => .non
  | k, f :: fs => if f.b = true ∨ f.t = 0 then fauP k f else firstP (k + 1) fs
def pB : MS := (sSeq (sIf (tB_ (eOp opEq (eCallP F_numbers_of (aCons (eVar 2) aNil)) (eTup aNil))) (sSeq (sRet (eTup (aCons (eTup (aCons (eC (.int 2)) (aCons (eVar 1) (aCons (eC (.int 0)) aNil)))) (aCons (eC g_POLY) aNil)))) sNil) sNil) (sSeq (sIf (tB_ (eOp opEq (eVar 3) (eC (.int 0)))) (sSeq (sRet (eTup (aCons (eTup (aCons (eC (.int 2)) (aCons (eVar 1) (aCons (eC (.int 1)) aNil)))) (aCons (eC g_NUMBER) aNil)))) sNil) sNil) sNil))
abbrev gP3 : MG := (gSq 2 (gCons_ (gNm 1) (gCons_ (gSq 2 (gCons_ (gNm 2) (gCons_ (gNm 3) gNil_))) gNil_)))
abbrev δp (it : D) (x y z : Option D) : DP.Env := [some it, x, y, z]
theorem tm_pu (T : List (Int × Nat)) : D.puL (T.map tmD) = true := by
  induction T with
  | nil => rfl
  | cons t T ih => rw [List.map_cons, D.puL, ih]; rfl
theorem pB_ok {it : D} {f : Fac} {k : Nat} {w : Wd} (o : f.Ok) : pB (δp it (some (.int (k : Nat))) (some (.tup (f.T.map tmD))) (some (.int f.t))) w = (if f.b = true ∨ f.t = 0 then .ok (.rt (fauP k f), δp it (some (.int (k : Nat))) (some (.tup (f.T.map tmD))) (some (.int f.t))) w else .ok (.nx, δp it (some (.int (k : Nat))) (some (.tup (f.T.map tmD))) (some (.int f.t))) w) := by
  have a1 : ∀ (w : Wd), (eCallP F_numbers_of (aCons (eVar 2) aNil)) (δp it (some (.int (k : Nat))) (some (.tup (f.T.map tmD))) (some (.int f.t))) w = callP F_numbers_of [.tup (f.T.map tmD)] w := fun w => callP_m rfl
  cases hb : f.b with
  | true =>
    have t1 : (tB_ (eOp opEq (eCallP F_numbers_of (aCons (eVar 2) aNil)) (eTup aNil))) (δp it (some (.int (k : Nat))) (some (.tup (f.T.map tmD))) (some (.int f.t))) w = .ok true w :=
      tB_ok (op2_ok ((a1 w).trans (num_zero o.lt (o.z hb) w (tm_pu _))) (y := .tup []) rfl (by kernel_rfl))
    rw [if_pos (.inl rfl)]
    have e : fauP k f = .tup [.tup [.int 2, .int (k : Nat), .int 0], .str "poly"] := by unfold fauP; rw [if_pos hb]
    rw [e]
    refine seq_rt ((if_t t1).trans ?_)
    kernel_rfl
  | false =>
    have t1 : (tB_ (eOp opEq (eCallP F_numbers_of (aCons (eVar 2) aNil)) (eTup aNil))) (δp it (some (.int (k : Nat))) (some (.tup (f.T.map tmD))) (some (.int f.t))) w = .ok false w :=
      tB_ok (op2_ok ((a1 w).trans (num_some o.lt (o.nz hb) w (tm_pu _))) (y := .tup []) rfl (by kernel_rfl))
    have t2 : (tB_ (eOp opEq (eVar 3) (eC (.int 0)))) (δp it (some (.int (k : Nat))) (some (.tup (f.T.map tmD))) (some (.int f.t))) w = .ok (decide (f.t = 0)) w := by kernel_rfl
    refine (seq_nx (nil_f t1)).trans ?_
    by_cases ht : f.t = 0
    · rw [if_pos (.inr ht)]
      have e : fauP k f = .tup [.tup [.int 2, .int (k : Nat), .int 1], .str "number"] := by
        unfold fauP
        rw [if_neg (by rw [hb]; decide), if_pos ht]
      rw [e]
      refine seq_rt ((if_tt t2 (decide_eq_true ht)).trans ?_)
      kernel_rfl
    · rw [if_neg (by rintro (z | z); cases z; exact ht z)]
      refine (seq_nx ((if_ff t2 (decide_eq_false ht)).trans rfl)).trans ?_
      rfl
theorem pB_loop {it : D} : ∀ (fs : List Fac) (k : Nat) (x y z : Option D) (w : Wd), (∀ f ∈ fs, f.Ok) → (∃ δ', forD gP3 pB (enumD k (fs.map Fac.d)) (δp it x y z) w = .ok (.rt (firstP k fs), δ') w) ∨ (firstP k fs = .non ∧ ∃ x' y' z', forD gP3 pB (enumD k (fs.map Fac.d)) (δp it x y z) w = .ok (.nx, δp it x' y' z') w)
  | [], k, x, y, z, w, _ => .inr ⟨rfl, x, y, z, rfl⟩
  | f :: fs, k, x, y, z, w, h => by
    have o := h f List.mem_cons_self
    have e := pB_ok (it := it) (k := k) (w := w) o
    by_cases hf : f.b = true ∨ f.t = 0
    · rw [if_pos hf] at e
      refine .inl ⟨δp it (some (.int (k : Nat))) (some (.tup (f.T.map tmD))) (some (.int f.t)), ?_⟩
      rw [List.map_cons, enumD, forD, firstP, if_pos hf]
      show Res.bind (pB (δp it (some (.int (k : Nat))) (some (.tup (f.T.map tmD))) (some (.int f.t))) w) _ = _
      rw [e, bind_ok]
    · rw [if_neg hf] at e
      have ih := pB_loop (it := it) fs (k + 1) (some (.int (k : Nat))) (some (.tup (f.T.map tmD))) (some (.int f.t)) w fun g hg => h g (List.mem_cons_of_mem _ hg)
      rw [List.map_cons, enumD, firstP, if_neg hf, for_nx (δ1 := δp it (some (.int (k : Nat))) (some (.tup (f.T.map tmD))) (some (.int f.t))) (w1 := w) rfl e]
      exact ih
theorem fauP_pu (k : Nat) (f : Fac) : (fauP k f).pu = true := by
  unfold fauP
  split
  · rfl
  · split <;> rfl
theorem firstP_pu : ∀ (fs : List Fac) (k : Nat), (firstP k fs).pu = true
  | [], _ => rfl
  | f :: fs, k => by
    rw [firstP]
    split
    · exact fauP_pu k f
    · exact firstP_pu fs (k + 1)
theorem wpoly_ok {n : Str} {fs : List Fac} (h : ∀ f ∈ fs, f.Ok) (w : Wd) : callP F_wrong_poly [pI n (fs.map Fac.d)] w = .ok (firstP 0 fs) w := by
  have hpf : D.puL (fs.map Fac.d) = true := by
    have : ∀ fs : List Fac, D.puL (fs.map Fac.d) = true := fun fs => by
      induction fs with
      | nil => rfl
      | cons f fs ih =>
        rw [List.map_cons, D.puL, ih]
        have : f.d.pu = true := by unfold Fac.d; simp [D.pu, D.puL, tm_pu]
        rw [this]
        rfl
    exact this fs
  have hp : D.puL [pI n (fs.map Fac.d)] = true := by simp [D.puL, D.pu, hpf]
  have hpp := firstP_pu fs 0
  have it : ((iEnumM (aCons (eOp opIx (eVar 0) (eC (.int 2))) aNil))) (δp (pI n (fs.map Fac.d)) none none none) ⟨[], []⟩ = .ok (enumD 0 (fs.map Fac.d)) ⟨[], []⟩ := by
    have a : (aCons (eOp opIx (eVar 0) (eC (.int 2))) aNil) (δp (pI n (fs.map Fac.d)) none none none) ⟨[], []⟩ = .ok [.tup (fs.map Fac.d)] ⟨[], []⟩ := by kernel_rfl
    unfold iEnumM
    rw [a]
    rfl
  have sh : m_wrong_poly = (sSeq (sFor ((iEnumM (aCons (eOp opIx (eVar 0) (eC (.int 2))) aNil))) gP3 pB) (sSeq (sRet (eC .non)) sNil)) := rfl
  have fin : ∃ δ', m_wrong_poly (δp (pI n (fs.map Fac.d)) none none none) ⟨[], []⟩ = .ok (.rt (firstP 0 fs), δ') ⟨[], []⟩ := by
    rcases pB_loop (it := pI n (fs.map Fac.d)) fs 0 none none none ⟨[], []⟩ h with ⟨δ', e⟩ | ⟨e0, x', y', z', e⟩
    · exact ⟨δ', by rw [sh, seq_rt ((for_run it).trans e)]⟩
    · refine ⟨δp (pI n (fs.map Fac.d)) x' y' z', ?_⟩
      rw [sh, seq_nx ((for_run it).trans e), e0]
      rfl
  obtain ⟨δ', em⟩ := fin
  have ef := fn_rt (nl := 4) (np := 1) (m := m_wrong_poly) (ds := [pI n (fs.map Fac.d)]) (s := []) (δ0 := δp (pI n (fs.map Fac.d)) none none none) rfl rfl em (pu_cl hpp)
  have ef' : F_wrong_poly [pI n (fs.map Fac.d)] [] = .ok (firstP 0 fs) ⟨[], []⟩ := ef
  unfold callP
  rw [if_pos hp, ef']
  show (if (firstP 0 fs).pu = true then Res.ok (firstP 0 fs) w else .stuck) = _
  rw [if_pos hpp]
end Lk04

set_option Elab.async false
set_option linter.all false
set_option maxRecDepth 100000
set_option maxHeartbeats 0
/-! k04: mixed ones; drawn terms (texts of the mirrors printed). -/
namespace Lk04
open PySem L2 DP
theorem pick_eq : F__law_pick = pickF := rfl
theorem of_eq : F__law_of = ofF := rfl
theorem source_eq : F__law_source = sourceF := rfl
theorem erase_perm : ∀ {zs : List D} {n : Nat} (h : n < zs.length), (zs[n] :: zs.eraseIdx n).Perm zs
  | z :: zs, 0, h => List.Perm.refl _
  | z :: zs, n + 1, h => by
    have h' : n < zs.length := by simpa using h
    have ih := erase_perm (zs := zs) (n := n) h'
    show (zs[n] :: z :: zs.eraseIdx n).Perm (z :: zs)
    exact (List.Perm.swap _ _ _).trans (List.Perm.cons z ih)
theorem popAt_ok {zs : List D} {n : Nat} {s : List SO} (hn : n < zs.length) (hl : zs.length < 1000000) : opPopAt (.own 0) [.int (n : Int)] ⟨s, [.lst zs]⟩ = .ok zs[n] ⟨s, [.lst (zs.eraseIdx n)]⟩ := by
  have e1 : L2.ixN zs.length (n : Int) = some n := by
    unfold L2.ixN
    rw [if_pos (by omega), if_pos (by omega), Int.toNat_natCast]
  have e2 : zs[n]? = some zs[n] := List.getElem?_eq_getElem hn
  have g : (⟨s, [.lst zs]⟩ : Wd).get (.own 0) = some (.lst zs) := rfl
  unfold opPopAt
  rw [g]
  simp only
  rw [e1]
  simp only
  rw [e2]
  simp only
  rw [if_pos ⟨by omega, by omega⟩]
  rfl
abbrev mP : ME := (eMt "list" opPopAt (eVar 2) (aCons (eCall F__law_pick (aCons (eVar 0) (aCons (eB opLen (aCons (eVar 2) aNil)) aNil))) aNil))
theorem mem_erase : ∀ {zs : List D} {n : Nat} {y : D}, y ∈ zs.eraseIdx n → y ∈ zs := fun h => List.mem_of_mem_eraseIdx h
theorem pop_step {cells : List Int} {left mixed turn : Int} {rest : List SO} {zs : List D} {x1 x3 : Option D} (hc : cells.length ≤ 63) (h0 : 0 < zs.length) (hl : zs.length < 1000000) :
    ∃ z n cells' left' mixed' turn', mP [some (.loc 1), x1, some (.own 0), x3] ⟨src cells left mixed turn rest, [.lst zs]⟩ = .ok z ⟨src cells' left' mixed' turn' rest, [.lst (zs.eraseIdx n)]⟩ ∧ n < zs.length ∧ (z :: zs.eraseIdx n).Perm zs ∧ cells'.length ≤ 63 := by
  obtain ⟨k, cells', left', mixed', turn', e, k0, k1, hc'⟩ := pick_ok (cells := cells) (left := left) (mixed := mixed) (turn := turn) (many := (zs.length : Int)) (rest := rest) hc (by omega) (by omega)
  obtain ⟨n, rfl⟩ : ∃ n : Nat, k = (n : Int) := ⟨k.toNat, by omega⟩
  have hn : n < zs.length := by omega
  refine ⟨zs[n], n, cells', left', mixed', turn', ?_, hn, erase_perm hn, hc'⟩
  have e1 : (eCall F__law_pick (aCons (eVar 0) (aCons (eB opLen (aCons (eVar 2) aNil)) aNil))) [some (.loc 1), x1, some (.own 0), x3] ⟨src cells left mixed turn rest, [.lst zs]⟩ = .ok (.int (n : Int)) ⟨src cells' left' mixed' turn' rest, [.lst zs]⟩ := by
    show callM F__law_pick [.loc 1, .int (zs.length : Int)] ⟨src cells left mixed turn rest, [.lst zs]⟩ = _
    unfold callM
    rw [if_pos (.inr rfl), pick_eq, e]
  have e2 : (aCons (eCall F__law_pick (aCons (eVar 0) (aCons (eB opLen (aCons (eVar 2) aNil)) aNil))) aNil) [some (.loc 1), x1, some (.own 0), x3] ⟨src cells left mixed turn rest, [.lst zs]⟩ = .ok [.int (n : Int)] ⟨src cells' left' mixed' turn' rest, [.lst zs]⟩ := by
    unfold aCons
    unfold aCons at e1
    rw [e1]
    rfl
  have e3 : mP [some (.loc 1), x1, some (.own 0), x3] ⟨src cells left mixed turn rest, [.lst zs]⟩ = Res.bind ((aCons (eCall F__law_pick (aCons (eVar 0) (aCons (eB opLen (aCons (eVar 2) aNil)) aNil))) aNil) [some (.loc 1), x1, some (.own 0), x3] ⟨src cells left mixed turn rest, [.lst zs]⟩) (fun ds w2 => opPopAt (.own 0) ds w2) := rfl
  rw [e3, e2, bind_ok, popAt_ok hn hl]
theorem mix_loop {rest : List SO} {x1 x3 : Option D} : ∀ (m i : Nat) (zs : List D) (cells : List Int) (left mixed turn : Int), cells.length ≤ 63 → m ≤ zs.length → zs.length < 1000000 →
    ∃ ys zs' cells' left' mixed' turn', compD (gNm 3) tYes_ mP [3] [some (.loc 1), x1, some (.own 0), x3] (intsF i m) ⟨src cells left mixed turn rest, [.lst zs]⟩ = .ok ys ⟨src cells' left' mixed' turn' rest, [.lst zs']⟩ ∧ (ys ++ zs').Perm zs ∧ cells'.length ≤ 63 ∧ ys.length = m
  | 0, i, zs, cells, left, mixed, turn, hc, hm, hl => ⟨[], zs, cells, left, mixed, turn, rfl, List.Perm.refl _, hc, rfl⟩
  | m + 1, i, zs, cells, left, mixed, turn, hc, hm, hl => by
    obtain ⟨z, n, c1, l1, m1, t1, e, hn, hz, hc1⟩ := pop_step (cells := cells) (left := left) (mixed := mixed) (turn := turn) (rest := rest) (zs := zs) (x1 := x1) (x3 := some (.int (i : Nat))) hc (by omega) hl
    obtain ⟨ys, zs', c2, l2, m2, t2, e2, hy, hc2, hlen⟩ := mix_loop (rest := rest) (x1 := x1) (x3 := x3) m (i + 1) (zs.eraseIdx n) c1 l1 m1 t1 hc1 (by rw [List.length_eraseIdx_of_lt hn]; omega) (by rw [List.length_eraseIdx_of_lt hn]; omega)
    refine ⟨z :: ys, zs', c2, l2, m2, t2, ?_, (List.Perm.cons z hy).trans hz, hc2, by rw [List.length_cons, hlen]⟩
    · have e3 : compD (gNm 3) tYes_ mP [3] [some (.loc 1), x1, some (.own 0), x3] (intsF i (m + 1)) ⟨src cells left mixed turn rest, [.lst zs]⟩
          = Res.bind (mP [some (.loc 1), x1, some (.own 0), some (.int (i : Nat))] ⟨src cells left mixed turn rest, [.lst zs]⟩) (fun y w3 => Res.bind (compD (gNm 3) tYes_ mP [3] [some (.loc 1), x1, some (.own 0), x3] (intsF (i + 1) m) w3) (fun ys w4 => .ok (y :: ys) w4)) := rfl
      rw [e3, e, bind_ok, e2, bind_ok]
theorem mixed_ok {cells : List Int} {left mixed turn : Int} {rest : List SO} {xs : List D} (hc : cells.length ≤ 63) (hl : xs.length < 1000000) (hx : D.clL xs = true) :
    ∃ ys cells' left' mixed' turn', F__law_mixed [.loc 1, .lst xs] (src cells left mixed turn rest) = .ok (.lst ys) ⟨src cells' left' mixed' turn' rest, []⟩ ∧ ys.Perm xs ∧ cells'.length ≤ 63 := by
  obtain ⟨ys, zs', c1, l1, m1, t1, e, hy, hc1, hlen⟩ := mix_loop (rest := rest) (x1 := some (.lst xs)) (x3 := none) xs.length 0 xs cells left mixed turn hc (Nat.le_refl _) hl
  have hz : zs' = [] := by
    have q := hy.length_eq
    rw [List.length_append, hlen] at q
    exact List.length_eq_zero_iff.mp (by omega)
  have hy' : ys.Perm xs := by rw [hz, List.append_nil] at hy; exact hy
  refine ⟨ys, c1, l1, m1, t1, ?_, hy', hc1⟩
  have e1 : (sSet 2 (eOwn (fB opList (aCons (eVar 1) aNil)))) [some (.loc 1), some (.lst xs), none, none] ⟨src cells left mixed turn rest, []⟩ = .ok (.nx, [some (.loc 1), some (.lst xs), some (.own 0), none]) ⟨src cells left mixed turn rest, [.lst xs]⟩ := rfl
  have e2 : (fComp (iRange1 (aCons (eB opLen (aCons (eVar 2) aNil)) aNil)) (gNm 3) tYes_ mP [3]) [some (.loc 1), some (.lst xs), some (.own 0), none] ⟨src cells left mixed turn rest, [.lst xs]⟩ = .ok ys ⟨src c1 l1 m1 t1 rest, [.lst zs']⟩ := by
    unfold fComp
    rw [range1_ok (n := xs.length) (w1 := ⟨src cells left mixed turn rest, [.lst xs]⟩) rfl (by omega), bind_ok, rangeL_length, if_pos (by omega), rangeL_ints0]
    exact e
  have e3 : m__law_mixed [some (.loc 1), some (.lst xs), none, none] ⟨src cells left mixed turn rest, []⟩ = .ok (.rt (.lst ys), [some (.loc 1), some (.lst xs), some (.own 0), none]) ⟨src c1 l1 m1 t1 rest, [.lst zs']⟩ := by
    have e4 : (sRet (eFrz (fComp (iRange1 (aCons (eB opLen (aCons (eVar 2) aNil)) aNil)) (gNm 3) tYes_ mP [3]))) [some (.loc 1), some (.lst xs), some (.own 0), none] ⟨src cells left mixed turn rest, [.lst xs]⟩ = .ok (.rt (.lst ys), [some (.loc 1), some (.lst xs), some (.own 0), none]) ⟨src c1 l1 m1 t1 rest, [.lst zs']⟩ := by
      unfold sRet eFrz
      rw [e2, bind_ok, bind_ok]
    unfold m__law_mixed
    rw [seq_nx e1, seq_rt e4]
  have hcl : (D.lst ys).cl = true := by
    rw [D.cl]
    exact clL_of fun y h => clL_mem hx (hy'.mem_iff.mp h)
  exact fn_rt (nl := 4) (np := 2) (m := m__law_mixed) (ds := [.loc 1, .lst xs]) (δ0 := [some (.loc 1), some (.lst xs), none, none]) rfl rfl e3 hcl

section
variable {ma : MA} {δ : DP.Env} {c : List Int} {l m t : Int}
/-- a draw from a list that is data -/
theorem draw_lst {xs : List D} {rest own : List SO} (hc : c.length ≤ 63) (h0 : xs ≠ []) (hl : xs.length < 1000000) (hx : D.clL xs = true) (ha : ∀ w, ma δ w = .ok [.loc 1, .lst xs] w) :
    ∃ x c' l' m' t', eCall F__law_of ma δ ⟨src c l m t rest, own⟩ = .ok x ⟨src c' l' m' t' rest, own⟩ ∧ x ∈ xs ∧ c'.length ≤ 63 := by
  obtain ⟨x, c', l', m', t', q, hx', hc'⟩ := of_ok (left := l) (mixed := m) (turn := t) (rest := rest) hc h0 hl hx
  exact ⟨x, c', l', m', t', callF_ok (ha _) q rfl (.inr (by simp [D.clL, D.cl, hx])), hx', hc'⟩
theorem draw_pick {many : Int} {rest own : List SO} (hc : c.length ≤ 63) (h1 : 1 ≤ many) (h2 : many < 1073741824) (ha : ∀ w, ma δ w = .ok [.loc 1, .int many] w) :
    ∃ k c' l' m' t', eCall F__law_pick ma δ ⟨src c l m t rest, own⟩ = .ok (.int k) ⟨src c' l' m' t' rest, own⟩ ∧ 0 ≤ k ∧ k < many ∧ c'.length ≤ 63 := by
  obtain ⟨k, c', l', m', t', q, k0, k1, hc'⟩ := pick_ok (cells := c) (left := l) (mixed := m) (turn := t) (rest := rest) hc h1 h2
  exact ⟨k, c', l', m', t', callF_ok (ha _) q rfl (.inr rfl), k0, k1, hc'⟩
end
/-! terms -/
abbrev δT (b : Bool) (x2 x3 x4 x5 x6 x7 x8 : Option D) : DP.Env := [some (.loc 1), some (.bl b), x2, x3, x4, x5, x6, x7, x8]
def tT : ME := (eTup (aCons (eCall F__law_of (aCons (eVar 0) (aCons (eFrz (fLst (aCons (eC (.int 1)) (aCons (eUn opNeg (eC (.int 1))) (aCons (eC (.int 2)) (aCons (eC (.int 9)) (aCons (eUn opNeg (eC (.int 3))) aNil))))))) aNil))) (aCons (eCall F__law_pick (aCons (eVar 0) (aCons (eC (.int 4)) aNil))) aNil)))
theorem terms_comp {b : Bool} {x2 x3 x4 x5 x6 x7 x8 : Option D} {rest : List SO} : ∀ (n i : Nat) (c : List Int) (l m t : Int), c.length ≤ 63 → ∃ (T : List (Int × Nat)) (c' : List Int) (l' m' t' : Int), compD (gNm 5) tYes_ tT [5] (δT b x2 x3 x4 x5 x6 x7 x8) (intsF i n) ⟨src c l m t rest, []⟩ = .ok (T.map tmD) ⟨src c' l' m' t' rest, []⟩ ∧ (∀ t ∈ T, t.2 < 4 ∧ -20 ≤ t.1 ∧ t.1 ≤ 20) ∧ T.length = n ∧ c'.length ≤ 63
  | 0, i, c, l, m, t, hc => ⟨[], c, l, m, t, rfl, (fun _ h => nomatch h), rfl, hc⟩
  | n + 1, i, c, l, m, t, hc => by
    obtain ⟨x, c1, l1, m1, t1, q1, hx, hc1⟩ := draw_lst (l := l) (m := m) (t := t) (rest := rest) (own := []) (δ := δT b x2 x3 x4 (some (.int (i : Nat))) x6 x7 x8) (xs := [.int 1, .int (-1), .int 2, .int 9, .int (-3)]) (ma := (aCons (eVar 0) (aCons (eFrz (fLst (aCons (eC (.int 1)) (aCons (eUn opNeg (eC (.int 1))) (aCons (eC (.int 2)) (aCons (eC (.int 9)) (aCons (eUn opNeg (eC (.int 3))) aNil))))))) aNil))) hc (by simp) (by simp) rfl (fun w => by kernel_rfl)
    obtain ⟨k, c2, l2, m2, t2, q2, k0, k1, hc2⟩ := draw_pick (l := l1) (m := m1) (t := t1) (rest := rest) (own := []) (δ := δT b x2 x3 x4 (some (.int (i : Nat))) x6 x7 x8) (many := 4) (ma := (aCons (eVar 0) (aCons (eC (.int 4)) aNil))) hc1 (by omega) (by omega) (fun w => rfl)
    obtain ⟨p, rfl⟩ : ∃ p : Nat, k = (p : Int) := ⟨k.toNat, by omega⟩
    obtain ⟨v, rfl, hv⟩ : ∃ v : Int, x = .int v ∧ -20 ≤ v ∧ v ≤ 20 := by
      simp only [List.mem_cons, List.not_mem_nil, or_false] at hx
      rcases hx with rfl | rfl | rfl | rfl | rfl <;> exact ⟨_, rfl, by omega⟩
    obtain ⟨T, c3, l3, m3, t3, q3, hT, hn, hc3⟩ := terms_comp (b := b) (x2 := x2) (x3 := x3) (x4 := x4) (x5 := x5) (x6 := x6) (x7 := x7) (x8 := x8) (rest := rest) n (i + 1) c2 l2 m2 t2 hc2
    refine ⟨(v, p) :: T, c3, l3, m3, t3, ?_, fun t ht => ?_, by rw [List.length_cons, hn], hc3⟩
    · have e : tT (δT b x2 x3 x4 (some (.int (i : Nat))) x6 x7 x8) ⟨src c l m t rest, []⟩ = .ok (tmD (v, p)) ⟨src c2 l2 m2 t2 rest, []⟩ := tup_ok (acons_ok q1 (acons_ok q2 anil_ok)) (by simp)
      rw [intsF, compD]
      show Res.bind (tT (δT b x2 x3 x4 (some (.int (i : Nat))) x6 x7 x8) ⟨src c l m t rest, []⟩) _ = _
      rw [e, bind_ok, q3, bind_ok]
      rfl
    · rcases List.mem_cons.mp ht with e | e
      · rw [e]; exact ⟨by show p < 4; omega, hv⟩
      · exact hT t e
theorem filt_comp {b : Bool} {x2 x3 x4 x5 x6 x7 x8 : Option D} {w : Wd} : ∀ T : List (Int × Nat), compD (gNm 8) (tB_ (eOp opLt (eOp opIx (eVar 8) (eC (.int 1))) (eC (.int 3)))) (eVar 8) [8] (δT b x2 x3 x4 x5 x6 x7 x8) (T.map tmD) w = .ok ((T.filter fun t => decide ((t.2 : Int) < 3)).map tmD) w
  | [] => rfl
  | t :: T => by
    have ih := filt_comp (b := b) (x2 := x2) (x3 := x3) (x4 := x4) (x5 := x5) (x6 := x6) (x7 := x7) (x8 := x8) (w := w) T
    have e : (tB_ (eOp opLt (eOp opIx (eVar 8) (eC (.int 1))) (eC (.int 3)))) (δT b x2 x3 x4 x5 x6 x7 (some (tmD t))) w = .ok (decide ((t.2 : Int) < 3)) w := by kernel_rfl
    rw [List.map_cons, compD]
    rw [show gNm 8 (tmD t) (wipeD (δT b x2 x3 x4 x5 x6 x7 x8) [8]) w = .ok (δT b x2 x3 x4 x5 x6 x7 (some (tmD t))) w from rfl, bind_ok, e, bind_ok]
    by_cases h : (t.2 : Int) < 3
    · have f1 : List.filter (fun t : Int × Nat => decide ((t.2 : Int) < 3)) (t :: T) = t :: List.filter (fun t : Int × Nat => decide ((t.2 : Int) < 3)) T := by rw [List.filter_cons]; simp [h]
      rw [if_pos (decide_eq_true h), f1]
      rw [show eVar 8 (δT b x2 x3 x4 x5 x6 x7 (some (tmD t))) w = .ok (tmD t) w from rfl, bind_ok, ih, bind_ok]
      rfl
    · have f1 : List.filter (fun t : Int × Nat => decide ((t.2 : Int) < 3)) (t :: T) = List.filter (fun t : Int × Nat => decide ((t.2 : Int) < 3)) T := by rw [List.filter_cons]; simp [h]
      rw [if_neg (by rw [decide_eq_false h]; decide), f1]
      exact ih
def negT (t : Int × Nat) : Int × Nat := (0 - t.1, t.2)
theorem back_comp {b : Bool} {x2 x3 x4 x5 x6 x7 x8 : Option D} {w : Wd} : ∀ T : List (Int × Nat), compD (gSq 2 (gCons_ (gNm 6) (gCons_ (gNm 7) gNil_))) tYes_ (eTup (aCons (eOp opSub (eC (.int 0)) (eVar 6)) (aCons (eVar 7) aNil))) [6, 7] (δT b x2 x3 x4 x5 x6 x7 x8) (T.map tmD) w = .ok ((T.map negT).map tmD) w
  | [] => rfl
  | t :: T => by
    have ih := back_comp (b := b) (x2 := x2) (x3 := x3) (x4 := x4) (x5 := x5) (x6 := x6) (x7 := x7) (x8 := x8) (w := w) T
    have e : (eTup (aCons (eOp opSub (eC (.int 0)) (eVar 6)) (aCons (eVar 7) aNil))) (δT b x2 x3 x4 x5 (some (.int t.1)) (some (.int (t.2 : Nat))) x8) w = .ok (tmD (negT t)) w := by kernel_rfl
    rw [List.map_cons, compD]
    rw [show (gSq 2 (gCons_ (gNm 6) (gCons_ (gNm 7) gNil_))) (tmD t) (wipeD (δT b x2 x3 x4 x5 x6 x7 x8) [6, 7]) w = .ok (δT b x2 x3 x4 x5 (some (.int t.1)) (some (.int (t.2 : Nat))) x8) w from rfl, bind_ok,
      show tYes_ (δT b x2 x3 x4 x5 (some (.int t.1)) (some (.int (t.2 : Nat))) x8) w = .ok true w from rfl, bind_ok, if_pos rfl, e, bind_ok, ih, bind_ok]
    rfl
theorem sum_back (j : Nat) : ∀ T : List (Int × Nat), sumP j T + sumP j (T.map negT) = 0
  | [] => rfl
  | t :: T => by
    have ih := sum_back j T
    rw [List.map_cons, sumP_cons, sumP_cons]
    show (if t.2 = j then t.1 else 0) + sumP j T + ((if t.2 = j then 0 - t.1 else 0) + sumP j (T.map negT)) = 0
    split <;> omega
/-- decode -/
def tmO : D → Int × Nat
  | .tup [.int n, .int p] => (n, p.toNat)
  | _ => (0, 0)
theorem tmO_ok (t : Int × Nat) : tmO (tmD t) = t := rfl
theorem map_tmO : ∀ T : List (Int × Nat), (T.map tmD).map tmO = T
  | [] => rfl
  | t :: T => by rw [List.map_cons, List.map_cons, tmO_ok, map_tmO T]
theorem perm_tm {ys : List D} {T : List (Int × Nat)} (h : ys.Perm (T.map tmD)) : ∃ U : List (Int × Nat), ys = U.map tmD ∧ U.Perm T := by
  refine ⟨ys.map tmO, ?_, by have := h.map tmO; rw [map_tmO] at this; exact this⟩
  have : ∀ y ∈ ys, tmD (tmO y) = y := fun y hy => by
    obtain ⟨t, _, rfl⟩ := List.mem_map.mp (h.mem_iff.mp hy)
    rw [tmO_ok]
  rw [List.map_map]
  exact (List.map_id _).symm.trans (List.map_congr_left fun y hy => (this y hy).symm)
end Lk04

set_option Elab.async false
set_option linter.all false
set_option maxRecDepth 100000
set_option maxHeartbeats 0
/-! k04: drawn terms, as a whole (texts of the mirrors printed). -/
namespace Lk04
open PySem L2 DP
theorem add_ll {ma mb : ME} {δ : DP.Env} {w w1 w2 : Wd} {a b : List D} (h1 : ma δ w = .ok (.lst a) w1) (h2 : mb δ w1 = .ok (.lst b) w2) (hl : a.length + b.length ≤ 10000) : eOp opAdd ma mb δ w = .ok (.lst (a ++ b)) w2 := by
  unfold eOp
  rw [h1, bind_ok, h2, bind_ok]
  show (if a.length + b.length ≤ sizeLine then Res.ok (D.lst (a ++ b)) w2 else .stuck) = _
  rw [if_pos (Nat.le_trans hl (by decide))]
theorem tup_lst {m : ME} {δ : DP.Env} {w w1 : Wd} {a : List D} (h : m δ w = .ok (.lst a) w1) : eB opTuple (aCons m aNil) δ w = .ok (.tup a) w1 := by
  unfold eB
  rw [acons_ok h anil_ok]
  rfl
theorem fcomp_ok {mi : MI} {g : MG} {tt : MT} {e : ME} {vs : List Nat} {δ : DP.Env} {w w1 w2 : Wd} {ds ys : List D} (h1 : mi δ w = .ok ds w1) (hl : ds.length ≤ 10000) (h2 : compD g tt e vs δ ds w1 = .ok ys w2) : fComp mi g tt e vs δ w = .ok ys w2 := by
  unfold fComp
  rw [h1, bind_ok, if_pos (by omega), h2]
theorem tm_cl (T : List (Int × Nat)) : D.clL (T.map tmD) = true := pu_clL (tm_pu T)
theorem intsF_len : ∀ (n i : Nat), (intsF i n).length = n
  | 0, _ => rfl
  | n + 1, i => by rw [intsF, List.length_cons, intsF_len n]
theorem sum3_filter (T : List (Int × Nat)) : sumP 3 (T.filter fun t : Int × Nat => decide ((t.2 : Int) < 3)) = 0 := by
  have : ∀ U : List (Int × Nat), (∀ t ∈ U, (t.2 : Int) < 3) → sumP 3 U = 0 := fun U => by
    induction U with
    | nil => exact fun _ => rfl
    | cons t U ih =>
      intro h
      have h1 := h t List.mem_cons_self
      rw [sumP_cons, ih fun u hu => h u (List.mem_cons_of_mem _ hu), if_neg (by omega)]
      rfl
  exact this _ fun t ht => by simpa using (List.mem_filter.mp ht).2
theorem terms_ok {b : Bool} {c : List Int} {l m t : Int} {rest : List SO} (hc : c.length ≤ 63) : ∃ (T : List (Int × Nat)) (c' : List Int) (l' m' t' : Int), F__law_terms [.loc 1, .bl b] (src c l m t rest) = .ok (.tup (T.map tmD)) ⟨src c' l' m' t' rest, []⟩ ∧ (∀ t ∈ T, t.2 < 4 ∧ -20 ≤ t.1 ∧ t.1 ≤ 20) ∧ T.length ≤ 10 ∧ (b = true → ∀ j, sumP j T = 0) ∧ (b = false → sumP 3 T ≠ 0) ∧ c'.length ≤ 63 := by
  obtain ⟨k, c1, l1, m1, t1, q1, k0, k1, hc1⟩ := draw_pick (l := l) (m := m) (t := t) (rest := rest) (own := []) (δ := δT b none none none none none none none) (many := 3) (ma := (aCons (eVar 0) (aCons (eC (.int 3)) aNil))) hc (by omega) (by omega) (fun w => rfl)
  obtain ⟨n, rfl⟩ : ∃ n : Nat, k = (n : Int) := ⟨k.toNat, by omega⟩
  obtain ⟨T, c2, l2, m2, t2, q2, hT, hn, hc2⟩ := terms_comp (b := b) (x2 := none) (x3 := none) (x4 := none) (x5 := none) (x6 := none) (x7 := none) (x8 := none) (rest := rest) (1 + n) 0 c1 l1 m1 t1 hc1
  have r1 : (aCons (eOp opAdd (eC (.int 1)) (eCall F__law_pick (aCons (eVar 0) (aCons (eC (.int 3)) aNil)))) aNil) (δT b none none none none none none none) ⟨src c l m t rest, []⟩ = .ok [.int ((1 + n : Nat) : Int)] ⟨src c1 l1 m1 t1 rest, []⟩ :=
    acons_ok (op2_ok (x := .int 1) rfl q1 (res := .ok (.int ((1 + n : Nat) : Int)) _) (by show Res.ok (D.int (1 + (n : Int))) _ = _; rw [show (1 : Int) + (n : Int) = ((1 + n : Nat) : Int) by omega])) anil_ok
  have s0 : (sSet 2 (eFrz (fComp (iRange1 (aCons (eOp opAdd (eC (.int 1)) (eCall F__law_pick (aCons (eVar 0) (aCons (eC (.int 3)) aNil)))) aNil)) (gNm 5) tYes_ (eTup (aCons (eCall F__law_of (aCons (eVar 0) (aCons (eFrz (fLst (aCons (eC (.int 1)) (aCons (eUn opNeg (eC (.int 1))) (aCons (eC (.int 2)) (aCons (eC (.int 9)) (aCons (eUn opNeg (eC (.int 3))) aNil))))))) aNil))) (aCons (eCall F__law_pick (aCons (eVar 0) (aCons (eC (.int 4)) aNil))) aNil))) [5]))) (δT b none none none none none none none) ⟨src c l m t rest, []⟩ = .ok (.nx, δT b (some (.lst (T.map tmD))) none none none none none none) ⟨src c2 l2 m2 t2 rest, []⟩ := by
    refine set_ok (frz_ok (fcomp_ok (ds := intsF 0 (1 + n)) ((range1_ok r1 (by omega)).trans (by rw [rangeL_ints0])) (by rw [intsF_len]; omega) q2))
  cases b with
  | false =>
    obtain ⟨k5, c3, l3, m3, t3, q3, k50, k51, hc3⟩ := draw_pick (l := l2) (m := m2) (t := t2) (rest := rest) (own := []) (δ := δT false (some (.lst (T.map tmD))) none none none none none none) (many := 5) (ma := (aCons (eVar 0) (aCons (eC (.int 5)) aNil))) hc2 (by omega) (by omega) (fun w => rfl)
    have f1 : (eFrz (fComp (iSeq (eVar 2)) (gNm 8) (tB_ (eOp opLt (eOp opIx (eVar 8) (eC (.int 1))) (eC (.int 3)))) (eVar 8) [8])) (δT false (some (.lst (T.map tmD))) none none none none none none) ⟨src c2 l2 m2 t2 rest, []⟩ = .ok (.lst ((T.filter fun t : Int × Nat => decide ((t.2 : Int) < 3)).map tmD)) ⟨src c2 l2 m2 t2 rest, []⟩ :=
      frz_ok (fcomp_ok (ds := T.map tmD) (w1 := ⟨src c2 l2 m2 t2 rest, []⟩) rfl (by rw [List.length_map]; omega) (filt_comp T))
    have f2 : (eFrz (fLst (aCons (eTup (aCons (eOp opAdd (eC (.int 1)) (eCall F__law_pick (aCons (eVar 0) (aCons (eC (.int 5)) aNil)))) (aCons (eC (.int 3)) aNil))) aNil))) (δT false (some (.lst (T.map tmD))) none none none none none none) ⟨src c2 l2 m2 t2 rest, []⟩ = .ok (.lst [tmD (1 + k5, 3)]) ⟨src c3 l3 m3 t3 rest, []⟩ :=
      frz_ok (lst_ok (acons_ok (tup_ok (acons_ok (op2_ok (x := .int 1) rfl q3 (res := .ok (.int (1 + k5)) _) rfl) (acons_ok (d := .int 3) rfl anil_ok)) (by simp)) anil_ok) (by simp))
    have hlf : (List.filter (fun t : Int × Nat => decide ((t.2 : Int) < 3)) T).length ≤ T.length := List.length_filter_le _ _
    have f3 := tup_lst (add_ll f1 f2 (by rw [List.length_map, List.length_singleton]; omega))
    have tt : (tNot_ (tTr_ (eVar 1))) (δT false (some (.lst (T.map tmD))) none none none none none none) ⟨src c2 l2 m2 t2 rest, []⟩ = .ok true ⟨src c2 l2 m2 t2 rest, []⟩ := rfl
    have s1 : (sIf (tNot_ (tTr_ (eVar 1))) (sSeq (sRet (eB opTuple (aCons (eOp opAdd (eFrz (fComp (iSeq (eVar 2)) (gNm 8) (tB_ (eOp opLt (eOp opIx (eVar 8) (eC (.int 1))) (eC (.int 3)))) (eVar 8) [8])) (eFrz (fLst (aCons (eTup (aCons (eOp opAdd (eC (.int 1)) (eCall F__law_pick (aCons (eVar 0) (aCons (eC (.int 5)) aNil)))) (aCons (eC (.int 3)) aNil))) aNil)))) aNil))) sNil) sNil) (δT false (some (.lst (T.map tmD))) none none none none none none) ⟨src c2 l2 m2 t2 rest, []⟩ = .ok (.rt (.tup (((T.filter fun t : Int × Nat => decide ((t.2 : Int) < 3)) ++ [(1 + k5, 3)]).map tmD)), δT false (some (.lst (T.map tmD))) none none none none none none) ⟨src c3 l3 m3 t3 rest, []⟩ := by
      rw [if_t tt, List.map_append, seq_rt (ret_ok f3)]
      rfl
    have em : m__law_terms (δT false none none none none none none none) ⟨src c l m t rest, []⟩ = .ok (.rt (.tup (((T.filter fun t : Int × Nat => decide ((t.2 : Int) < 3)) ++ [(1 + k5, 3)]).map tmD)), δT false (some (.lst (T.map tmD))) none none none none none none) ⟨src c3 l3 m3 t3 rest, []⟩ := by
      unfold m__law_terms
      rw [seq_nx s0, seq_rt s1]
    refine ⟨(T.filter fun t : Int × Nat => decide ((t.2 : Int) < 3)) ++ [(1 + k5, 3)], c3, l3, m3, t3, fn_rt (nl := 9) (np := 2) (m := m__law_terms) (ds := [.loc 1, .bl false]) (δ0 := δT false none none none none none none none) rfl rfl em (by rw [D.cl]; exact tm_cl _), fun u hu => ?_, (by rw [List.length_append, List.length_singleton]; omega), (fun z => by cases z), fun _ => ?_, hc3⟩
    · rcases List.mem_append.mp hu with z | z
      · exact hT u (List.mem_filter.mp z).1
      · rw [List.mem_singleton.mp z]; exact ⟨by show 3 < 4; omega, by show -20 ≤ 1 + k5; omega, by show 1 + k5 ≤ 20; omega⟩
    · rw [sumP_app, sum3_filter]
      show 0 + ((if 3 = 3 then 1 + k5 else 0) + 0) ≠ 0
      omega
  | true =>
    have tt : (tNot_ (tTr_ (eVar 1))) (δT true (some (.lst (T.map tmD))) none none none none none none) ⟨src c2 l2 m2 t2 rest, []⟩ = .ok false ⟨src c2 l2 m2 t2 rest, []⟩ := rfl
    have s1 : (sIf (tNot_ (tTr_ (eVar 1))) (sSeq (sRet (eB opTuple (aCons (eOp opAdd (eFrz (fComp (iSeq (eVar 2)) (gNm 8) (tB_ (eOp opLt (eOp opIx (eVar 8) (eC (.int 1))) (eC (.int 3)))) (eVar 8) [8])) (eFrz (fLst (aCons (eTup (aCons (eOp opAdd (eC (.int 1)) (eCall F__law_pick (aCons (eVar 0) (aCons (eC (.int 5)) aNil)))) (aCons (eC (.int 3)) aNil))) aNil)))) aNil))) sNil) sNil) (δT true (some (.lst (T.map tmD))) none none none none none none) ⟨src c2 l2 m2 t2 rest, []⟩ = .ok (.nx, δT true (some (.lst (T.map tmD))) none none none none none none) ⟨src c2 l2 m2 t2 rest, []⟩ := nil_f tt
    have s2 : (sSet 3 (eFrz (fComp (iSeq (eVar 2)) (gSq 2 (gCons_ (gNm 6) (gCons_ (gNm 7) gNil_))) tYes_ (eTup (aCons (eOp opSub (eC (.int 0)) (eVar 6)) (aCons (eVar 7) aNil))) [6, 7]))) (δT true (some (.lst (T.map tmD))) none none none none none none) ⟨src c2 l2 m2 t2 rest, []⟩ = .ok (.nx, δT true (some (.lst (T.map tmD))) (some (.lst ((T.map negT).map tmD))) none none none none none) ⟨src c2 l2 m2 t2 rest, []⟩ :=
      set_ok (frz_ok (fcomp_ok (ds := T.map tmD) (w1 := ⟨src c2 l2 m2 t2 rest, []⟩) rfl (by rw [List.length_map]; omega) (back_comp T)))
    have hU : (T ++ T.map negT).map tmD = T.map tmD ++ (T.map negT).map tmD := List.map_append
    have hU0 : ∀ j, sumP j (T ++ T.map negT) = 0 := fun j => by rw [sumP_app, sum_back]
    have hU4 : ∀ u ∈ T ++ T.map negT, u.2 < 4 ∧ -20 ≤ u.1 ∧ u.1 ≤ 20 := fun u hu => by
      rcases List.mem_append.mp hu with z | z
      · exact hT u z
      · obtain ⟨v, hv, rfl⟩ := List.mem_map.mp z
        exact ⟨(hT v hv).1, by have := (hT v hv).2; show -20 ≤ 0 - v.1; omega, by have := (hT v hv).2; show 0 - v.1 ≤ 20; omega⟩
    have hUl : ((T ++ T.map negT).map tmD).length ≤ 10 := by rw [List.length_map, List.length_append, List.length_map]; omega
    have a2 : (eOp opAdd (eVar 2) (eVar 3)) (δT true (some (.lst (T.map tmD))) (some (.lst ((T.map negT).map tmD))) none none none none none) ⟨src c2 l2 m2 t2 rest, []⟩ = .ok (.lst ((T ++ T.map negT).map tmD)) ⟨src c2 l2 m2 t2 rest, []⟩ := by
      rw [hU]
      exact add_ll (w1 := ⟨src c2 l2 m2 t2 rest, []⟩) rfl rfl (by rw [List.length_map, List.length_map, List.length_map]; omega)
    obtain ⟨ys, c3, l3, m3, t3, q3, hp3, hc3⟩ := mixed_ok (left := l2) (mixed := m2) (turn := t2) (rest := rest) (xs := (T ++ T.map negT).map tmD) hc2 (by omega) (tm_cl _)
    obtain ⟨V, rfl, hV⟩ := perm_tm hp3
    have a3 : (eCall F__law_mixed (aCons (eVar 0) (aCons (eOp opAdd (eVar 2) (eVar 3)) aNil))) (δT true (some (.lst (T.map tmD))) (some (.lst ((T.map negT).map tmD))) none none none none none) ⟨src c2 l2 m2 t2 rest, []⟩ = .ok (.lst (V.map tmD)) ⟨src c3 l3 m3 t3 rest, []⟩ :=
      callF_ok2 (w1 := ⟨src c2 l2 m2 t2 rest, []⟩) (acons_ok (d := .loc 1) rfl (acons_ok a2 anil_ok)) q3 (.inl rfl)
    have s3 : (sSet 4 (eFrz (fLst (aCons (eFrz (fLst (aCons (eTup (aCons (eC (.int 0)) (aCons (eC (.int 2)) aNil))) aNil))) (aCons (eOp opAdd (eVar 2) (eVar 3)) (aCons (eCall F__law_mixed (aCons (eVar 0) (aCons (eOp opAdd (eVar 2) (eVar 3)) aNil))) aNil)))))) (δT true (some (.lst (T.map tmD))) (some (.lst ((T.map negT).map tmD))) none none none none none) ⟨src c2 l2 m2 t2 rest, []⟩ = .ok (.nx, δT true (some (.lst (T.map tmD))) (some (.lst ((T.map negT).map tmD))) (some (.lst [.lst [tmD (0, 2)], .lst ((T ++ T.map negT).map tmD), .lst (V.map tmD)])) none none none none) ⟨src c3 l3 m3 t3 rest, []⟩ :=
      set_ok (frz_ok (lst_ok (acons_ok (d := .lst [tmD (0, 2)]) rfl (acons_ok a2 (acons_ok a3 anil_ok))) (by simp)))
    obtain ⟨x, c4, l4, m4, t4, q4, hx, hc4⟩ := draw_lst (l := l3) (m := m3) (t := t3) (rest := rest) (own := []) (δ := δT true (some (.lst (T.map tmD))) (some (.lst ((T.map negT).map tmD))) (some (.lst [.lst [tmD (0, 2)], .lst ((T ++ T.map negT).map tmD), .lst (V.map tmD)])) none none none none) (xs := [.lst [tmD (0, 2)], .lst ((T ++ T.map negT).map tmD), .lst (V.map tmD)]) (ma := (aCons (eVar 0) (aCons (eVar 4) aNil))) hc3 (by simp) (by simp) (by
      have h1 := tm_cl (T ++ T.map negT)
      have h2 := tm_cl V
      have h3 := tm_cl [(0, 2)]
      simp only [D.clL, D.cl, h1, h2, Bool.and_true, Bool.true_and]
      exact h3) (fun w => rfl)
    obtain ⟨W, rfl, hW4, hWl, hW0⟩ : ∃ W : List (Int × Nat), x = .lst (W.map tmD) ∧ (∀ u ∈ W, u.2 < 4 ∧ -20 ≤ u.1 ∧ u.1 ≤ 20) ∧ W.length ≤ 10 ∧ ∀ j, sumP j W = 0 := by
      simp only [List.mem_cons, List.not_mem_nil, or_false] at hx
      rcases hx with rfl | rfl | rfl
      · refine ⟨[(0, 2)], rfl, fun u hu => by rw [List.mem_singleton.mp hu]; exact ⟨by show 2 < 4; omega, by show -20 ≤ (0 : Int); omega, by show (0 : Int) ≤ 20; omega⟩, by simp, fun j => ?_⟩
        show (if 2 = j then (0 : Int) else 0) + 0 = 0
        split <;> rfl
      · exact ⟨_, rfl, hU4, by rw [List.length_map] at hUl; exact hUl, hU0⟩
      · exact ⟨V, rfl, fun u hu => hU4 u (hV.mem_iff.mp hu), by rw [hV.length_eq]; rw [List.length_map] at hUl; exact hUl, fun j => by rw [sumP_perm hV, hU0]⟩
    have em : m__law_terms (δT true none none none none none none none) ⟨src c l m t rest, []⟩ = .ok (.rt (.tup (W.map tmD)), δT true (some (.lst (T.map tmD))) (some (.lst ((T.map negT).map tmD))) (some (.lst [.lst [tmD (0, 2)], .lst ((T ++ T.map negT).map tmD), .lst (V.map tmD)])) none none none none) ⟨src c4 l4 m4 t4 rest, []⟩ := by
      unfold m__law_terms
      rw [seq_nx s0, seq_nx s1, seq_nx s2, seq_nx s3, seq_rt (ret_ok (tup_lst q4))]
    exact ⟨W, c4, l4, m4, t4, fn_rt (nl := 9) (np := 2) (m := m__law_terms) (ds := [.loc 1, .bl true]) (δ0 := δT true none none none none none none none) rfl rfl em (by rw [D.cl]; exact tm_cl _), hW4, hWl, fun _ => hW0, (fun z => by cases z), hc4⟩
end Lk04

set_option Elab.async false
set_option linter.all false
set_option maxRecDepth 100000
set_option maxHeartbeats 0
/-! k04: drawn polynomials (texts of the mirrors printed). -/
namespace Lk04
open PySem L2 DP
theorem app_lst {δ : DP.Env} {i k : Nat} {ma : MA} {x : D} {s s' l : List SO} {xs : List D} (h0 : δ[i]? = some (some (.own k))) (hk : l[k]? = some (.lst xs)) (hd : ma δ ⟨s, l⟩ = .ok [x] ⟨s', l⟩) (hl : xs.length ≤ 1000) :
    sExpr (eMt "list" opAppend (eVar i) ma) δ ⟨s, l⟩ = .ok (.nx, δ) ⟨s', l.set k (.lst (xs ++ [x]))⟩ := by
  have hz : xs.length < sizeLine := Nat.lt_of_le_of_lt hl (by decide)
  unfold sExpr eMt
  rw [var_ok h0, bind_ok]
  have e0 : isT "list" (.own k) ⟨s, l⟩ = true := by
    show (match l[k]? with
      | some (.lst _) => "list" == "list"
      | some (.dK _) => "list" == "dict"
      | _ => false) = true
    rw [hk]
    rfl
  rw [if_pos e0, hd, bind_ok]
  have e1 : (⟨s', l⟩ : Wd).get (.own k) = some (.lst xs) := hk
  unfold opAppend
  rw [e1]
  show Res.bind (if xs.length < sizeLine ∧ cln (.own k) x = true then Res.ok D.non ((⟨s', l⟩ : Wd).put (.own k) (.lst (xs ++ [x]))) else .stuck) _ = _
  rw [if_pos ⟨hz, rfl⟩, bind_ok]
  rfl
theorem fac_pu (fs : List Fac) : D.puL (fs.map Fac.d) = true := by
  induction fs with
  | nil => rfl
  | cons f fs ih =>
    rw [List.map_cons, D.puL, ih]
    show ((D.tup [.tup (f.T.map tmD), .int f.t]).pu && true) = true
    simp [D.pu, D.puL, tm_pu]
def isNon : D → Bool
  | .non => true
  | _ => false
def keepF (v u : D) : D := if isNon v = true then u else v
theorem fauP_form (k : Nat) (f : Fac) : (f.b = true ∨ f.t = 0 → ∃ xs, fauP k f = .tup xs) ∧ (¬ (f.b = true ∨ f.t = 0) → fauP k f = .non) := by
  unfold fauP
  refine ⟨fun h => ?_, fun h => ?_⟩
  · by_cases hb : f.b = true
    · rw [if_pos hb]; exact ⟨_, rfl⟩
    · rw [if_neg hb, if_pos (h.resolve_left hb)]; exact ⟨_, rfl⟩
  · rw [if_neg fun z => h (.inl z), if_neg fun z => h (.inr z)]
theorem firstP_form : ∀ (fs : List Fac) (k : Nat), firstP k fs = .non ∨ ∃ xs, firstP k fs = .tup xs
  | [], _ => .inl rfl
  | f :: fs, k => by
    rw [firstP]
    split
    · rename_i h; exact .inr ((fauP_form k f).1 h)
    · exact firstP_form fs (k + 1)
theorem firstP_snoc (f : Fac) : ∀ (fs : List Fac) (k : Nat), firstP k (fs ++ [f]) = keepF (firstP k fs) (fauP (k + fs.length) f)
  | [], k => by
    show (if f.b = true ∨ f.t = 0 then fauP k f else .non) = fauP (k + 0) f
    rw [Nat.add_zero]
    split
    · rfl
    · rename_i h; exact ((fauP_form k f).2 h).symm
  | g :: fs, k => by
    rw [List.cons_append, firstP, firstP]
    split
    · rename_i h
      obtain ⟨xs, e⟩ := (fauP_form k g).1 h
      rw [e]
      rfl
    · rw [firstP_snoc f fs (k + 1), List.length_cons, show k + 1 + fs.length = k + (fs.length + 1) by omega]
abbrev δP (x1 : Option D) (x2 : D) (x3 x4 x5 : Option D) : DP.Env := [some (.loc 1), x1, some x2, x3, x4, x5]
def po1 : MS := (sPar 4 5 (aCons (eOp opEq (eCall F__law_pick (aCons (eVar 0) (aCons (eC (.int 6)) aNil))) (eC (.int 0))) (aCons (eCall F__law_of (aCons (eVar 0) (aCons (eFrz (fLst (aCons (eC (.int 1)) (aCons (eC (.int 2)) (aCons (eC (.int 7)) (aCons (eC (.int 1)) (aCons (eC (.int 12)) (aCons (eC (.int 0)) aNil)))))))) aNil))) aNil)))
def po2 : MS := (sExpr (eMt "list" opAppend (eVar 2) (aCons (eTup (aCons (eCall F__law_terms (aCons (eVar 0) (aCons (eVar 4) aNil))) (aCons (eVar 5) aNil))) aNil)))
def po3 : MS := (sIf (tAnd_ (tB_ (eOp (opIs false) (eVar 3) (eC .non))) (tTr_ (eVar 4))) (sSeq (sSet 3 (eTup (aCons (eTup (aCons (eC (.int 2)) (aCons (eVar 1) (aCons (eC (.int 0)) aNil)))) (aCons (eC (.str "poly")) aNil)))) sNil) sNil)
def po4 : MS := (sIf (tAnd_ (tB_ (eOp (opIs false) (eVar 3) (eC .non))) (tB_ (eOp opEq (eVar 5) (eC (.int 0))))) (sSeq (sSet 3 (eTup (aCons (eTup (aCons (eC (.int 2)) (aCons (eVar 1) (aCons (eC (.int 1)) aNil)))) (aCons (eC (.str "number")) aNil)))) sNil) sNil)
def poB : MS := (sSeq po1 (sSeq po2 (sSeq po3 (sSeq po4 sNil))))
def po0 : MS := (sPar 2 3 (aCons (eOwn (fLst aNil)) (aCons (eC .non) aNil)))
def poI : MI := (iRange1 (aCons (eCall F__law_of (aCons (eVar 0) (aCons (eFrz (fLst (aCons (eC (.int 1)) (aCons (eC (.int 1)) (aCons (eC (.int 2)) (aCons (eC (.int 3)) aNil)))))) aNil))) aNil))
def po9 : MS := (sGive 2 (sRet (eTup (aCons (eB opTuple (aCons (eVar 2) aNil)) (aCons (eVar 3) aNil)))))
theorem po_M : m__law_poly = (sSeq po0 (sSeq (sFor poI (gNm 1) poB) (sSeq po9 sNil))) := rfl
theorem po34 {k : Nat} {v x2 : D} {T : List (Int × Nat)} {b : Bool} {t : Int} {w : Wd} (hv : v = .non ∨ ∃ xs, v = .tup xs) : (sSeq po3 (sSeq po4 sNil)) (δP (some (.int (k : Nat))) x2 (some v) (some (.bl b)) (some (.int t))) w = .ok (.nx, δP (some (.int (k : Nat))) x2 (some (keepF v (fauP k ⟨T, t, b⟩))) (some (.bl b)) (some (.int t))) w := by
  rcases hv with rfl | ⟨xs, rfl⟩
  · cases b with
    | true => kernel_rfl
    | false =>
      by_cases h : t = 0
      · subst h
        kernel_rfl
      · have e3 : po3 (δP (some (.int (k : Nat))) x2 (some .non) (some (.bl false)) (some (.int t))) w = .ok (.nx, δP (some (.int (k : Nat))) x2 (some .non) (some (.bl false)) (some (.int t))) w := by kernel_rfl
        have e4 : po4 (δP (some (.int (k : Nat))) x2 (some .non) (some (.bl false)) (some (.int t))) w = .ok (.nx, δP (some (.int (k : Nat))) x2 (some .non) (some (.bl false)) (some (.int t))) w := by
          refine nil_f ?_
          have e5 : (tAnd_ (tB_ (eOp (opIs false) (eVar 3) (eC .non))) (tB_ (eOp opEq (eVar 5) (eC (.int 0))))) (δP (some (.int (k : Nat))) x2 (some .non) (some (.bl false)) (some (.int t))) w = .ok (decide (t = 0)) w := by kernel_rfl
          rw [e5, decide_eq_false h]
        rw [seq_nx e3, seq_nx e4]
        have e6 : fauP k ⟨T, t, false⟩ = .non := (fauP_form k ⟨T, t, false⟩).2 (by rintro (z | z); cases z; exact h z)
        rw [e6]
        rfl
  · show _ = Res.ok (_, δP _ _ (some (D.tup xs)) _ _) _
    kernel_rfl
structure FacS (f : Fac) : Prop where
  v : ∀ u ∈ f.T, u.2 < 4 ∧ -20 ≤ u.1 ∧ u.1 ≤ 20
  n : f.T.length ≤ 10
  t : 0 ≤ f.t ∧ f.t ≤ 12
theorem po_step {rest : List SO} {fs : List Fac} {x1 x4 x5 : Option D} {c : List Int} {l m t : Int} (hc : c.length ≤ 63) (hl : fs.length ≤ 100) : ∃ (f : Fac) (c' : List Int) (l' m' t' : Int) (y4 y5 : Option D), poB (δP (some (.int (fs.length : Nat))) (.own 0) (some (firstP 0 fs)) x4 x5) ⟨src c l m t rest, [.lst (fs.map Fac.d)]⟩ = .ok (.nx, δP (some (.int (fs.length : Nat))) (.own 0) (some (firstP 0 (fs ++ [f]))) y4 y5) ⟨src c' l' m' t' rest, [.lst ((fs ++ [f]).map Fac.d)]⟩ ∧ (f.Ok ∧ FacS f) ∧ c'.length ≤ 63 := by
  obtain ⟨k, c1, l1, m1, t1, q1, k0, k1, hc1⟩ := draw_pick (l := l) (m := m) (t := t) (rest := rest) (own := [.lst (fs.map Fac.d)]) (δ := δP (some (.int (fs.length : Nat))) (.own 0) (some (firstP 0 fs)) x4 x5) (many := 6) (ma := (aCons (eVar 0) (aCons (eC (.int 6)) aNil))) hc (by omega) (by omega) (fun w => rfl)
  obtain ⟨x, c2, l2, m2, t2, q2, hx, hc2⟩ := draw_lst (l := l1) (m := m1) (t := t1) (rest := rest) (own := [.lst (fs.map Fac.d)]) (δ := δP (some (.int (fs.length : Nat))) (.own 0) (some (firstP 0 fs)) x4 x5) (xs := [.int 1, .int 2, .int 7, .int 1, .int 12, .int 0]) (ma := (aCons (eVar 0) (aCons (eFrz (fLst (aCons (eC (.int 1)) (aCons (eC (.int 2)) (aCons (eC (.int 7)) (aCons (eC (.int 1)) (aCons (eC (.int 12)) (aCons (eC (.int 0)) aNil)))))))) aNil))) hc1 (by simp) (by simp) rfl (fun w => by kernel_rfl)
  obtain ⟨n, rfl, hn⟩ : ∃ n : Int, x = .int n ∧ 0 ≤ n ∧ n ≤ 12 := by
    simp only [List.mem_cons, List.not_mem_nil, or_false] at hx
    rcases hx with rfl | rfl | rfl | rfl | rfl | rfl <;> exact ⟨_, rfl, by omega⟩
  have s1 : po1 (δP (some (.int (fs.length : Nat))) (.own 0) (some (firstP 0 fs)) x4 x5) ⟨src c l m t rest, [.lst (fs.map Fac.d)]⟩ = .ok (.nx, δP (some (.int (fs.length : Nat))) (.own 0) (some (firstP 0 fs)) (some (.bl (decide (k = 0)))) (some (.int n))) ⟨src c2 l2 m2 t2 rest, [.lst (fs.map Fac.d)]⟩ :=
    par_ok (acons_ok (op2_ok (y := .int 0) (w2 := ⟨src c1 l1 m1 t1 rest, [.lst (fs.map Fac.d)]⟩) q1 rfl (res := .ok (.bl (decide (k = 0))) ⟨src c1 l1 m1 t1 rest, [.lst (fs.map Fac.d)]⟩) rfl) (acons_ok q2 anil_ok))
  generalize decide (k = 0) = b at s1
  obtain ⟨T, c3, l3, m3, t3, q3, hT, hTl, hz, hnz, hc3⟩ := terms_ok (b := b) (l := l2) (m := m2) (t := t2) (rest := rest) hc2
  have a2 : (aCons (eTup (aCons (eCall F__law_terms (aCons (eVar 0) (aCons (eVar 4) aNil))) (aCons (eVar 5) aNil))) aNil) (δP (some (.int (fs.length : Nat))) (.own 0) (some (firstP 0 fs)) (some (.bl b)) (some (.int n))) ⟨src c2 l2 m2 t2 rest, [.lst (fs.map Fac.d)]⟩ = .ok [Fac.d ⟨T, n, b⟩] ⟨src c3 l3 m3 t3 rest, [.lst (fs.map Fac.d)]⟩ :=
    acons_ok (tup_ok (acons_ok (callF_ok (ds := [.loc 1, .bl b]) rfl q3 rfl (.inr rfl)) (acons_ok (d := .int n) rfl anil_ok)) (by simp)) anil_ok
  have s2 : po2 (δP (some (.int (fs.length : Nat))) (.own 0) (some (firstP 0 fs)) (some (.bl b)) (some (.int n))) ⟨src c2 l2 m2 t2 rest, [.lst (fs.map Fac.d)]⟩ = .ok (.nx, δP (some (.int (fs.length : Nat))) (.own 0) (some (firstP 0 fs)) (some (.bl b)) (some (.int n))) ⟨src c3 l3 m3 t3 rest, [.lst ((fs ++ [(⟨T, n, b⟩ : Fac)]).map Fac.d)]⟩ := by
    have := app_lst (i := 2) (k := 0) (xs := fs.map Fac.d) (s := src c2 l2 m2 t2 rest) (s' := src c3 l3 m3 t3 rest) (l := [.lst (fs.map Fac.d)]) rfl rfl a2 (by rw [List.length_map]; omega)
    rw [List.map_append]
    exact this
  refine ⟨⟨T, n, b⟩, c3, l3, m3, t3, some (.bl b), some (.int n), ?_, ⟨⟨fun u hu => (hT u hu).1, hz, hnz⟩, ⟨hT, hTl, hn⟩⟩, hc3⟩
  unfold poB
  rw [seq_nx s1, seq_nx s2, po34 (T := T) (firstP_form fs 0), firstP_snoc, Nat.zero_add]
theorem po_loop {rest : List SO} : ∀ (n : Nat) (fs : List Fac) (x1 x4 x5 : Option D) (c : List Int) (l m t : Int), c.length ≤ 63 → fs.length + n ≤ 50 → (∀ f ∈ fs, f.Ok ∧ FacS f) → ∃ (fs' : List Fac) (c' : List Int) (l' m' t' : Int) (y1 y4 y5 : Option D), forD (gNm 1) poB (intsF fs.length n) (δP x1 (.own 0) (some (firstP 0 fs)) x4 x5) ⟨src c l m t rest, [.lst (fs.map Fac.d)]⟩ = .ok (.nx, δP y1 (.own 0) (some (firstP 0 fs')) y4 y5) ⟨src c' l' m' t' rest, [.lst (fs'.map Fac.d)]⟩ ∧ (∀ f ∈ fs', f.Ok ∧ FacS f) ∧ fs'.length ≤ 50 ∧ c'.length ≤ 63
  | 0, fs, x1, x4, x5, c, l, m, t, hc, hl, ho => ⟨fs, c, l, m, t, x1, x4, x5, rfl, ho, hl, hc⟩
  | n + 1, fs, x1, x4, x5, c, l, m, t, hc, hl, ho => by
    obtain ⟨f, c1, l1, m1, t1, y4, y5, q, hf, hc1⟩ := po_step (rest := rest) (fs := fs) (x1 := x1) (x4 := x4) (x5 := x5) (l := l) (m := m) (t := t) hc (by omega)
    obtain ⟨fs', c2, l2, m2, t2, z1, z4, z5, q2, h2, h3, h4⟩ := po_loop (rest := rest) n (fs ++ [f]) (some (.int (fs.length : Nat))) y4 y5 c1 l1 m1 t1 hc1 (by rw [List.length_append, List.length_singleton]; omega) (fun g hg => (List.mem_append.mp hg).elim (ho g) fun z => by rw [List.mem_singleton.mp z]; exact hf)
    refine ⟨fs', c2, l2, m2, t2, z1, z4, z5, ?_, h2, h3, h4⟩
    rw [intsF, for_nx (δ1 := δP (some (.int (fs.length : Nat))) (.own 0) (some (firstP 0 fs)) x4 x5) (w1 := ⟨src c l m t rest, [.lst (fs.map Fac.d)]⟩) rfl q]
    rw [List.length_append, List.length_singleton] at q2
    exact q2
theorem poly_ok {rest : List SO} {c : List Int} {l m t : Int} (hc : c.length ≤ 63) : ∃ (fs : List Fac) (c' : List Int) (l' m' t' : Int), F__law_poly [.loc 1] (src c l m t rest) = .ok (.tup [.tup (fs.map Fac.d), firstP 0 fs]) ⟨src c' l' m' t' rest, []⟩ ∧ (∀ f ∈ fs, f.Ok ∧ FacS f) ∧ fs.length ≤ 50 ∧ c'.length ≤ 63 := by
  have s0 : po0 [some (.loc 1), none, none, none, none, none] ⟨src c l m t rest, []⟩ = .ok (.nx, δP none (.own 0) (some .non) none none) ⟨src c l m t rest, [.lst []]⟩ := rfl
  obtain ⟨x, c1, l1, m1, t1, q1, hx, hc1⟩ := draw_lst (l := l) (m := m) (t := t) (rest := rest) (own := [.lst []]) (δ := δP none (.own 0) (some .non) none none) (xs := [.int 1, .int 1, .int 2, .int 3]) (ma := (aCons (eVar 0) (aCons (eFrz (fLst (aCons (eC (.int 1)) (aCons (eC (.int 1)) (aCons (eC (.int 2)) (aCons (eC (.int 3)) aNil)))))) aNil))) hc (by simp) (by simp) rfl (fun w => by kernel_rfl)
  obtain ⟨n, rfl, hn⟩ : ∃ n : Nat, x = .int (n : Nat) ∧ n ≤ 3 := by
    simp only [List.mem_cons, List.not_mem_nil, or_false] at hx
    rcases hx with rfl | rfl | rfl | rfl
    · exact ⟨1, rfl, by omega⟩
    · exact ⟨1, rfl, by omega⟩
    · exact ⟨2, rfl, by omega⟩
    · exact ⟨3, rfl, by omega⟩
  obtain ⟨fs, c2, l2, m2, t2, y1, y4, y5, q2, ho, hl, hc2⟩ := po_loop (rest := rest) n [] none none none c1 l1 m1 t1 hc1 (by simp; omega) (fun _ h => nomatch h)
  have s1 : (sFor poI (gNm 1) poB) (δP none (.own 0) (some .non) none none) ⟨src c l m t rest, [.lst []]⟩ = .ok (.nx, δP y1 (.own 0) (some (firstP 0 fs)) y4 y5) ⟨src c2 l2 m2 t2 rest, [.lst (fs.map Fac.d)]⟩ := by
    unfold poI
    rw [for_run (range1_ok (acons_ok q1 anil_ok) (by omega)), rangeL_ints0]
    exact q2
  have s2 : po9 (δP y1 (.own 0) (some (firstP 0 fs)) y4 y5) ⟨src c2 l2 m2 t2 rest, [.lst (fs.map Fac.d)]⟩ = .ok (.rt (.tup [.tup (fs.map Fac.d), firstP 0 fs]), δP y1 (.lst (fs.map Fac.d)) (some (firstP 0 fs)) y4 y5) ⟨src c2 l2 m2 t2 rest, [.gone]⟩ := rfl
  have em : m__law_poly [some (.loc 1), none, none, none, none, none] ⟨src c l m t rest, []⟩ = .ok (.rt (.tup [.tup (fs.map Fac.d), firstP 0 fs]), δP y1 (.lst (fs.map Fac.d)) (some (firstP 0 fs)) y4 y5) ⟨src c2 l2 m2 t2 rest, [.gone]⟩ := by
    rw [po_M, seq_nx s0, seq_nx s1, seq_rt s2]
  refine ⟨fs, c2, l2, m2, t2, fn_rt (nl := 6) (np := 1) (m := m__law_poly) (ds := [.loc 1]) (δ0 := [some (.loc 1), none, none, none, none, none]) rfl rfl em ?_, ho, hl, hc2⟩
  simp [D.cl, D.clL, pu_clL (fac_pu fs), pu_cl (firstP_pu fs 0)]
/-- what making one answers -/
theorem making_poly {K P Q : List (Key × D)} {r : List SO} {n : Str} {fs : List Fac} (ho : ∀ f ∈ fs, f.Ok) : F_wrong_making [.loc 0, pI n (fs.map Fac.d)] (ST K P Q r) = .ok (firstP 0 fs) ⟨ST K P Q r, []⟩ := by
  have t0 : (tB_ (eOp opEq (eOp opIx (eVar 1) (eC (.int 0))) (eC g_POLY))) (δw (pI n (fs.map Fac.d)) none none) ⟨ST K P Q r, []⟩ = .ok true ⟨ST K P Q r, []⟩ := by kernel_rfl
  have e0 : wm0 (δw (pI n (fs.map Fac.d)) none none) ⟨ST K P Q r, []⟩ = .ok (.rt (firstP 0 fs), δw (pI n (fs.map Fac.d)) none none) ⟨ST K P Q r, []⟩ := by
    unfold wm0
    rw [if_t t0]
    exact seq_rt (ret_ok ((callP_m rfl).trans (wpoly_ok ho _)))
  have em : m_wrong_making (δw (pI n (fs.map Fac.d)) none none) ⟨ST K P Q r, []⟩ = .ok (.rt (firstP 0 fs), δw (pI n (fs.map Fac.d)) none none) ⟨ST K P Q r, []⟩ := by
    rw [wm_M, seq_rt e0]
  exact fn_rt (nl := 4) (np := 2) (m := m_wrong_making) (ds := [.loc 0, pI n (fs.map Fac.d)]) (δ0 := δw (pI n (fs.map Fac.d)) none none) rfl rfl em (pu_cl (firstP_pu fs 0))
end Lk04

set_option Elab.async false
set_option linter.all false
set_option maxRecDepth 100000
set_option maxHeartbeats 0
/-! k04: drawn lots (texts of the mirrors printed). -/
namespace Lk04
open PySem L2 DP
/-! names of a dict, three times over, and two more -/
def nmL (ns : List Str) (a b : Str) : List D := (List.replicate 3 ((srtS ns).map D.str)).flatten ++ [.str a, .str b]
theorem nm_str {ns : List Str} {a b : Str} {x : D} (h : x ∈ nmL ns a b) : ∃ f : Str, x = .str f := by
  unfold nmL at h
  rcases List.mem_append.mp h with h | h
  · obtain ⟨l, h1, h2⟩ := List.mem_flatten.mp h
    rw [List.eq_of_mem_replicate h1] at h2
    obtain ⟨s, _, rfl⟩ := List.mem_map.mp h2
    exact ⟨s, rfl⟩
  · simp only [List.mem_cons, List.not_mem_nil, or_false] at h
    rcases h with rfl | rfl <;> exact ⟨_, rfl⟩
theorem flat3 {α : Type} (xs : List α) : (List.replicate 3 xs).flatten.length = 3 * xs.length := by
  show (xs ++ (xs ++ (xs ++ []))).length = _
  simp only [List.length_append, List.length_nil]
  omega
theorem nm_len (ns : List Str) (a b : Str) : (nmL ns a b).length = 3 * ns.length + 2 := by
  unfold nmL
  rw [List.length_append, flat3, List.length_map, srt_len]
  rfl
theorem nm_cl (ns : List Str) (a b : Str) : D.clL (nmL ns a b) = true := clL_of fun y hy => by
  obtain ⟨f, rfl⟩ := nm_str hy
  rfl
theorem keysT_map {α : Type} {f : α → Str} {g : α → D} : ∀ xs : List α, keysT (xs.map fun x => ((.inr (f x) : Key), g x)) = some (xs.map f)
  | [] => rfl
  | x :: xs => by
    rw [List.map_cons, keysT, keysT_map xs]
    rfl
theorem mul3_ok {xs : List D} {w : Wd} (hl : xs.length ≤ 100) : opMul (.lst xs) (.int 3) w = .ok (.lst (List.replicate 3 xs).flatten) w := by
  have e0 : (if -(2 ^ 63) ≤ (3 : Int) ∧ (3 : Int) < 2 ^ 63 ∧ xs.length * (3 : Int).toNat ≤ sizeLine then Res.ok (D.lst (List.replicate (3 : Int).toNat xs).flatten) w else .stuck) = .ok (.lst (List.replicate 3 xs).flatten) w := by
    rw [if_pos ⟨by omega, by omega, Nat.le_trans (Nat.mul_le_mul_right _ hl) (by decide)⟩]
    rfl
  exact e0
theorem names_ok {ns : List Str} {kvs : List (Key × D)} {a b : Str} {δ : DP.Env} {w : Wd} {j : Nat} (hv : δ[1]? = some (some (.loc j))) (hj : w.s[j]? = some (.dK kvs)) (hk : keysT kvs = some ns) (hn : ns.length < 64) : (eOp opAdd (eOp opMul (eFrz (fB opSortD (aCons (eVar 1) aNil))) (eC (.int 3))) (eFrz (fLst (aCons (eC (.str a)) (aCons (eC (.str b)) aNil))))) δ w = .ok (.lst (nmL ns a b)) w := by
  have e1 : opSortD [.loc j] w = .ok ((srtS ns).map D.str) w := by
    have d1 : dKof w (.loc j) = some kvs := by
      show soK w.s[j]? = _
      rw [hj]
      rfl
    show (match dKof w (.loc j) with
      | some kvs => (match keysT kvs with
        | some ks => if ks.length < 64 then Res.ok ((srtS ks).map D.str) w else .stuck
        | none => .stuck)
      | none => .stuck) = _
    rw [d1]
    show (match keysT kvs with
        | some ks => if ks.length < 64 then Res.ok ((srtS ks).map D.str) w else .stuck
        | none => .stuck) = _
    rw [hk]
    exact if_pos hn
  have e2 : (eFrz (fB opSortD (aCons (eVar 1) aNil))) δ w = .ok (.lst ((srtS ns).map D.str)) w := by
    refine frz_ok ?_
    unfold fB
    rw [acons_ok (var_ok hv) anil_ok, bind_ok, e1]
  have e3 : (eOp opMul (eFrz (fB opSortD (aCons (eVar 1) aNil))) (eC (.int 3))) δ w = .ok (.lst (List.replicate 3 ((srtS ns).map D.str)).flatten) w := op2_ok e2 rfl (mul3_ok (by rw [List.length_map, srt_len]; omega))
  exact add_ll e3 (w2 := w) rfl (by rw [flat3, List.length_map, srt_len]; simp; omega)
theorem in_dk {neg : Bool} {n : Nat} {w : Wd} {kvs : List (Key × D)} {y : Str} (h : w.s[n]? = some (.dK kvs)) : opIn neg (.str y) (.loc n) w = .ok (.bl (if neg then !(valD kvs (.inr y)).isSome else (valD kvs (.inr y)).isSome)) w := by
  have e0 : seqOf w (.loc n) = none := by
    show soL w.s[n]? = _
    rw [h]
    rfl
  have e1 : dKof w (.loc n) = some kvs := by
    show soK w.s[n]? = _
    rw [h]
    rfl
  show (match seqOf w (.loc n) with
    | some xs => if ((D.str y).flat && xs.all D.flat) = true then Res.ok (D.bl (if neg then !xs.any fun e => eqF e (.str y) else xs.any fun e => eqF e (.str y))) w else .stuck
    | none => opInD neg (.str y) (.loc n) w) = _
  rw [e0]
  show (match dKof w (.loc n), keyD (.str y) with
    | some kvs, some k => Res.ok (D.bl (if neg then !(valD kvs k).isSome else (valD kvs k).isSome)) w
    | _, _ => .stuck) = _
  rw [e1]
  rfl
theorem par3_ok {i j l : Nat} {r : MA} {δ : DP.Env} {w w1 : Wd} {a b c : D} (h : r δ w = .ok [a, b, c] w1) : sPar3 i j l r δ w = .ok (.nx, ((δ.set i (some a)).set j (some b)).set l (some c)) w1 := by
  unfold sPar3
  rw [h, bind_ok]
theorem ints_in {x : D} {zs : List Int} (h : x ∈ zs.map D.int) : ∃ z : Int, x = .int z ∧ z ∈ zs := by
  obtain ⟨z, hz, rfl⟩ := List.mem_map.mp h
  exact ⟨z, rfl, hz⟩
theorem strs_in {x : D} {zs : List Str} (h : x ∈ zs.map D.str) : ∃ z : Str, x = .str z ∧ z ∈ zs := by
  obtain ⟨z, hz, rfl⟩ := List.mem_map.mp h
  exact ⟨z, rfl, hz⟩
def ll0 : MS := (sSet 2 (eCall F__law_of (aCons (eVar 0) (aCons (eFrz (fLst (aCons (eC (.int 2)) (aCons (eC (.int 3)) (aCons (eC (.int 5)) (aCons (eC (.int 7)) (aCons (eC (.int 2)) (aCons (eC (.int 3)) (aCons (eC (.int 5)) (aCons (eC (.int 7)) (aCons (eC (.int 1)) (aCons (eC (.int 4)) (aCons (eC (.int 9)) (aCons (eC (.int 0)) (aCons (eC (.int 11)) aNil))))))))))))))) aNil))))
def ll1 : MS := (sSet 3 (eOp opAdd (eOp opMul (eFrz (fB opSortD (aCons (eVar 1) aNil))) (eC (.int 3))) (eFrz (fLst (aCons (eC (.str "w")) (aCons (eC (.str "zz")) aNil))))))
def ll2 : MS := (sSet 4 (eCall F__law_of (aCons (eVar 0) (aCons (eFrz (fLst (aCons (eC (.str "least")) (aCons (eC (.str "just")) (aCons (eC (.str "over")) (aCons (eC (.str "rest")) (aCons (eC (.str "nothing")) (aCons (eC (.str "rest")) aNil)))))))) aNil))))
def ll3 : MS := (sPar3 8 9 10 (aCons (eCall F__law_of (aCons (eVar 0) (aCons (eVar 3) aNil))) (aCons (eCall F__law_of (aCons (eVar 0) (aCons (eVar 3) aNil))) (aCons (eCall F__law_pick (aCons (eVar 0) (aCons (eC (.int 5)) aNil))) aNil))))
def ll4 : MS := (sSet 5 (eOwnK (kDisp [((eC (.str "least")), (eTup (aCons (eC (.str "least")) (aCons (eVar 8) (aCons (eVar 10) aNil))))), ((eC (.str "just")), (eTup (aCons (eC (.str "just")) (aCons (eVar 8) (aCons (eVar 10) aNil))))), ((eC (.str "nothing")), (eTup (aCons (eC (.str "nothing")) (aCons (eVar 8) aNil))))])))
def ll5 : MS := (sAsg (gSub_ (eVar 5) (eC (.str "over"))) (eTup (aCons (eC (.str "over")) (aCons (eVar 8) (aCons (eVar 9) (aCons (eOp opSub (eVar 10) (eC (.int 3))) aNil))))))
def ll6 : MS := (sSet 6 (eCall F__law_of (aCons (eVar 0) (aCons (eFrz (fLst (aCons (eC (.int 0)) (aCons (eC (.int 1)) (aCons (eC (.int 2)) (aCons (eC (.int 3)) (aCons (eC (.int 60)) (aCons (eC (.int 61)) aNil)))))))) aNil))))
def ll7 : MS := (sAsg (gSub_ (eVar 5) (eC (.str "rest"))) (eTup (aCons (eC (.str "rest")) (aCons (eVar 8) (aCons (eCall F__law_of (aCons (eVar 0) (aCons (eFrz (fLst (aCons (eC (.int 0)) (aCons (eC (.int 1)) (aCons (eVar 6) (aCons (eB opMax2 (aCons (eC (.int 0)) (aCons (eOp opSub (eVar 6) (eC (.int 1))) aNil))) aNil)))))) aNil))) (aCons (eVar 6) aNil))))))
def ll8 : MS := (sSet 7 (eOp opIx (eVar 5) (eVar 4)))
def ll9 : MS := (sIf (tB_ (eOp (opIn true) (eVar 2) (eTup (aCons (eC (.int 2)) (aCons (eC (.int 3)) (aCons (eC (.int 5)) (aCons (eC (.int 7)) aNil))))))) (sSeq (sRet (eTup (aCons (eVar 2) (aCons (eVar 7) (aCons (eTup (aCons (eTup (aCons (eC (.int 2)) aNil)) (aCons (eC (.str "prime")) aNil))) aNil))))) sNil) sNil)
def ll10 : MS := (sIf (tB_ (eOp (opIn true) (eVar 8) (eVar 1))) (sSeq (sRet (eTup (aCons (eVar 2) (aCons (eVar 7) (aCons (eTup (aCons (eTup (aCons (eC (.int 3)) (aCons (eC (.int 1)) aNil))) (aCons (eC (.str "poly")) aNil))) aNil))))) sNil) sNil)
def ll11 : MS := (sIf (tAnd_ (tB_ (eOp opEq (eVar 4) (eC (.str "over")))) (tB_ (eOp (opIn true) (eVar 9) (eVar 1)))) (sSeq (sRet (eTup (aCons (eVar 2) (aCons (eVar 7) (aCons (eTup (aCons (eTup (aCons (eC (.int 3)) (aCons (eC (.int 2)) aNil))) (aCons (eC (.str "poly")) aNil))) aNil))))) sNil) sNil)
def ll12 : MS := (sIf (tAnd_ (tB_ (eOp opEq (eVar 4) (eC (.str "rest")))) (tNot_ (tB_ (eChain opLt opLt (eC (.int 0)) (eVar 6) (eC (.int 61)))))) (sSeq (sRet (eTup (aCons (eVar 2) (aCons (eVar 7) (aCons (eTup (aCons (eTup (aCons (eC (.int 3)) (aCons (eC (.int 3)) aNil))) (aCons (eC (.str "number")) aNil))) aNil))))) sNil) sNil)
def ll13 : MS := (sRet (eTup (aCons (eVar 2) (aCons (eVar 7) (aCons (eIf (tAnd_ (tB_ (eOp opEq (eVar 4) (eC (.str "rest")))) (tB_ (eOp opGe (eOp opIx (eVar 7) (eC (.int 2))) (eVar 6)))) (eTup (aCons (eTup (aCons (eC (.int 3)) (aCons (eC (.int 2)) aNil))) (aCons (eC (.str "number")) aNil))) (eC .non)) aNil)))))
def llQ : MS := (sSeq ll9 (sSeq ll10 (sSeq ll11 (sSeq ll12 (sSeq ll13 sNil)))))
theorem ll_M : m__law_lot = (sSeq ll0 (sSeq ll1 (sSeq ll2 (sSeq ll3 (sSeq ll4 (sSeq ll5 (sSeq ll6 (sSeq ll7 (sSeq ll8 llQ))))))))) := rfl
end Lk04

set_option Elab.async false
set_option linter.all false
set_option maxRecDepth 100000
set_option maxHeartbeats 0
/-! k04: drawn lots, their draws (texts of the mirrors printed). -/
namespace Lk04
open PySem L2 DP
abbrev δQ (j : Nat) (x2 x3 x4 x5 x6 x7 x8 x9 x10 : Option D) : DP.Env := [some (.loc 1), some (.loc j), x2, x3, x4, x5, x6, x7, x8, x9, x10]
abbrev tF (tag : Str) (f : Str) (n : Int) : D := .tup [.str tag, .str f, .int n]
def kv3 (f : Str) (n : Int) : List (Key × D) := [(.inr "least", tF "least" f n), (.inr "just", tF "just" f n), (.inr "nothing", .tup [.str "nothing", .str f])]
def kv4 (f g : Str) (n : Int) : List (Key × D) := [(.inr "least", tF "least" f n), (.inr "just", tF "just" f n), (.inr "nothing", .tup [.str "nothing", .str f]), (.inr "over", .tup [.str "over", .str f, .str g, .int (n - 3)])]
def kv5 (f g : Str) (n r x : Int) : List (Key × D) := [(.inr "least", tF "least" f n), (.inr "just", tF "just" f n), (.inr "nothing", .tup [.str "nothing", .str f]), (.inr "over", .tup [.str "over", .str f, .str g, .int (n - 3)]), (.inr "rest", .tup [.str "rest", .str f, .int x, .int r])]
def prs13 : List Int := [2, 3, 5, 7, 2, 3, 5, 7, 1, 4, 9, 0, 11]
def wds6 : List Str := ["least", "just", "over", "rest", "nothing", "rest"]
def rs6 : List Int := [0, 1, 2, 3, 60, 61]
theorem lot_draw {rest : List SO} {j : Nat} {kvs : List (Key × D)} {ns : List Str} {c : List Int} {l m t : Int} (hj : rest[j]? = some (.dK kvs)) (hk : keysT kvs = some ns) (hn : ns.length < 64) (hc : c.length ≤ 63) :
    ∃ (p : Int) (word f g : Str) (n r x : Int) (c' : List Int) (l' m' t' : Int), m__law_lot (δQ (j + 2) none none none none none none none none none) ⟨src c l m t rest, []⟩ = (sSeq ll8 llQ) (δQ (j + 2) (some (.int p)) (some (.lst (nmL ns "w" "zz"))) (some (.str word)) (some (.own 0)) (some (.int r)) none (some (.str f)) (some (.str g)) (some (.int n))) ⟨src c' l' m' t' rest, [.dK (kv5 f g n r x)]⟩ ∧ p ∈ prs13 ∧ word ∈ wds6 ∧ r ∈ rs6 ∧ c'.length ≤ 63 := by
  obtain ⟨p0, c0, l0, m0, t0, q0, hp0, hc0⟩ := draw_lst (l := l) (m := m) (t := t) (rest := rest) (own := []) (δ := δQ (j + 2) none none none none none none none none none) (xs := prs13.map D.int) (ma := (aCons (eVar 0) (aCons (eFrz (fLst (aCons (eC (.int 2)) (aCons (eC (.int 3)) (aCons (eC (.int 5)) (aCons (eC (.int 7)) (aCons (eC (.int 2)) (aCons (eC (.int 3)) (aCons (eC (.int 5)) (aCons (eC (.int 7)) (aCons (eC (.int 1)) (aCons (eC (.int 4)) (aCons (eC (.int 9)) (aCons (eC (.int 0)) (aCons (eC (.int 11)) aNil))))))))))))))) aNil))) hc (by decide) (by decide) rfl (fun w => by kernel_rfl)
  obtain ⟨p, rfl, hp⟩ := ints_in hp0
  have s0 : ll0 (δQ (j + 2) none none none none none none none none none) ⟨src c l m t rest, []⟩ = .ok (.nx, δQ (j + 2) (some (.int p)) none none none none none none none none) ⟨src c0 l0 m0 t0 rest, []⟩ := set_ok q0
  have s1 : ll1 (δQ (j + 2) (some (.int p)) none none none none none none none none) ⟨src c0 l0 m0 t0 rest, []⟩ = .ok (.nx, δQ (j + 2) (some (.int p)) (some (.lst (nmL ns "w" "zz"))) none none none none none none none) ⟨src c0 l0 m0 t0 rest, []⟩ := set_ok (names_ok (j := j + 2) rfl hj hk hn)
  obtain ⟨w0, c2, l2, m2, t2, q2, hw0, hc2⟩ := draw_lst (l := l0) (m := m0) (t := t0) (rest := rest) (own := []) (δ := δQ (j + 2) (some (.int p)) (some (.lst (nmL ns "w" "zz"))) none none none none none none none) (xs := wds6.map D.str) (ma := (aCons (eVar 0) (aCons (eFrz (fLst (aCons (eC (.str "least")) (aCons (eC (.str "just")) (aCons (eC (.str "over")) (aCons (eC (.str "rest")) (aCons (eC (.str "nothing")) (aCons (eC (.str "rest")) aNil)))))))) aNil))) hc0 (by decide) (by decide) rfl (fun w => by kernel_rfl)
  obtain ⟨word, rfl, hw⟩ := strs_in hw0
  have s2 : ll2 (δQ (j + 2) (some (.int p)) (some (.lst (nmL ns "w" "zz"))) none none none none none none none) ⟨src c0 l0 m0 t0 rest, []⟩ = .ok (.nx, δQ (j + 2) (some (.int p)) (some (.lst (nmL ns "w" "zz"))) (some (.str word)) none none none none none none) ⟨src c2 l2 m2 t2 rest, []⟩ := set_ok q2
  have hN0 : nmL ns "w" "zz" ≠ [] := fun e => by
    have := nm_len ns "w" "zz"
    rw [e] at this
    simp at this
  have hN1 : (nmL ns "w" "zz").length < 1000000 := by rw [nm_len]; omega
  obtain ⟨f0, c3, l3, m3, t3, q3, hf0, hc3⟩ := draw_lst (l := l2) (m := m2) (t := t2) (rest := rest) (own := []) (δ := δQ (j + 2) (some (.int p)) (some (.lst (nmL ns "w" "zz"))) (some (.str word)) none none none none none none) (xs := nmL ns "w" "zz") (ma := (aCons (eVar 0) (aCons (eVar 3) aNil))) hc2 hN0 hN1 (nm_cl _ _ _) (fun w => rfl)
  obtain ⟨f, rfl⟩ := nm_str hf0
  obtain ⟨g0, c4, l4, m4, t4, q4, hg0, hc4⟩ := draw_lst (l := l3) (m := m3) (t := t3) (rest := rest) (own := []) (δ := δQ (j + 2) (some (.int p)) (some (.lst (nmL ns "w" "zz"))) (some (.str word)) none none none none none none) (xs := nmL ns "w" "zz") (ma := (aCons (eVar 0) (aCons (eVar 3) aNil))) hc3 hN0 hN1 (nm_cl _ _ _) (fun w => rfl)
  obtain ⟨g, rfl⟩ := nm_str hg0
  obtain ⟨n, c5, l5, m5, t5, q5, n0, n1, hc5⟩ := draw_pick (l := l4) (m := m4) (t := t4) (rest := rest) (own := []) (δ := δQ (j + 2) (some (.int p)) (some (.lst (nmL ns "w" "zz"))) (some (.str word)) none none none none none none) (many := 5) (ma := (aCons (eVar 0) (aCons (eC (.int 5)) aNil))) hc4 (by omega) (by omega) (fun w => rfl)
  have s3 : ll3 (δQ (j + 2) (some (.int p)) (some (.lst (nmL ns "w" "zz"))) (some (.str word)) none none none none none none) ⟨src c2 l2 m2 t2 rest, []⟩ = .ok (.nx, δQ (j + 2) (some (.int p)) (some (.lst (nmL ns "w" "zz"))) (some (.str word)) none none none (some (.str f)) (some (.str g)) (some (.int n))) ⟨src c5 l5 m5 t5 rest, []⟩ :=
    par3_ok (acons_ok q3 (acons_ok q4 (acons_ok q5 anil_ok)))
  have s4 : ll4 (δQ (j + 2) (some (.int p)) (some (.lst (nmL ns "w" "zz"))) (some (.str word)) none none none (some (.str f)) (some (.str g)) (some (.int n))) ⟨src c5 l5 m5 t5 rest, []⟩ = .ok (.nx, δQ (j + 2) (some (.int p)) (some (.lst (nmL ns "w" "zz"))) (some (.str word)) (some (.own 0)) none none (some (.str f)) (some (.str g)) (some (.int n))) ⟨src c5 l5 m5 t5 rest, [.dK (kv3 f n)]⟩ := by kernel_rfl
  have s5 : ll5 (δQ (j + 2) (some (.int p)) (some (.lst (nmL ns "w" "zz"))) (some (.str word)) (some (.own 0)) none none (some (.str f)) (some (.str g)) (some (.int n))) ⟨src c5 l5 m5 t5 rest, [.dK (kv3 f n)]⟩ = .ok (.nx, δQ (j + 2) (some (.int p)) (some (.lst (nmL ns "w" "zz"))) (some (.str word)) (some (.own 0)) none none (some (.str f)) (some (.str g)) (some (.int n))) ⟨src c5 l5 m5 t5 rest, [.dK (kv4 f g n)]⟩ := by kernel_rfl
  obtain ⟨r0, c6, l6, m6, t6, q6, hr0, hc6⟩ := draw_lst (l := l5) (m := m5) (t := t5) (rest := rest) (own := [.dK (kv4 f g n)]) (δ := δQ (j + 2) (some (.int p)) (some (.lst (nmL ns "w" "zz"))) (some (.str word)) (some (.own 0)) none none (some (.str f)) (some (.str g)) (some (.int n))) (xs := rs6.map D.int) (ma := (aCons (eVar 0) (aCons (eFrz (fLst (aCons (eC (.int 0)) (aCons (eC (.int 1)) (aCons (eC (.int 2)) (aCons (eC (.int 3)) (aCons (eC (.int 60)) (aCons (eC (.int 61)) aNil)))))))) aNil))) hc5 (by decide) (by decide) rfl (fun w => by kernel_rfl)
  obtain ⟨r, rfl, hr⟩ := ints_in hr0
  have s6 : ll6 (δQ (j + 2) (some (.int p)) (some (.lst (nmL ns "w" "zz"))) (some (.str word)) (some (.own 0)) none none (some (.str f)) (some (.str g)) (some (.int n))) ⟨src c5 l5 m5 t5 rest, [.dK (kv4 f g n)]⟩ = .ok (.nx, δQ (j + 2) (some (.int p)) (some (.lst (nmL ns "w" "zz"))) (some (.str word)) (some (.own 0)) (some (.int r)) none (some (.str f)) (some (.str g)) (some (.int n))) ⟨src c6 l6 m6 t6 rest, [.dK (kv4 f g n)]⟩ := set_ok q6
  obtain ⟨x0, c7, l7, m7, t7, q7, hx0, hc7⟩ := draw_lst (l := l6) (m := m6) (t := t6) (rest := rest) (own := [.dK (kv4 f g n)]) (δ := δQ (j + 2) (some (.int p)) (some (.lst (nmL ns "w" "zz"))) (some (.str word)) (some (.own 0)) (some (.int r)) none (some (.str f)) (some (.str g)) (some (.int n))) (xs := [0, 1, r, if r - 1 > 0 then r - 1 else 0].map D.int) (ma := (aCons (eVar 0) (aCons (eFrz (fLst (aCons (eC (.int 0)) (aCons (eC (.int 1)) (aCons (eVar 6) (aCons (eB opMax2 (aCons (eC (.int 0)) (aCons (eOp opSub (eVar 6) (eC (.int 1))) aNil))) aNil)))))) aNil))) hc6 (by simp) (by simp) rfl (fun w => by kernel_rfl)
  obtain ⟨x, rfl, hx⟩ := ints_in hx0
  have s7 : ll7 (δQ (j + 2) (some (.int p)) (some (.lst (nmL ns "w" "zz"))) (some (.str word)) (some (.own 0)) (some (.int r)) none (some (.str f)) (some (.str g)) (some (.int n))) ⟨src c6 l6 m6 t6 rest, [.dK (kv4 f g n)]⟩ = .ok (.nx, δQ (j + 2) (some (.int p)) (some (.lst (nmL ns "w" "zz"))) (some (.str word)) (some (.own 0)) (some (.int r)) none (some (.str f)) (some (.str g)) (some (.int n))) ⟨src c7 l7 m7 t7 rest, [.dK (kv5 f g n r x)]⟩ := by
    refine asg_ok (d := .tup [.str "rest", .str f, .int x, .int r]) (w1 := ⟨src c7 l7 m7 t7 rest, [.dK (kv4 f g n)]⟩) ?_ (by kernel_rfl)
    exact tup_ok (acons_ok (d := .str "rest") rfl (acons_ok (d := .str f) rfl (acons_ok q7 (acons_ok (d := .int r) rfl anil_ok)))) (by simp)
  refine ⟨p, word, f, g, n, r, x, c7, l7, m7, t7, ?_, hp, hw, hr, hc7⟩
  rw [ll_M, seq_nx s0, seq_nx s1, seq_nx s2, seq_nx s3, seq_nx s4, seq_nx s5, seq_nx s6, seq_nx s7]
end Lk04

set_option Elab.async false
set_option linter.all false
set_option maxRecDepth 100000
set_option maxHeartbeats 0
/-! k04: drawn lots and what is wrong in them. -/
namespace Lk04
open PySem L2 DP
def smF (a b : D) : Bool := lv a && lv b && decide (nz a + nz b ≤ 100) && decide (dpD a ≤ 5) && decide (dpD b ≤ 5)
def FauF (d : D) : Prop := d = .non ∨ ∃ a b, d = .tup [a, b] ∧ a.pu = true ∧ b.pu = true ∧ smF a b = true
def LotR (P : List Pt) (p : Int) (found fault : D) : Prop := found.pu = true ∧ FauF fault ∧ ∀ (name : Str) (K : List (Key × D)) (r : List SO), F_wrong_making [.loc 0, lI name p found] (ST K (Pd P) [] r) = .ok fault ⟨ST K (Pd P) [] r, []⟩
theorem FauF.cl {d : D} (h : FauF d) : d.cl = true := by
  rcases h with rfl | ⟨a, b, rfl, ha, hb, _⟩
  · rfl
  · simp [D.cl, D.clL, pu_cl ha, pu_cl hb]
def no5 : List Int := [1, 4, 9, 0, 11]
section
variable {P : List Pt} {p n r x : Int} {found : D} {f g : Str}
theorem LR_prime (hp : p ∈ no5) (hfp : found.pu = true) : LotR P p found (.tup [.tup [.int 2], .str "prime"]) := by
  refine ⟨hfp, .inr ⟨_, _, rfl, rfl, rfl, by kernel_rfl⟩, fun name K s => making_lot ?_ rfl⟩
  have e0 : wl0 (δw (lI name p found) none none) ⟨ST K (Pd P) [] s, []⟩ = .ok (.rt (.tup [.tup [.int 2], .str "prime"]), δw (lI name p found) none none) ⟨ST K (Pd P) [] s, []⟩ := by
    unfold no5 at hp
    simp only [List.mem_cons, List.not_mem_nil, or_false] at hp
    rcases hp with rfl | rfl | rfl | rfl | rfl <;> kernel_rfl
  have em : m_wrong_lot (δw (lI name p found) none none) ⟨ST K (Pd P) [] s, []⟩ = .ok (.rt (.tup [.tup [.int 2], .str "prime"]), δw (lI name p found) none none) ⟨ST K (Pd P) [] s, []⟩ := by
    rw [wl_M, seq_rt e0]
  exact fn_rt (nl := 4) (np := 2) (m := m_wrong_lot) (ds := [.loc 0, lI name p found]) (δ0 := δw (lI name p found) none none) rfl rfl em rfl
theorem LR_f {tag : Str} {ms ss : List D} (hp : p ∈ prs4) (hs : ∀ item w, (eOp opIx (eC g_LOTS) (eOp opIx (eVar 2) (eC (.int 0)))) (δw item (some (.tup (.str tag :: .str f :: ms))) none) w = .ok (.tup (.str "poly" :: ss)) w) (hf : (valD (Pd P) (.inr f)).isSome = false) (hm : D.puL ms = true) : LotR P p (.tup (.str tag :: .str f :: ms)) (.tup [.tup [.int 3, .int 1], .str "poly"]) := by
  refine ⟨by simp [D.pu, D.puL, hm], .inr ⟨_, _, rfl, rfl, rfl, by kernel_rfl⟩, fun name K s => making_lot ?_ rfl⟩
  exact wlot_bad (path := [.int 1]) hp rfl (hs _) (lr_nopoly (k := 0) (y := f) rfl hf) (by simp)
theorem LR_g (hp : p ∈ prs4) (hf : (valD (Pd P) (.inr f)).isSome = true) (hg : (valD (Pd P) (.inr g)).isSome = false) : LotR P p (.tup [.str "over", .str f, .str g, .int n]) (.tup [.tup [.int 3, .int 2], .str "poly"]) := by
  refine ⟨rfl, .inr ⟨_, _, rfl, rfl, rfl, by kernel_rfl⟩, fun name K s => making_lot ?_ rfl⟩
  exact wlot_bad (path := [.int 2]) (ms := [.str f, .str g, .int n]) (ss := [.str "poly", .str "poly", .str "any"]) hp rfl (fun w => by kernel_rfl) (lr_poly (k := 0) (y := f) rfl hf (lr_nopoly (k := 1) (y := g) rfl hg)) (by simp)
theorem LR_over (hp : p ∈ prs4) (hf : (valD (Pd P) (.inr f)).isSome = true) (hg : (valD (Pd P) (.inr g)).isSome = true) : LotR P p (.tup [.str "over", .str f, .str g, .int n]) .non := by
  refine ⟨rfl, .inl rfl, fun name K s => making_lot ?_ rfl⟩
  exact wlot_fine (ms := [.str f, .str g, .int n]) (ss := [.str "poly", .str "poly", .str "any"]) hp rfl (fun w => by kernel_rfl) (lr_poly (k := 0) (y := f) rfl hf (lr_poly (k := 1) (y := g) rfl hg (lr_any (k := 2) rfl lr_nil))) ⟨δw (lI name p (.tup [.str "over", .str f, .str g, .int n])) (some (.tup [.str "over", .str f, .str g, .int n])) (some .non), by kernel_rfl⟩ rfl
theorem LR_least (hp : p ∈ prs4) (hf : (valD (Pd P) (.inr f)).isSome = true) : LotR P p (.tup [.str "least", .str f, .int n]) .non := by
  refine ⟨rfl, .inl rfl, fun name K s => making_lot ?_ rfl⟩
  exact wlot_fine (ms := [.str f, .int n]) (ss := [.str "poly", .str "any"]) hp rfl (fun w => by kernel_rfl) (lr_poly (k := 0) (y := f) rfl hf (lr_any (k := 1) rfl lr_nil)) ⟨δw (lI name p (.tup [.str "least", .str f, .int n])) (some (.tup [.str "least", .str f, .int n])) (some .non), by kernel_rfl⟩ rfl
theorem LR_just (hp : p ∈ prs4) (hf : (valD (Pd P) (.inr f)).isSome = true) : LotR P p (.tup [.str "just", .str f, .int n]) .non := by
  refine ⟨rfl, .inl rfl, fun name K s => making_lot ?_ rfl⟩
  exact wlot_fine (ms := [.str f, .int n]) (ss := [.str "poly", .str "any"]) hp rfl (fun w => by kernel_rfl) (lr_poly (k := 0) (y := f) rfl hf (lr_any (k := 1) rfl lr_nil)) ⟨δw (lI name p (.tup [.str "just", .str f, .int n])) (some (.tup [.str "just", .str f, .int n])) (some .non), by kernel_rfl⟩ rfl
theorem LR_nothing (hp : p ∈ prs4) (hf : (valD (Pd P) (.inr f)).isSome = true) : LotR P p (.tup [.str "nothing", .str f]) .non := by
  refine ⟨rfl, .inl rfl, fun name K s => making_lot ?_ rfl⟩
  exact wlot_fine (ms := [.str f]) (ss := [.str "poly"]) hp rfl (fun w => by kernel_rfl) (lr_poly (k := 0) (y := f) rfl hf lr_nil) ⟨δw (lI name p (.tup [.str "nothing", .str f])) (some (.tup [.str "nothing", .str f])) (some .non), by kernel_rfl⟩ rfl
def resF (r x : Int) : D := if r = 0 ∨ r = 61 then .tup [.tup [.int 3, .int 3], .str "number"] else if r ≤ x then .tup [.tup [.int 3, .int 2], .str "number"] else .non
theorem resF_f : FauF (resF r x) := by
  unfold resF
  split
  · exact .inr ⟨_, _, rfl, rfl, rfl, by kernel_rfl⟩
  · split
    · exact .inr ⟨_, _, rfl, rfl, rfl, by kernel_rfl⟩
    · exact .inl rfl
theorem wl45 {item : D} {w : Wd} (hr : r ∈ rs6) : (sSeq wl4 (sSeq wl5 sNil)) (δw item (some (.tup [.str "rest", .str f, .int x, .int r])) (some .non)) w = .ok (.rt (resF r x), δw item (some (.tup [.str "rest", .str f, .int x, .int r])) (some .non)) w := by
  have h1 : r = 0 ∨ r = 61 → wl4 (δw item (some (.tup [.str "rest", .str f, .int x, .int r])) (some .non)) w = .ok (.rt (.tup [.tup [.int 3, .int 3], .str "number"]), δw item (some (.tup [.str "rest", .str f, .int x, .int r])) (some .non)) w := by
    rintro (rfl | rfl) <;> kernel_rfl
  have h2 : ¬ (r = 0 ∨ r = 61) → wl4 (δw item (some (.tup [.str "rest", .str f, .int x, .int r])) (some .non)) w = .ok (.nx, δw item (some (.tup [.str "rest", .str f, .int x, .int r])) (some .non)) w := by
    unfold rs6 at hr
    simp only [List.mem_cons, List.not_mem_nil, or_false] at hr
    rcases hr with rfl | rfl | rfl | rfl | rfl | rfl
    · exact fun h => absurd (.inl rfl) h
    · exact fun _ => by kernel_rfl
    · exact fun _ => by kernel_rfl
    · exact fun _ => by kernel_rfl
    · exact fun _ => by kernel_rfl
    · exact fun h => absurd (.inr rfl) h
  by_cases h : r = 0 ∨ r = 61
  · rw [seq_rt (h1 h)]
    unfold resF
    rw [if_pos h]
  · have t : (tAnd_ (tB_ (eOp opEq (eOp opIx (eVar 2) (eC (.int 0))) (eC (.str "rest")))) (tB_ (eOp opGe (eOp opIx (eVar 2) (eC (.int 2))) (eOp opIx (eVar 2) (eC (.int 3)))))) (δw item (some (.tup [.str "rest", .str f, .int x, .int r])) (some .non)) w = .ok (decide (r ≤ x)) w := by kernel_rfl
    have e5 : wl5 (δw item (some (.tup [.str "rest", .str f, .int x, .int r])) (some .non)) w = .ok (.rt (if r ≤ x then .tup [.tup [.int 3, .int 2], .str "number"] else .non), δw item (some (.tup [.str "rest", .str f, .int x, .int r])) (some .non)) w := by
      refine ret_ok ?_
      by_cases z : r ≤ x
      · rw [decide_eq_true z] at t
        rw [if_pos z]
        exact (eif_t t).trans rfl
      · rw [decide_eq_false z] at t
        rw [if_neg z]
        exact (eif_f t).trans rfl
    rw [seq_nx (h2 h), seq_rt e5]
    unfold resF
    rw [if_neg h]
theorem LR_rest (hp : p ∈ prs4) (hr : r ∈ rs6) (hf : (valD (Pd P) (.inr f)).isSome = true) : LotR P p (.tup [.str "rest", .str f, .int x, .int r]) (resF r x) := by
  refine ⟨rfl, resF_f, fun name K s => making_lot ?_ resF_f.cl⟩
  exact wlot_fine (ms := [.str f, .int x, .int r]) (ss := [.str "poly", .str "any", .str "any"]) hp rfl (fun w => by kernel_rfl) (lr_poly (k := 0) (y := f) rfl hf (lr_any (k := 1) rfl (lr_any (k := 2) rfl lr_nil))) ⟨_, wl45 hr⟩ resF_f.cl
end
end Lk04

set_option Elab.async false
set_option linter.all false
set_option maxRecDepth 100000
set_option maxHeartbeats 0
/-! k04: drawn lots, whole. -/
namespace Lk04
open PySem L2 DP
abbrev EQ (j : Nat) (nm : Option D) (p : Int) (word : Str) (r : Int) (found : Option D) (f g : Str) (n : Int) : DP.Env := δQ j (some (.int p)) nm (some (.str word)) (some (.own 0)) (some (.int r)) found (some (.str f)) (some (.str g)) (some (.int n))
section
variable {j : Nat} {nm : Option D} {p n r x : Int} {word f g : Str} {found : D} {w : Wd} {kvs : List (Key × D)}
theorem q9_bad (hp : p ∈ no5) : ll9 (EQ j nm p word r (some found) f g n) w = .ok (.rt (.tup [.int p, found, .tup [.tup [.int 2], .str "prime"]]), EQ j nm p word r (some found) f g n) w := by
  unfold no5 at hp
  simp only [List.mem_cons, List.not_mem_nil, or_false] at hp
  rcases hp with rfl | rfl | rfl | rfl | rfl <;> kernel_rfl
theorem q9_fine (hp : p ∈ prs4) : ll9 (EQ j nm p word r (some found) f g n) w = .ok (.nx, EQ j nm p word r (some found) f g n) w := by
  unfold prs4 at hp
  simp only [List.mem_cons, List.not_mem_nil, or_false] at hp
  rcases hp with rfl | rfl | rfl | rfl <;> kernel_rfl
theorem q10_t (hj : w.s[j]? = some (.dK kvs)) : (tB_ (eOp (opIn true) (eVar 8) (eVar 1))) (EQ j nm p word r (some found) f g n) w = .ok (!(valD kvs (.inr f)).isSome) w :=
  tB_ok (op2_ok (x := .str f) (y := .loc j) (w1 := w) (w2 := w) rfl rfl (in_dk hj))
theorem q10_bad (hj : w.s[j]? = some (.dK kvs)) (hf : (valD kvs (.inr f)).isSome = false) : ll10 (EQ j nm p word r (some found) f g n) w = .ok (.rt (.tup [.int p, found, .tup [.tup [.int 3, .int 1], .str "poly"]]), EQ j nm p word r (some found) f g n) w := by
  have t := q10_t (nm := nm) (p := p) (word := word) (r := r) (found := found) (f := f) (g := g) (n := n) hj
  rw [hf] at t
  unfold ll10
  rw [if_t t]
  rfl
theorem q10_fine (hj : w.s[j]? = some (.dK kvs)) (hf : (valD kvs (.inr f)).isSome = true) : ll10 (EQ j nm p word r (some found) f g n) w = .ok (.nx, EQ j nm p word r (some found) f g n) w := by
  have t := q10_t (nm := nm) (p := p) (word := word) (r := r) (found := found) (f := f) (g := g) (n := n) hj
  rw [hf] at t
  exact nil_f t
theorem q11_t (hj : w.s[j]? = some (.dK kvs)) : (tAnd_ (tB_ (eOp opEq (eVar 4) (eC (.str "over")))) (tB_ (eOp (opIn true) (eVar 9) (eVar 1)))) (EQ j nm p "over" r (some found) f g n) w = .ok (!(valD kvs (.inr g)).isSome) w := by
  have t1 : (tB_ (eOp opEq (eVar 4) (eC (.str "over")))) (EQ j nm p "over" r (some found) f g n) w = .ok true w := by kernel_rfl
  have t2 : (tB_ (eOp (opIn true) (eVar 9) (eVar 1))) (EQ j nm p "over" r (some found) f g n) w = .ok (!(valD kvs (.inr g)).isSome) w := tB_ok (op2_ok (x := .str g) (y := .loc j) (w1 := w) (w2 := w) rfl rfl (in_dk hj))
  unfold tAnd_
  rw [t1, bind_ok, if_pos rfl, t2]
theorem q11_bad (hj : w.s[j]? = some (.dK kvs)) (hg : (valD kvs (.inr g)).isSome = false) : ll11 (EQ j nm p "over" r (some found) f g n) w = .ok (.rt (.tup [.int p, found, .tup [.tup [.int 3, .int 2], .str "poly"]]), EQ j nm p "over" r (some found) f g n) w := by
  have t := q11_t (nm := nm) (p := p) (r := r) (found := found) (f := f) (g := g) (n := n) hj
  rw [hg] at t
  unfold ll11
  rw [if_t t]
  rfl
theorem q11_fine (hj : w.s[j]? = some (.dK kvs)) (hg : (valD kvs (.inr g)).isSome = true) : ll11 (EQ j nm p "over" r (some found) f g n) w = .ok (.nx, EQ j nm p "over" r (some found) f g n) w := by
  have t := q11_t (nm := nm) (p := p) (r := r) (found := found) (f := f) (g := g) (n := n) hj
  rw [hg] at t
  exact nil_f t
theorem q12_over : (sSeq ll12 (sSeq ll13 sNil)) (EQ j nm p "over" r (some found) f g n) w = .ok (.rt (.tup [.int p, found, .non]), EQ j nm p "over" r (some found) f g n) w := by kernel_rfl
theorem q12_least : (sSeq ll11 (sSeq ll12 (sSeq ll13 sNil))) (EQ j nm p "least" r (some found) f g n) w = .ok (.rt (.tup [.int p, found, .non]), EQ j nm p "least" r (some found) f g n) w := by kernel_rfl
theorem q12_just : (sSeq ll11 (sSeq ll12 (sSeq ll13 sNil))) (EQ j nm p "just" r (some found) f g n) w = .ok (.rt (.tup [.int p, found, .non]), EQ j nm p "just" r (some found) f g n) w := by kernel_rfl
theorem q12_nothing : (sSeq ll11 (sSeq ll12 (sSeq ll13 sNil))) (EQ j nm p "nothing" r (some found) f g n) w = .ok (.rt (.tup [.int p, found, .non]), EQ j nm p "nothing" r (some found) f g n) w := by kernel_rfl
abbrev rsD (f : Str) (x r : Int) : D := .tup [.str "rest", .str f, .int x, .int r]
theorem q12_rest (hr : r ∈ rs6) : (sSeq ll11 (sSeq ll12 (sSeq ll13 sNil))) (EQ j nm p "rest" r (some (rsD f x r)) f g n) w = .ok (.rt (.tup [.int p, rsD f x r, resF r x]), EQ j nm p "rest" r (some (rsD f x r)) f g n) w := by
  have e11 : ll11 (EQ j nm p "rest" r (some (rsD f x r)) f g n) w = .ok (.nx, EQ j nm p "rest" r (some (rsD f x r)) f g n) w := by kernel_rfl
  have h1 : r = 0 ∨ r = 61 → ll12 (EQ j nm p "rest" r (some (rsD f x r)) f g n) w = .ok (.rt (.tup [.int p, rsD f x r, .tup [.tup [.int 3, .int 3], .str "number"]]), EQ j nm p "rest" r (some (rsD f x r)) f g n) w := by
    rintro (rfl | rfl) <;> kernel_rfl
  have h2 : ¬ (r = 0 ∨ r = 61) → ll12 (EQ j nm p "rest" r (some (rsD f x r)) f g n) w = .ok (.nx, EQ j nm p "rest" r (some (rsD f x r)) f g n) w := by
    unfold rs6 at hr
    simp only [List.mem_cons, List.not_mem_nil, or_false] at hr
    rcases hr with rfl | rfl | rfl | rfl | rfl | rfl
    · exact fun h => absurd (.inl rfl) h
    · exact fun _ => by kernel_rfl
    · exact fun _ => by kernel_rfl
    · exact fun _ => by kernel_rfl
    · exact fun _ => by kernel_rfl
    · exact fun h => absurd (.inr rfl) h
  rw [seq_nx e11]
  by_cases h : r = 0 ∨ r = 61
  · rw [seq_rt (h1 h)]
    unfold resF
    rw [if_pos h]
  · have t : (tAnd_ (tB_ (eOp opEq (eVar 4) (eC (.str "rest")))) (tB_ (eOp opGe (eOp opIx (eVar 7) (eC (.int 2))) (eVar 6)))) (EQ j nm p "rest" r (some (rsD f x r)) f g n) w = .ok (decide (r ≤ x)) w := by kernel_rfl
    have e5 : ll13 (EQ j nm p "rest" r (some (rsD f x r)) f g n) w = .ok (.rt (.tup [.int p, rsD f x r, if r ≤ x then .tup [.tup [.int 3, .int 2], .str "number"] else .non]), EQ j nm p "rest" r (some (rsD f x r)) f g n) w := by
      refine ret_ok (tup_ok (acons_ok (d := .int p) rfl (acons_ok (d := rsD f x r) rfl (acons_ok (w1 := w) ?_ anil_ok))) (by simp))
      by_cases z : r ≤ x
      · rw [decide_eq_true z] at t
        rw [if_pos z]
        exact (eif_t t).trans rfl
      · rw [decide_eq_false z] at t
        rw [if_neg z]
        exact (eif_f t).trans rfl
    rw [seq_nx (h2 h), seq_rt e5]
    unfold resF
    rw [if_neg h]
end
theorem no5_of {p : Int} (h : p ∈ prs13) (h2 : p ∉ prs4) : p ∈ no5 := by
  unfold prs13 at h
  unfold no5
  unfold prs4 at h2
  simp only [List.mem_cons, List.not_mem_nil, or_false] at h h2 ⊢
  omega
/-- a drawn lot: what it is, and its first fault -/
theorem lot_tail {P : List Pt} {j : Nat} {nm : Option D} {p n r x : Int} {word f g : Str} {s : List SO} (hj : s[j]? = some (.dK (Pd P))) (hp : p ∈ prs13) (hw : word ∈ wds6) (hr : r ∈ rs6) : ∃ found fault δ', (sSeq ll8 llQ) (EQ j nm p word r none f g n) ⟨s, [.dK (kv5 f g n r x)]⟩ = .ok (.rt (.tup [.int p, found, fault]), δ') ⟨s, [.dK (kv5 f g n r x)]⟩ ∧ LotR P p found fault := by
  obtain ⟨found, tag, ms, ss, hfo, hpu, hs, e8, hre⟩ : ∃ (found : D) (tag : Str) (ms ss : List D), found = .tup (.str tag :: .str f :: ms) ∧ D.puL ms = true ∧ (∀ item w, (eOp opIx (eC g_LOTS) (eOp opIx (eVar 2) (eC (.int 0)))) (δw item (some (.tup (.str tag :: .str f :: ms))) none) w = .ok (.tup (.str "poly" :: ss)) w) ∧ ll8 (EQ j nm p word r none f g n) ⟨s, [.dK (kv5 f g n r x)]⟩ = .ok (.nx, EQ j nm p word r (some found) f g n) ⟨s, [.dK (kv5 f g n r x)]⟩ ∧
      (p ∈ prs4 → (valD (Pd P) (.inr f)).isSome = true → ∃ fault δ', (sSeq ll11 (sSeq ll12 (sSeq ll13 sNil))) (EQ j nm p word r (some found) f g n) ⟨s, [.dK (kv5 f g n r x)]⟩ = .ok (.rt (.tup [.int p, found, fault]), δ') ⟨s, [.dK (kv5 f g n r x)]⟩ ∧ LotR P p found fault) := by
    unfold wds6 at hw
    simp only [List.mem_cons, List.not_mem_nil, or_false] at hw
    rcases hw with rfl | rfl | rfl | rfl | rfl | rfl
    · exact ⟨.tup [.str "least", .str f, .int n], "least", [.int n], [.str "any"], rfl, rfl, fun _ w => by kernel_rfl, by kernel_rfl, fun h1 h2 => ⟨_, _, q12_least, LR_least h1 h2⟩⟩
    · exact ⟨.tup [.str "just", .str f, .int n], "just", [.int n], [.str "any"], rfl, rfl, fun _ w => by kernel_rfl, by kernel_rfl, fun h1 h2 => ⟨_, _, q12_just, LR_just h1 h2⟩⟩
    · refine ⟨.tup [.str "over", .str f, .str g, .int (n - 3)], "over", [.str g, .int (n - 3)], [.str "poly", .str "any"], rfl, rfl, fun _ w => by kernel_rfl, by kernel_rfl, fun h1 h2 => ?_⟩
      cases hg : (valD (Pd P) (.inr g)).isSome with
      | false => exact ⟨_, _, seq_rt (q11_bad (w := ⟨s, _⟩) hj hg), LR_g h1 h2 hg⟩
      | true => exact ⟨_, _, (seq_nx (q11_fine (w := ⟨s, _⟩) hj hg)).trans q12_over, LR_over h1 h2 hg⟩
    · exact ⟨rsD f x r, "rest", [.int x, .int r], [.str "any", .str "any"], rfl, rfl, fun _ w => by kernel_rfl, by kernel_rfl, fun h1 h2 => ⟨_, _, q12_rest hr, LR_rest h1 hr h2⟩⟩
    · exact ⟨.tup [.str "nothing", .str f], "nothing", [], [], rfl, rfl, fun _ w => by kernel_rfl, by kernel_rfl, fun h1 h2 => ⟨_, _, q12_nothing, LR_nothing h1 h2⟩⟩
    · exact ⟨rsD f x r, "rest", [.int x, .int r], [.str "any", .str "any"], rfl, rfl, fun _ w => by kernel_rfl, by kernel_rfl, fun h1 h2 => ⟨_, _, q12_rest hr, LR_rest h1 hr h2⟩⟩
  have hfp : found.pu = true := by rw [hfo]; simp [D.pu, D.puL, hpu]
  rw [seq_nx e8]
  unfold llQ
  by_cases h4 : p ∈ prs4
  · rw [seq_nx (q9_fine h4)]
    cases hf : (valD (Pd P) (.inr f)).isSome with
    | false =>
      refine ⟨found, _, _, seq_rt (q10_bad (w := ⟨s, _⟩) hj hf), ?_⟩
      rw [hfo]
      exact LR_f h4 hs hf hpu
    | true =>
      obtain ⟨fault, δ', q, hL⟩ := hre h4 hf
      exact ⟨found, fault, δ', (seq_nx (q10_fine (w := ⟨s, _⟩) hj hf)).trans q, hL⟩
  · exact ⟨found, _, _, seq_rt (q9_bad (no5_of hp h4)), LR_prime (no5_of hp h4) hfp⟩
theorem lot_ok {P : List Pt} {rest : List SO} {j : Nat} {c : List Int} {l m t : Int} (hj : rest[j]? = some (.dK (Pd P))) (hn : P.length < 64) (hc : c.length ≤ 63) : ∃ (p : Int) (found fault : D) (c' : List Int) (l' m' t' : Int), F__law_lot [.loc 1, .loc (j + 2)] (src c l m t rest) = .ok (.tup [.int p, found, fault]) ⟨src c' l' m' t' rest, []⟩ ∧ LotR P p found fault ∧ (0 ≤ p ∧ p ≤ 11) ∧ c'.length ≤ 63 := by
  obtain ⟨p, word, f, g, n, r, x, c', l', m', t', e, hp, hw, hr, hc'⟩ := lot_draw (l := l) (m := m) (t := t) (ns := P.map (·.n)) hj (show keysT (Pd P) = some (P.map (·.n)) from keysT_map (f := fun q : Pt => q.n) (g := fun q : Pt => q.it) P) (by rw [List.length_map]; exact hn) hc
  obtain ⟨found, fault, δ', q, hL⟩ := lot_tail (P := P) (j := j + 2) (nm := some (.lst (nmL (P.map (·.n)) "w" "zz"))) (n := n) (r := r) (x := x) (word := word) (f := f) (g := g) (s := src c' l' m' t' rest) hj hp hw hr
  refine ⟨p, found, fault, c', l', m', t', ?_, hL, ?_, hc'⟩
  case refine_2 =>
    unfold prs13 at hp
    simp only [List.mem_cons, List.not_mem_nil, or_false] at hp
    omega
  have hcl : (D.tup [.int p, found, fault]).cl = true := by
    simp [D.cl, D.clL, pu_cl hL.1, hL.2.1.cl]
  exact fn_rt (nl := 11) (np := 2) (m := m__law_lot) (ds := [.loc 1, .loc (j + 2)]) (δ0 := δQ (j + 2) none none none none none none none none none) rfl rfl (e.trans q) hcl
end Lk04

set_option Elab.async false
set_option linter.all false
set_option maxRecDepth 100000
set_option maxHeartbeats 0
/-! k04: pipes, what is wrong in them (texts of the mirrors printed). -/
namespace Lk04
open PySem L2 DP
/-- the places of digits that are too great -/
def idx (p : Int) : Nat → List Int → List Int
  | _, [] => []
  | k, d :: ds => if p ≤ d then (k : Int) :: idx p (k + 1) ds else idx p (k + 1) ds
theorem idx_len (p : Int) : ∀ (k : Nat) (ds : List Int), (idx p k ds).length ≤ ds.length
  | _, [] => Nat.le_refl _
  | k, d :: ds => by
    have := idx_len p (k + 1) ds
    rw [idx]
    split <;> simp only [List.length_cons] <;> omega
theorem idx_mem (p : Int) : ∀ (k : Nat) (ds : List Int), ∀ i ∈ idx p k ds, (k : Int) ≤ i ∧ i < (k : Int) + ds.length
  | k, [], i, h => nomatch h
  | k, d :: ds, i, h => by
    have ih := idx_mem p (k + 1) ds
    rw [List.length_cons]
    rw [idx] at h
    split at h
    · rcases List.mem_cons.mp h with e | e
      · omega
      · have := ih i e; omega
    · have := ih i h; omega
theorem ne_ints {zs : List Int} (h : zs.length ≤ 3) {w : Wd} : opNe (.lst (zs.map D.int)) (.lst []) w = .ok (.bl (!zs.isEmpty)) w := by
  match zs, h with
  | [], _ => kernel_rfl
  | [a], _ => kernel_rfl
  | [a, b], _ => kernel_rfl
  | [a, b, c], _ => kernel_rfl
  | _ :: _ :: _ :: _ :: _, h => simp at h
theorem clL_map (zs : List Int) : D.clL (zs.map D.int) = true := clL_ints zs
section
variable {K P Q : List (Key × D)} {s : List SO} {prime : D} {p : Int}
theorem mcomp {ms : D} {sort : Str} {x5 x6 : Option D} {w : Wd} : ∀ (ds : List Int) (k : Nat), compD (gSq 2 (gCons_ (gNm 5) (gCons_ (gNm 6) gNil_))) (tB_ (eOp opGe (eVar 6) (eVar 3))) (eVar 5) [5, 6] [some (.loc 0), some ms, some (.str sort), some (.int p), none, none, none] (enumD k (ds.map D.int)) w = .ok ((idx p k ds).map D.int) w
  | [], _ => rfl
  | d :: ds, k => by
    have ih := mcomp (ms := ms) (sort := sort) (x5 := x5) (x6 := x6) (w := w) ds (k + 1)
    have e : (tB_ (eOp opGe (eVar 6) (eVar 3))) [some (.loc 0), some ms, some (.str sort), some (.int p), none, some (.int (k : Nat)), some (.int d)] w = .ok (decide (p ≤ d)) w := rfl
    rw [List.map_cons, enumD, compD]
    rw [show (gSq 2 (gCons_ (gNm 5) (gCons_ (gNm 6) gNil_))) (.tup [.int (k : Nat), .int d]) (wipeD [some (.loc 0), some ms, some (.str sort), some (.int p), none, none, none] [5, 6]) w = .ok [some (.loc 0), some ms, some (.str sort), some (.int p), none, some (.int (k : Nat)), some (.int d)] w from rfl, bind_ok, e, bind_ok, idx]
    by_cases h : p ≤ d
    · rw [if_pos (decide_eq_true h), if_pos h]
      rw [show eVar 5 [some (.loc 0), some ms, some (.str sort), some (.int p), none, some (.int (k : Nat)), some (.int d)] w = .ok (.int (k : Nat)) w from rfl, bind_ok, ih, bind_ok]
      rfl
    · rw [if_neg (by rw [decide_eq_false h]; decide), if_neg h]
      exact ih
def digF : List Int → D
  | [] => .non
  | k :: _ => .tup [.tup [.int k], .str "digit"]
theorem mf_digits {ds : List Int} (hl : ds.length ≤ 3) : F_member_fault [.loc 0, .tup (ds.map D.int), .str "digits", .int p] (ST K P Q s) = .ok (digF (idx p 0 ds)) ⟨ST K P Q s, []⟩ := by
  have e0 : f0 (δm (.tup (ds.map D.int)) "digits" (.int p)) ⟨ST K P Q s, []⟩ = .ok (.nx, δm (.tup (ds.map D.int)) "digits" (.int p)) ⟨ST K P Q s, []⟩ := by kernel_rfl
  have e1 : f1 (δm (.tup (ds.map D.int)) "digits" (.int p)) ⟨ST K P Q s, []⟩ = .ok (.nx, δm (.tup (ds.map D.int)) "digits" (.int p)) ⟨ST K P Q s, []⟩ := by kernel_rfl
  have e2 : f2 (δm (.tup (ds.map D.int)) "digits" (.int p)) ⟨ST K P Q s, []⟩ = .ok (.nx, δm (.tup (ds.map D.int)) "digits" (.int p)) ⟨ST K P Q s, []⟩ := by kernel_rfl
  have e3 : f3 (δm (.tup (ds.map D.int)) "digits" (.int p)) ⟨ST K P Q s, []⟩ = .ok (.nx, δm (.tup (ds.map D.int)) "digits" (.int p)) ⟨ST K P Q s, []⟩ := by kernel_rfl
  have t4 : (tB_ (eOp opEq (eVar 2) (eC (.str "digits")))) (δm (.tup (ds.map D.int)) "digits" (.int p)) ⟨ST K P Q s, []⟩ = .ok true ⟨ST K P Q s, []⟩ := by kernel_rfl
  have c4 : (sSet 4 (eFrz (fComp (iEnumM (aCons (eVar 1) aNil)) (gSq 2 (gCons_ (gNm 5) (gCons_ (gNm 6) gNil_))) (tB_ (eOp opGe (eVar 6) (eVar 3))) (eVar 5) [5, 6]))) (δm (.tup (ds.map D.int)) "digits" (.int p)) ⟨ST K P Q s, []⟩ = .ok (.nx, [some (.loc 0), some (.tup (ds.map D.int)), some (.str "digits"), some (.int p), some (.lst ((idx p 0 ds).map D.int)), none, none]) ⟨ST K P Q s, []⟩ := by
    refine set_ok (frz_ok (fcomp_ok (ds := enumD 0 (ds.map D.int)) (w1 := ⟨ST K P Q s, []⟩) rfl (by rw [enumD_length, List.length_map]; omega) (mcomp (x5 := none) (x6 := none) ds 0)))
  have hz := idx_len p 0 ds
  have r4 : (sRet (eIf (tB_ (eOp opNe (eVar 4) (eFrz (fLst aNil)))) (eTup (aCons (eTup (aCons (eOp opIx (eVar 4) (eC (.int 0))) aNil)) (aCons (eC g_DIGIT) aNil))) (eC .non))) [some (.loc 0), some (.tup (ds.map D.int)), some (.str "digits"), some (.int p), some (.lst ((idx p 0 ds).map D.int)), none, none] ⟨ST K P Q s, []⟩ = .ok (.rt (digF (idx p 0 ds)), [some (.loc 0), some (.tup (ds.map D.int)), some (.str "digits"), some (.int p), some (.lst ((idx p 0 ds).map D.int)), none, none]) ⟨ST K P Q s, []⟩ := by
    generalize idx p 0 ds = zs at hz
    refine ret_ok ?_
    have t : (tB_ (eOp opNe (eVar 4) (eFrz (fLst aNil)))) [some (.loc 0), some (.tup (ds.map D.int)), some (.str "digits"), some (.int p), some (.lst (zs.map D.int)), none, none] ⟨ST K P Q s, []⟩ = .ok (!zs.isEmpty) ⟨ST K P Q s, []⟩ := tB_ok (op2_ok (x := .lst (zs.map D.int)) (y := .lst []) (w1 := ⟨ST K P Q s, []⟩) (w2 := ⟨ST K P Q s, []⟩) rfl rfl (ne_ints (by omega)))
    cases zs with
    | nil => exact (eif_f t).trans rfl
    | cons k zs =>
      refine (eif_t t).trans (tup_ok (acons_ok (d := .tup [.int k]) (w1 := ⟨ST K P Q s, []⟩) (tup_ok (acons_ok (d := .int k) (w1 := ⟨ST K P Q s, []⟩) (op2_ok (x := .lst ((k :: zs).map D.int)) (y := .int 0) (w1 := ⟨ST K P Q s, []⟩) (w2 := ⟨ST K P Q s, []⟩) rfl rfl ?_) anil_ok) (by simp)) (acons_ok (d := .str "digit") rfl anil_ok)) (by simp))
      exact ix_lst (n := 0) (by simp)
  have e4 : f4 (δm (.tup (ds.map D.int)) "digits" (.int p)) ⟨ST K P Q s, []⟩ = .ok (.rt (digF (idx p 0 ds)), [some (.loc 0), some (.tup (ds.map D.int)), some (.str "digits"), some (.int p), some (.lst ((idx p 0 ds).map D.int)), none, none]) ⟨ST K P Q s, []⟩ := by
    unfold f4
    rw [if_t t4, seq_nx c4, seq_rt r4]
  have em : m_member_fault (δm (.tup (ds.map D.int)) "digits" (.int p)) ⟨ST K P Q s, []⟩ = .ok (.rt (digF (idx p 0 ds)), [some (.loc 0), some (.tup (ds.map D.int)), some (.str "digits"), some (.int p), some (.lst ((idx p 0 ds).map D.int)), none, none]) ⟨ST K P Q s, []⟩ := by
    rw [mf_M, seq_nx e0, seq_nx e1, seq_nx e2, seq_nx e3, seq_rt e4]
  refine fn_rt (nl := 7) (np := 4) (m := m_member_fault) (ds := [.loc 0, .tup (ds.map D.int), .str "digits", .int p]) (δ0 := δm (.tup (ds.map D.int)) "digits" (.int p)) rfl rfl em ?_
  cases idx p 0 ds <;> rfl
theorem mf_num {a : Int} (ha : a ≠ 0) : F_member_fault [.loc 0, .int a, .str "number", prime] (ST K P Q s) = .ok .non ⟨ST K P Q s, []⟩ := by
  have e0 : f0 (δm (.int a) "number" prime) ⟨ST K P Q s, []⟩ = .ok (.nx, δm (.int a) "number" prime) ⟨ST K P Q s, []⟩ := by kernel_rfl
  have e1 : f1 (δm (.int a) "number" prime) ⟨ST K P Q s, []⟩ = .ok (.nx, δm (.int a) "number" prime) ⟨ST K P Q s, []⟩ := by kernel_rfl
  have t : (tB_ (eOp opEq (eVar 1) (eC (.int 0)))) (δm (.int a) "number" prime) ⟨ST K P Q s, []⟩ = .ok (decide (a = 0)) ⟨ST K P Q s, []⟩ := by kernel_rfl
  rw [decide_eq_false ha] at t
  have e2 : f2 (δm (.int a) "number" prime) ⟨ST K P Q s, []⟩ = .ok (.rt .non, δm (.int a) "number" prime) ⟨ST K P Q s, []⟩ := by
    unfold f2
    rw [if_t (show (tB_ (eOp opEq (eVar 2) (eC g_NUMBER))) (δm (.int a) "number" prime) ⟨ST K P Q s, []⟩ = .ok true ⟨ST K P Q s, []⟩ by kernel_rfl)]
    exact seq_rt (ret_ok ((eif_f t).trans rfl))
  have em : m_member_fault (δm (.int a) "number" prime) ⟨ST K P Q s, []⟩ = .ok (.rt .non, δm (.int a) "number" prime) ⟨ST K P Q s, []⟩ := by
    rw [mf_M, seq_nx e0, seq_nx e1, seq_rt e2]
  exact fn_rt (nl := 7) (np := 4) (m := m_member_fault) (ds := [.loc 0, .int a, .str "number", prime]) (δ0 := δm (.int a) "number" prime) rfl rfl em rfl
theorem mf_num0 : F_member_fault [.loc 0, .int 0, .str "number", prime] (ST K P Q s) = .ok (.tup [.tup [], .str "number"]) ⟨ST K P Q s, []⟩ := by kernel_rfl
theorem lr_num {ms ss : List D} {k : Nat} {a : Int} {prime res : D} (hm : ms[k]? = some (.int a)) (ha : a ≠ 0) (t : LackR K P Q s ms (k + 1) ss prime res) : LackR K P Q s ms k (.str "number" :: ss) prime res :=
  .fine hm (mf_num ha) (fun _ => eP_same (.inr (.inr (.inl rfl)))) t
theorem lr_num0 {ms ss : List D} {k : Nat} {prime : D} (hm : ms[k]? = some (.int 0)) : LackR K P Q s ms k (.str "number" :: ss) prime (.tup [.tup [.int ((k : Nat) + 1)], .str "number"]) :=
  .bad (path := []) hm mf_num0 (by simp) rfl rfl
theorem lr_dig {ms ss : List D} {k : Nat} {ds : List Int} {res : D} (hm : ms[k]? = some (.tup (ds.map D.int))) (hl : ds.length ≤ 3) (h : idx p 0 ds = []) (t : LackR K P Q s ms (k + 1) ss (.int p) res) : LackR K P Q s ms k (.str "digits" :: ss) (.int p) res := by
  have e := mf_digits (K := K) (P := P) (Q := Q) (s := s) (p := p) hl
  rw [h] at e
  exact .fine hm e (fun _ => eP_same (.inr (.inr (.inr rfl)))) t
theorem lr_digb {ms ss : List D} {k : Nat} {ds : List Int} {i : Int} {is : List Int} (hm : ms[k]? = some (.tup (ds.map D.int))) (hl : ds.length ≤ 3) (h : idx p 0 ds = i :: is) : LackR K P Q s ms k (.str "digits" :: ss) (.int p) (.tup [.tup [.int ((k : Nat) + 1), .int i], .str "digit"]) := by
  have e := mf_digits (K := K) (P := P) (Q := Q) (s := s) (p := p) hl
  rw [h] at e
  exact .bad (path := [.int i]) hm e (by simp) rfl rfl
end
end Lk04

set_option Elab.async false
set_option linter.all false
set_option maxRecDepth 100000
set_option maxHeartbeats 0
/-! k04: what is wrong in pipes, by forms. -/
namespace Lk04
open PySem L2 DP
def PipeR (L : List Lt) (found fault prime : D) : Prop := ∃ (tg w : Str) (ms : List D), found = .tup (.str tg :: .str w :: ms) ∧ D.puL ms = true ∧ FauF fault ∧ prime.cl = true ∧ (∀ (name : Str) (P : List (Key × D)) (r : List SO), F_wrong_making [.loc 0, .tup [.str "pipe", .str name, found]] (ST (Kd L) P [] r) = .ok fault ⟨ST (Kd L) P [] r, []⟩) ∧ (fault = .non → ∃ l ∈ L, l.n = w ∧ prime = .int l.p)
structure GoodL (L : List Lt) : Prop where
  nd : (L.map (·.n)).Nodup
  kd : ∀ l ∈ L, l.kd = "lot" ∨ l.kd = "pipe"
section
variable {L : List Lt} {w u : Str} {l l2 : Lt} {a : Int} {ds : List Int} {prime : D}
theorem GoodL.K (G : GoodL L) (h : l ∈ L) : valD (Kd L) (.inr l.n) = some (.tup [.str l.kd, .int l.p]) := val_some (f := fun l : Lt => l.n) (g := fun l : Lt => .tup [.str l.kd, .int l.p]) G.nd h
def Qd (L : List Lt) : List (Key × D) := L.map fun l => (.inr l.n, .int l.p)
theorem GoodL.Q (G : GoodL L) (h : l ∈ L) : valD (Qd L) (.inr l.n) = some (.int l.p) := val_some (f := fun l : Lt => l.n) (g := fun l : Lt => .int l.p) G.nd h
theorem Qd_no {n : Str} (h : ∀ l ∈ L, l.n ≠ n) : valD (Qd L) (.inr n) = none := val_none (f := fun l : Lt => l.n) (g := fun l : Lt => .int l.p) h
abbrev fR (k : Int) (word : Str) : D := .tup [.tup [.int 2, .int k], .str word]
theorem pr_bad {tg : Str} {ms ss : List D} {path : List D} {word : Str} (hsm : smF (.tup (.int 2 :: path)) (.str word) = true) (hpu : D.puL ms = true) (hpp : D.puL path = true) (hpl : path.length ≤ 10) (hc : prime.cl = true)
    (hs : ∀ name w', wm3 (δw (.tup [.str "pipe", name, .tup (.str tg :: .str w :: ms)]) none none) w' = .ok (.nx, δw (.tup [.str "pipe", name, .tup (.str tg :: .str w :: ms)]) (some (.tup ss)) none) w')
    (h : ∀ P r, LackR (Kd L) P [] r (.str w :: ms) 0 ss .non (.tup [.tup path, .str word])) : PipeR L (.tup (.str tg :: .str w :: ms)) (.tup [.tup (.int 2 :: path), .str word]) prime :=
  ⟨tg, w, ms, rfl, hpu, .inr ⟨_, _, rfl, by simp [D.pu, D.puL, hpp], rfl, hsm⟩, hc, fun name P r => wpipe (told := .str tg :: .str w :: ms) rfl (hs _) (h P r) (wm5_bad hpl) (by show (D.tup [.tup (.int 2 :: path), .str word]).cl = true; simp [D.cl, D.clL, pu_clL hpp]), fun z => by cases z⟩
theorem pr_fine {tg : Str} {ms ss : List D} (hpu : D.puL ms = true) (hl : l ∈ L)
    (hs : ∀ name w', wm3 (δw (.tup [.str "pipe", name, .tup (.str tg :: .str l.n :: ms)]) none none) w' = .ok (.nx, δw (.tup [.str "pipe", name, .tup (.str tg :: .str l.n :: ms)]) (some (.tup ss)) none) w')
    (h : ∀ P r, LackR (Kd L) P [] r (.str l.n :: ms) 0 ss .non .non) : PipeR L (.tup (.str tg :: .str l.n :: ms)) .non (.int l.p) :=
  ⟨tg, l.n, ms, rfl, hpu, .inl rfl, rfl, fun name P r => wpipe (told := .str tg :: .str l.n :: ms) rfl (hs _) (h P r) wm5_non rfl, fun _ => ⟨l, hl, rfl, rfl⟩⟩
theorem Kd_none {n : Str} (h : ∀ l ∈ L, l.n ≠ n) : valD (Kd L) (.inr n) = none := Kd_no h
/-- the lot isn't there -/
theorem PR_no {tg : Str} {ms ss : List D} (hpu : D.puL ms = true) (hw : ∀ l ∈ L, l.n ≠ w)
    (hs : ∀ name w', wm3 (δw (.tup [.str "pipe", name, .tup (.str tg :: .str w :: ms)]) none none) w' = .ok (.nx, δw (.tup [.str "pipe", name, .tup (.str tg :: .str w :: ms)]) (some (.tup (.str "lot" :: ss))) none) w') : PipeR L (.tup (.str tg :: .str w :: ms)) (fR 1 "lot") .non :=
  pr_bad (path := [.int 1]) (by kernel_rfl) hpu rfl (by simp) rfl hs fun P r => lr_nolot (k := 0) (y := w) rfl (Kd_no hw)
variable (G : GoodL L) (hl : l ∈ L)
include G hl
theorem PR_not : PipeR L (.tup [.str "not", .str l.n]) .non (.int l.p) :=
  pr_fine (ss := [.str "lot"]) rfl hl (fun _ _ => by kernel_rfl) fun P r => lr_lot (k := 0) rfl (G.K hl) (G.kd l hl) lr_nil
theorem PR_two0 {tg : Str} (ht : tg = "and" ∨ tg = "or") (hu : ∀ l ∈ L, l.n ≠ u) : PipeR L (.tup [.str tg, .str l.n, .str u]) (fR 2 "lot") .non :=
  pr_bad (ss := [.str "lot", .str "lot"]) (path := [.int 2]) (by kernel_rfl) rfl rfl (by simp) rfl (fun _ _ => by rcases ht with rfl | rfl <;> kernel_rfl) fun P r => lr_lot (k := 0) rfl (G.K hl) (G.kd l hl) (lr_nolot (k := 1) (y := u) rfl (Kd_no hu))
theorem PR_two1 {tg : Str} (ht : tg = "and" ∨ tg = "or") (hu : l2 ∈ L) (hp : l2.p ≠ l.p) : PipeR L (.tup [.str tg, .str l.n, .str l2.n]) (fR 2 "prime") .non :=
  pr_bad (ss := [.str "lot", .str "lot"]) (path := [.int 2]) (by kernel_rfl) rfl rfl (by simp) rfl (fun _ _ => by rcases ht with rfl | rfl <;> kernel_rfl) fun P r => lr_lot (k := 0) rfl (G.K hl) (G.kd l hl) (lr_lotp (k := 1) (y := l2.n) rfl (G.K hu) (G.kd l2 hu) hp)
theorem PR_two {tg : Str} (ht : tg = "and" ∨ tg = "or") (hu : l2 ∈ L) (hp : l2.p = l.p) : PipeR L (.tup [.str tg, .str l.n, .str l2.n]) .non (.int l.p) :=
  pr_fine (ss := [.str "lot", .str "lot"]) rfl hl (fun _ _ => by rcases ht with rfl | rfl <;> kernel_rfl) fun P r => lr_lot (k := 0) rfl (G.K hl) (G.kd l hl) (lr_lot2 (k := 1) (y := l2.n) rfl (by rw [← hp]; exact G.K hu) (G.kd l2 hu) lr_nil)
theorem PR_moved0 : PipeR L (.tup [.str "moved", .str l.n, .int 0, .int (-2)]) (fR 2 "number") .non :=
  pr_bad (ss := [.str "lot", .str "number", .str "any"]) (path := [.int 2]) (by kernel_rfl) rfl rfl (by simp) rfl (fun _ _ => by kernel_rfl) fun P r => lr_lot (k := 0) rfl (G.K hl) (G.kd l hl) (lr_num0 (k := 1) rfl)
theorem PR_moved (ha : a ≠ 0) : PipeR L (.tup [.str "moved", .str l.n, .int a, .int (-2)]) .non (.int l.p) :=
  pr_fine (ss := [.str "lot", .str "number", .str "any"]) rfl hl (fun _ _ => by kernel_rfl) fun P r => lr_lot (k := 0) rfl (G.K hl) (G.kd l hl) (lr_num (k := 1) (a := a) rfl ha (lr_any (k := 2) rfl lr_nil))
theorem puL_ints : ∀ ds : List Int, D.puL (ds.map D.int) = true
  | [] => rfl
  | d :: ds => by rw [List.map_cons, D.puL, puL_ints ds]; rfl
theorem PR_at0 {i : Int} {is : List Int} (hd : ds.length ≤ 3) (h : idx l.p 0 ds = i :: is) : PipeR L (.tup [.str "at", .str l.n, .tup (ds.map D.int)]) (.tup [.tup [.int 2, .int 2, .int i], .str "digit"]) (.int l.p) :=
  pr_bad (ss := [.str "lot", .str "digits"]) (path := [.int 2, .int i]) (by
    have hi := idx_mem l.p 0 ds i (by rw [h]; exact List.mem_cons_self)
    have : i = 0 ∨ i = 1 ∨ i = 2 := by omega
    rcases this with rfl | rfl | rfl <;> kernel_rfl) (by simp [D.puL, D.pu, puL_ints G hl ds]) rfl (by simp) rfl (fun _ _ => by kernel_rfl) fun P r => lr_lot (k := 0) rfl (G.K hl) (G.kd l hl) (lr_digb (k := 1) (ds := ds) rfl hd h)
theorem PR_at (hd : ds.length ≤ 3) (h : idx l.p 0 ds = []) : PipeR L (.tup [.str "at", .str l.n, .tup (ds.map D.int)]) .non (.int l.p) :=
  pr_fine (ss := [.str "lot", .str "digits"]) (by simp [D.puL, D.pu, puL_ints G hl ds]) hl (fun _ _ => by kernel_rfl) fun P r => lr_lot (k := 0) rfl (G.K hl) (G.kd l hl) (lr_dig (k := 1) (ds := ds) rfl hd h lr_nil)
end
end Lk04

set_option Elab.async false
set_option linter.all false
set_option maxRecDepth 100000
set_option maxHeartbeats 0
/-! k04: drawn pipes (texts of the mirrors printed). -/
namespace Lk04
open PySem L2 DP
def gg0 : MS := (sSet 2 (eOp opAdd (eOp opMul (eFrz (fB opSortD (aCons (eVar 1) aNil))) (eC (.int 3))) (eFrz (fLst (aCons (eC (.str "f")) (aCons (eC (.str "zz")) aNil))))))
def gg1 : MS := (sPar 10 11 (aCons (eCall F__law_of (aCons (eVar 0) (aCons (eVar 2) aNil))) (aCons (eCall F__law_of (aCons (eVar 0) (aCons (eVar 2) aNil))) aNil)))
def gg2 : MS := (sSet 3 (eCall F__law_of (aCons (eVar 0) (aCons (eFrz (fLst (aCons (eC (.str "and")) (aCons (eC (.str "or")) (aCons (eC (.str "not")) (aCons (eC (.str "moved")) (aCons (eC (.str "at")) aNil))))))) aNil))))
def gg3 : MS := (sSet 4 (eB opTuple (aCons (eFrz (fComp (iRange1 (aCons (eOp opAdd (eC (.int 1)) (eCall F__law_pick (aCons (eVar 0) (aCons (eC (.int 3)) aNil)))) aNil)) (gNm 12) tYes_ (eCall F__law_pick (aCons (eVar 0) (aCons (eC (.int 5)) aNil))) [12])) aNil)))
def gg4 : MS := (sSet 5 (eCall F__law_of (aCons (eVar 0) (aCons (eFrz (fLst (aCons (eC (.int 0)) (aCons (eC (.int 1)) (aCons (eUn opNeg (eC (.int 1))) (aCons (eC (.int 3)) (aCons (eC (.int 12)) aNil))))))) aNil))))
def gg5 : MS := (sSet 6 (eOwnK (kDisp [((eC (.str "and")), (eTup (aCons (eC (.str "and")) (aCons (eVar 10) (aCons (eVar 11) aNil))))), ((eC (.str "or")), (eTup (aCons (eC (.str "or")) (aCons (eVar 10) (aCons (eVar 11) aNil))))), ((eC (.str "not")), (eTup (aCons (eC (.str "not")) (aCons (eVar 10) aNil)))), ((eC (.str "moved")), (eTup (aCons (eC (.str "moved")) (aCons (eVar 10) (aCons (eVar 5) (aCons (eUn opNeg (eC (.int 2))) aNil))))))])))
def gg6 : MS := (sSet 7 (eGet2 (eVar 6) (eVar 3) (eTup (aCons (eC (.str "at")) (aCons (eVar 10) (aCons (eVar 4) aNil))))))
def gg7 : MS := (sIf (tB_ (eOp (opIn true) (eVar 10) (eVar 1))) (sSeq (sRet (eTup (aCons (eVar 7) (aCons (eTup (aCons (eTup (aCons (eC (.int 2)) (aCons (eC (.int 1)) aNil))) (aCons (eC (.str "lot")) aNil))) (aCons (eC .non) aNil))))) sNil) sNil)
def gg8 : MS := (sSet 8 (eOp opIx (eVar 1) (eVar 10)))
def gg9 : MS := (sIf (tAnd_ (tB_ (eOp (opIn false) (eVar 3) (eTup (aCons (eC (.str "and")) (aCons (eC (.str "or")) aNil))))) (tB_ (eOp (opIn true) (eVar 11) (eVar 1)))) (sSeq (sRet (eTup (aCons (eVar 7) (aCons (eTup (aCons (eTup (aCons (eC (.int 2)) (aCons (eC (.int 2)) aNil))) (aCons (eC (.str "lot")) aNil))) (aCons (eC .non) aNil))))) sNil) sNil)
def gg10 : MS := (sIf (tAnd_ (tB_ (eOp (opIn false) (eVar 3) (eTup (aCons (eC (.str "and")) (aCons (eC (.str "or")) aNil))))) (tB_ (eOp opNe (eOp opIx (eVar 1) (eVar 11)) (eVar 8)))) (sSeq (sRet (eTup (aCons (eVar 7) (aCons (eTup (aCons (eTup (aCons (eC (.int 2)) (aCons (eC (.int 2)) aNil))) (aCons (eC (.str "prime")) aNil))) (aCons (eC .non) aNil))))) sNil) sNil)
def gg11 : MS := (sIf (tAnd_ (tB_ (eOp opEq (eVar 3) (eC (.str "moved")))) (tB_ (eOp opEq (eVar 5) (eC (.int 0))))) (sSeq (sRet (eTup (aCons (eVar 7) (aCons (eTup (aCons (eTup (aCons (eC (.int 2)) (aCons (eC (.int 2)) aNil))) (aCons (eC (.str "number")) aNil))) (aCons (eC .non) aNil))))) sNil) sNil)
def gg12 : MS := (sSet 9 (eFrz (fComp (iEnumM (aCons (eVar 4) aNil)) (gSq 2 (gCons_ (gNm 13) (gCons_ (gNm 14) gNil_))) (tB_ (eOp opGe (eVar 14) (eVar 8))) (eVar 13) [13, 14])))
def gg13 : MS := (sRet (eTup (aCons (eVar 7) (aCons (eIf (tAnd_ (tB_ (eOp opEq (eVar 3) (eC (.str "at")))) (tB_ (eOp opNe (eVar 9) (eFrz (fLst aNil))))) (eTup (aCons (eTup (aCons (eC (.int 2)) (aCons (eC (.int 2)) (aCons (eOp opIx (eVar 9) (eC (.int 0))) aNil)))) (aCons (eC (.str "digit")) aNil))) (eC .non)) (aCons (eVar 8) aNil)))))
def ggQ : MS := (sSeq gg7 (sSeq gg8 (sSeq gg9 (sSeq gg10 (sSeq gg11 (sSeq gg12 (sSeq gg13 sNil)))))))
def ggR : MS := (sSeq gg9 (sSeq gg10 (sSeq gg11 (sSeq gg12 (sSeq gg13 sNil)))))
theorem gg_M : m__law_pipe = (sSeq gg0 (sSeq gg1 (sSeq gg2 (sSeq gg3 (sSeq gg4 (sSeq gg5 (sSeq gg6 ggQ))))))) := rfl

abbrev δG (j : Nat) (x2 x3 x4 x5 x6 x7 x8 x9 x10 x11 x12 x13 x14 : Option D) : DP.Env := [some (.loc 1), some (.loc j), x2, x3, x4, x5, x6, x7, x8, x9, x10, x11, x12, x13, x14]
def wds5 : List Str := ["and", "or", "not", "moved", "at"]
def as5 : List Int := [0, 1, -1, 3, 12]
def kvG (w u : Str) (a : Int) : List (Key × D) := [(.inr "and", .tup [.str "and", .str w, .str u]), (.inr "or", .tup [.str "or", .str w, .str u]), (.inr "not", .tup [.str "not", .str w]), (.inr "moved", .tup [.str "moved", .str w, .int a, .int (-2)])]
def pkE : ME := (eCall F__law_pick (aCons (eVar 0) (aCons (eC (.int 5)) aNil)))
theorem dig_comp {j : Nat} {x2 x3 x4 x5 x6 x7 x8 x9 x10 x11 x12 x13 x14 : Option D} {rest : List SO} : ∀ (n i : Nat) (c : List Int) (l m t : Int), c.length ≤ 63 → ∃ (ds : List Int) (c' : List Int) (l' m' t' : Int), compD (gNm 12) tYes_ pkE [12] (δG j x2 x3 x4 x5 x6 x7 x8 x9 x10 x11 x12 x13 x14) (intsF i n) ⟨src c l m t rest, []⟩ = .ok (ds.map D.int) ⟨src c' l' m' t' rest, []⟩ ∧ ds.length = n ∧ c'.length ≤ 63
  | 0, i, c, l, m, t, hc => ⟨[], c, l, m, t, rfl, rfl, hc⟩
  | n + 1, i, c, l, m, t, hc => by
    obtain ⟨k, c2, l2, m2, t2, q2, k0, k1, hc2⟩ := draw_pick (l := l) (m := m) (t := t) (rest := rest) (own := []) (δ := δG j x2 x3 x4 x5 x6 x7 x8 x9 x10 x11 (some (.int (i : Nat))) x13 x14) (many := 5) (ma := (aCons (eVar 0) (aCons (eC (.int 5)) aNil))) hc (by omega) (by omega) (fun w => rfl)
    obtain ⟨ds, c3, l3, m3, t3, q3, hn, hc3⟩ := dig_comp (j := j) (x2 := x2) (x3 := x3) (x4 := x4) (x5 := x5) (x6 := x6) (x7 := x7) (x8 := x8) (x9 := x9) (x10 := x10) (x11 := x11) (x12 := x12) (x13 := x13) (x14 := x14) (rest := rest) n (i + 1) c2 l2 m2 t2 hc2
    refine ⟨k :: ds, c3, l3, m3, t3, ?_, by rw [List.length_cons, hn], hc3⟩
    have e : pkE (δG j x2 x3 x4 x5 x6 x7 x8 x9 x10 x11 (some (.int (i : Nat))) x13 x14) ⟨src c l m t rest, []⟩ = .ok (.int k) ⟨src c2 l2 m2 t2 rest, []⟩ := q2
    rw [intsF, compD]
    show Res.bind (pkE (δG j x2 x3 x4 x5 x6 x7 x8 x9 x10 x11 (some (.int (i : Nat))) x13 x14) ⟨src c l m t rest, []⟩) _ = _
    rw [e, bind_ok, q3, bind_ok]
    rfl
theorem pipe_draw {rest : List SO} {j : Nat} {kvs : List (Key × D)} {ns : List Str} {c : List Int} {l m t : Int} (hj : rest[j]? = some (.dK kvs)) (hk : keysT kvs = some ns) (hn : ns.length < 64) (hc : c.length ≤ 63) :
    ∃ (word w u : Str) (ds : List Int) (a : Int) (c' : List Int) (l' m' t' : Int), m__law_pipe (δG (j + 2) none none none none none none none none none none none none none) ⟨src c l m t rest, []⟩ = (sSeq gg6 ggQ) (δG (j + 2) (some (.lst (nmL ns "f" "zz"))) (some (.str word)) (some (.tup (ds.map D.int))) (some (.int a)) (some (.own 0)) none none none (some (.str w)) (some (.str u)) none none none) ⟨src c' l' m' t' rest, [.dK (kvG w u a)]⟩ ∧ word ∈ wds5 ∧ ds.length ≤ 3 ∧ c'.length ≤ 63 := by
  have s0 : gg0 (δG (j + 2) none none none none none none none none none none none none none) ⟨src c l m t rest, []⟩ = .ok (.nx, δG (j + 2) (some (.lst (nmL ns "f" "zz"))) none none none none none none none none none none none none) ⟨src c l m t rest, []⟩ := set_ok (names_ok (j := j + 2) rfl hj hk hn)
  have hN0 : nmL ns "f" "zz" ≠ [] := fun e => by
    have := nm_len ns "f" "zz"
    rw [e] at this
    simp at this
  have hN1 : (nmL ns "f" "zz").length < 1000000 := by rw [nm_len]; omega
  obtain ⟨f0, c3, l3, m3, t3, q3, hf0, hc3⟩ := draw_lst (l := l) (m := m) (t := t) (rest := rest) (own := []) (δ := δG (j + 2) (some (.lst (nmL ns "f" "zz"))) none none none none none none none none none none none none) (xs := nmL ns "f" "zz") (ma := (aCons (eVar 0) (aCons (eVar 2) aNil))) hc hN0 hN1 (nm_cl _ _ _) (fun w => rfl)
  obtain ⟨w, rfl⟩ := nm_str hf0
  obtain ⟨g0, c4, l4, m4, t4, q4, hg0, hc4⟩ := draw_lst (l := l3) (m := m3) (t := t3) (rest := rest) (own := []) (δ := δG (j + 2) (some (.lst (nmL ns "f" "zz"))) none none none none none none none none none none none none) (xs := nmL ns "f" "zz") (ma := (aCons (eVar 0) (aCons (eVar 2) aNil))) hc3 hN0 hN1 (nm_cl _ _ _) (fun w => rfl)
  obtain ⟨u, rfl⟩ := nm_str hg0
  have s1 : gg1 (δG (j + 2) (some (.lst (nmL ns "f" "zz"))) none none none none none none none none none none none none) ⟨src c l m t rest, []⟩ = .ok (.nx, δG (j + 2) (some (.lst (nmL ns "f" "zz"))) none none none none none none none (some (.str w)) (some (.str u)) none none none) ⟨src c4 l4 m4 t4 rest, []⟩ := par_ok (acons_ok q3 (acons_ok q4 anil_ok))
  obtain ⟨w0, c2, l2, m2, t2, q2, hw0, hc2⟩ := draw_lst (l := l4) (m := m4) (t := t4) (rest := rest) (own := []) (δ := δG (j + 2) (some (.lst (nmL ns "f" "zz"))) none none none none none none none (some (.str w)) (some (.str u)) none none none) (xs := wds5.map D.str) (ma := (aCons (eVar 0) (aCons (eFrz (fLst (aCons (eC (.str "and")) (aCons (eC (.str "or")) (aCons (eC (.str "not")) (aCons (eC (.str "moved")) (aCons (eC (.str "at")) aNil))))))) aNil))) hc4 (by decide) (by decide) rfl (fun w => by kernel_rfl)
  obtain ⟨word, rfl, hw⟩ := strs_in hw0
  have s2 : gg2 (δG (j + 2) (some (.lst (nmL ns "f" "zz"))) none none none none none none none (some (.str w)) (some (.str u)) none none none) ⟨src c4 l4 m4 t4 rest, []⟩ = .ok (.nx, δG (j + 2) (some (.lst (nmL ns "f" "zz"))) (some (.str word)) none none none none none none (some (.str w)) (some (.str u)) none none none) ⟨src c2 l2 m2 t2 rest, []⟩ := set_ok q2
  obtain ⟨k, c5, l5, m5, t5, q5, k0, k1, hc5⟩ := draw_pick (l := l2) (m := m2) (t := t2) (rest := rest) (own := []) (δ := δG (j + 2) (some (.lst (nmL ns "f" "zz"))) (some (.str word)) none none none none none none (some (.str w)) (some (.str u)) none none none) (many := 3) (ma := (aCons (eVar 0) (aCons (eC (.int 3)) aNil))) hc2 (by omega) (by omega) (fun w => rfl)
  obtain ⟨n, rfl⟩ : ∃ n : Nat, k = (n : Int) := ⟨k.toNat, by omega⟩
  obtain ⟨ds, c6, l6, m6, t6, q6, hd, hc6⟩ := dig_comp (j := j + 2) (x2 := (some (.lst (nmL ns "f" "zz")))) (x3 := (some (.str word))) (x4 := none) (x5 := none) (x6 := none) (x7 := none) (x8 := none) (x9 := none) (x10 := (some (.str w))) (x11 := (some (.str u))) (x12 := none) (x13 := none) (x14 := none) (rest := rest) (1 + n) 0 c5 l5 m5 t5 hc5
  have r1 : (aCons (eOp opAdd (eC (.int 1)) (eCall F__law_pick (aCons (eVar 0) (aCons (eC (.int 3)) aNil)))) aNil) (δG (j + 2) (some (.lst (nmL ns "f" "zz"))) (some (.str word)) none none none none none none (some (.str w)) (some (.str u)) none none none) ⟨src c2 l2 m2 t2 rest, []⟩ = .ok [.int ((1 + n : Nat) : Int)] ⟨src c5 l5 m5 t5 rest, []⟩ :=
    acons_ok (op2_ok (x := .int 1) rfl q5 (res := .ok (.int ((1 + n : Nat) : Int)) _) (by show Res.ok (D.int (1 + (n : Int))) _ = _; rw [show (1 : Int) + (n : Int) = ((1 + n : Nat) : Int) by omega])) anil_ok
  have s3 : gg3 (δG (j + 2) (some (.lst (nmL ns "f" "zz"))) (some (.str word)) none none none none none none (some (.str w)) (some (.str u)) none none none) ⟨src c2 l2 m2 t2 rest, []⟩ = .ok (.nx, δG (j + 2) (some (.lst (nmL ns "f" "zz"))) (some (.str word)) (some (.tup (ds.map D.int))) none none none none none (some (.str w)) (some (.str u)) none none none) ⟨src c6 l6 m6 t6 rest, []⟩ :=
    set_ok (tup_lst (frz_ok (fcomp_ok (ds := intsF 0 (1 + n)) ((range1_ok r1 (by omega)).trans (by rw [rangeL_ints0])) (by rw [intsF_len]; omega) q6)))
  obtain ⟨a0, c7, l7, m7, t7, q7, ha0, hc7⟩ := draw_lst (l := l6) (m := m6) (t := t6) (rest := rest) (own := []) (δ := δG (j + 2) (some (.lst (nmL ns "f" "zz"))) (some (.str word)) (some (.tup (ds.map D.int))) none none none none none (some (.str w)) (some (.str u)) none none none) (xs := as5.map D.int) (ma := (aCons (eVar 0) (aCons (eFrz (fLst (aCons (eC (.int 0)) (aCons (eC (.int 1)) (aCons (eUn opNeg (eC (.int 1))) (aCons (eC (.int 3)) (aCons (eC (.int 12)) aNil))))))) aNil))) hc6 (by decide) (by decide) rfl (fun w => by kernel_rfl)
  obtain ⟨a, rfl, ha⟩ := ints_in ha0
  have s4 : gg4 (δG (j + 2) (some (.lst (nmL ns "f" "zz"))) (some (.str word)) (some (.tup (ds.map D.int))) none none none none none (some (.str w)) (some (.str u)) none none none) ⟨src c6 l6 m6 t6 rest, []⟩ = .ok (.nx, δG (j + 2) (some (.lst (nmL ns "f" "zz"))) (some (.str word)) (some (.tup (ds.map D.int))) (some (.int a)) none none none none (some (.str w)) (some (.str u)) none none none) ⟨src c7 l7 m7 t7 rest, []⟩ := set_ok q7
  have s5 : gg5 (δG (j + 2) (some (.lst (nmL ns "f" "zz"))) (some (.str word)) (some (.tup (ds.map D.int))) (some (.int a)) none none none none (some (.str w)) (some (.str u)) none none none) ⟨src c7 l7 m7 t7 rest, []⟩ = .ok (.nx, δG (j + 2) (some (.lst (nmL ns "f" "zz"))) (some (.str word)) (some (.tup (ds.map D.int))) (some (.int a)) (some (.own 0)) none none none (some (.str w)) (some (.str u)) none none none) ⟨src c7 l7 m7 t7 rest, [.dK (kvG w u a)]⟩ := by kernel_rfl
  refine ⟨word, w, u, ds, a, c7, l7, m7, t7, ?_, hw, by omega, hc7⟩
  rw [gg_M, seq_nx s0, seq_nx s1, seq_nx s2, seq_nx s3, seq_nx s4, seq_nx s5]
/-! the tail -/
abbrev EG (j : Nat) (nm : Option D) (word : Str) (ds : List Int) (a : Int) (found prime some9 : Option D) (w u : Str) : DP.Env := δG j nm (some (.str word)) (some (.tup (ds.map D.int))) (some (.int a)) (some (.own 0)) found prime some9 (some (.str w)) (some (.str u)) none none none
section
variable {j : Nat} {nm : Option D} {word : Str} {ds : List Int} {a p q : Int} {found : D} {prime some9 : Option D} {w u : Str} {W : Wd} {kvs : List (Key × D)}
theorem gcomp {X : Wd} : ∀ (es : List Int) (k : Nat), compD (gSq 2 (gCons_ (gNm 13) (gCons_ (gNm 14) gNil_))) (tB_ (eOp opGe (eVar 14) (eVar 8))) (eVar 13) [13, 14] (EG j nm word ds a (some found) (some (.int p)) none w u) (enumD k (es.map D.int)) X = .ok ((idx p k es).map D.int) X
  | [], _ => rfl
  | d :: es, k => by
    have ih := gcomp (X := X) es (k + 1)
    have e : (tB_ (eOp opGe (eVar 14) (eVar 8))) (δG j nm (some (.str word)) (some (.tup (ds.map D.int))) (some (.int a)) (some (.own 0)) (some found) (some (.int p)) none (some (.str w)) (some (.str u)) none (some (.int (k : Nat))) (some (.int d))) X = .ok (decide (p ≤ d)) X := rfl
    rw [List.map_cons, enumD, compD]
    rw [show (gSq 2 (gCons_ (gNm 13) (gCons_ (gNm 14) gNil_))) (.tup [.int (k : Nat), .int d]) (wipeD (EG j nm word ds a (some found) (some (.int p)) none w u) [13, 14]) X = .ok (δG j nm (some (.str word)) (some (.tup (ds.map D.int))) (some (.int a)) (some (.own 0)) (some found) (some (.int p)) none (some (.str w)) (some (.str u)) none (some (.int (k : Nat))) (some (.int d))) X from rfl, bind_ok, e, bind_ok, idx]
    by_cases h : p ≤ d
    · rw [if_pos (decide_eq_true h), if_pos h]
      rw [show eVar 13 (δG j nm (some (.str word)) (some (.tup (ds.map D.int))) (some (.int a)) (some (.own 0)) (some found) (some (.int p)) none (some (.str w)) (some (.str u)) none (some (.int (k : Nat))) (some (.int d))) X = .ok (.int (k : Nat)) X from rfl, bind_ok, ih, bind_ok]
      rfl
    · rw [if_neg (by rw [decide_eq_false h]; decide), if_neg h]
      exact ih
theorem g12 (hd : ds.length ≤ 3) : gg12 (EG j nm word ds a (some found) (some (.int p)) none w u) W = .ok (.nx, EG j nm word ds a (some found) (some (.int p)) (some (.lst ((idx p 0 ds).map D.int))) w u) W :=
  set_ok (frz_ok (fcomp_ok (ds := enumD 0 (ds.map D.int)) (w1 := W) rfl (by rw [enumD_length, List.length_map]; omega) (gcomp ds 0)))
theorem g7_t (hj : W.s[j]? = some (.dK kvs)) : (tB_ (eOp (opIn true) (eVar 10) (eVar 1))) (EG j nm word ds a (some found) none none w u) W = .ok (!(valD kvs (.inr w)).isSome) W :=
  tB_ok (op2_ok (x := .str w) (y := .loc j) (w1 := W) (w2 := W) rfl rfl (in_dk hj))
theorem g7_bad (hj : W.s[j]? = some (.dK kvs)) (h : valD kvs (.inr w) = none) : gg7 (EG j nm word ds a (some found) none none w u) W = .ok (.rt (.tup [found, fR 1 "lot", .non]), EG j nm word ds a (some found) none none w u) W := by
  have t := g7_t (nm := nm) (word := word) (ds := ds) (a := a) (found := found) (w := w) (u := u) hj
  rw [h] at t
  unfold gg7
  rw [if_t t]
  rfl
theorem g78 (hj : W.s[j]? = some (.dK kvs)) (h : valD kvs (.inr w) = some (.int p)) : ggQ (EG j nm word ds a (some found) none none w u) W = ggR (EG j nm word ds a (some found) (some (.int p)) none w u) W := by
  have t := g7_t (nm := nm) (word := word) (ds := ds) (a := a) (found := found) (w := w) (u := u) hj
  rw [h] at t
  have e7 : gg7 (EG j nm word ds a (some found) none none w u) W = .ok (.nx, EG j nm word ds a (some found) none none w u) W := nil_f t
  have e8 : gg8 (EG j nm word ds a (some found) none none w u) W = .ok (.nx, EG j nm word ds a (some found) (some (.int p)) none w u) W :=
    set_ok (op2_ok (x := .loc j) (y := .str w) (w1 := W) (w2 := W) rfl rfl (ix_dk hj h))
  unfold ggQ
  rw [seq_nx e7, seq_nx e8]
  rfl
theorem two_t (ht : word = "and" ∨ word = "or") : (tB_ (eOp (opIn false) (eVar 3) (eTup (aCons (eC (.str "and")) (aCons (eC (.str "or")) aNil))))) (EG j nm word ds a (some found) prime some9 w u) W = .ok true W := by
  rcases ht with rfl | rfl <;> kernel_rfl
theorem g9_t (ht : word = "and" ∨ word = "or") (hj : W.s[j]? = some (.dK kvs)) : (tAnd_ (tB_ (eOp (opIn false) (eVar 3) (eTup (aCons (eC (.str "and")) (aCons (eC (.str "or")) aNil))))) (tB_ (eOp (opIn true) (eVar 11) (eVar 1)))) (EG j nm word ds a (some found) (some (.int p)) none w u) W = .ok (!(valD kvs (.inr u)).isSome) W := by
  have t2 : (tB_ (eOp (opIn true) (eVar 11) (eVar 1))) (EG j nm word ds a (some found) (some (.int p)) none w u) W = .ok (!(valD kvs (.inr u)).isSome) W := tB_ok (op2_ok (x := .str u) (y := .loc j) (w1 := W) (w2 := W) rfl rfl (in_dk hj))
  unfold tAnd_
  rw [two_t ht, bind_ok, if_pos rfl, t2]
theorem g10_t (ht : word = "and" ∨ word = "or") (hj : W.s[j]? = some (.dK kvs)) (h : valD kvs (.inr u) = some (.int q)) : (tAnd_ (tB_ (eOp (opIn false) (eVar 3) (eTup (aCons (eC (.str "and")) (aCons (eC (.str "or")) aNil))))) (tB_ (eOp opNe (eOp opIx (eVar 1) (eVar 11)) (eVar 8)))) (EG j nm word ds a (some found) (some (.int p)) none w u) W = .ok (!decide (q = p)) W := by
  have t2 : (tB_ (eOp opNe (eOp opIx (eVar 1) (eVar 11)) (eVar 8))) (EG j nm word ds a (some found) (some (.int p)) none w u) W = .ok (!decide (q = p)) W := tB_ok (op2_ok (x := .int q) (y := .int p) (w1 := W) (w2 := W) (op2_ok (x := .loc j) (y := .str u) (w1 := W) (w2 := W) rfl rfl (ix_dk hj h)) rfl rfl)
  unfold tAnd_
  rw [two_t ht, bind_ok, if_pos rfl, t2]
theorem gR_two0 (ht : word = "and" ∨ word = "or") (hj : W.s[j]? = some (.dK kvs)) (h : valD kvs (.inr u) = none) : ggR (EG j nm word ds a (some found) (some (.int p)) none w u) W = .ok (.rt (.tup [found, fR 2 "lot", .non]), EG j nm word ds a (some found) (some (.int p)) none w u) W := by
  have t := g9_t (nm := nm) (ds := ds) (a := a) (p := p) (found := found) (w := w) (u := u) ht hj
  rw [h] at t
  have e : gg9 (EG j nm word ds a (some found) (some (.int p)) none w u) W = .ok (.rt (.tup [found, fR 2 "lot", .non]), EG j nm word ds a (some found) (some (.int p)) none w u) W := by
    unfold gg9
    rw [if_t t]
    rfl
  exact seq_rt e
theorem gR_two1 (ht : word = "and" ∨ word = "or") (hj : W.s[j]? = some (.dK kvs)) (h : valD kvs (.inr u) = some (.int q)) (hp : q ≠ p) : ggR (EG j nm word ds a (some found) (some (.int p)) none w u) W = .ok (.rt (.tup [found, fR 2 "prime", .non]), EG j nm word ds a (some found) (some (.int p)) none w u) W := by
  have t := g9_t (nm := nm) (ds := ds) (a := a) (p := p) (found := found) (w := w) (u := u) ht hj
  rw [h] at t
  have e9 : gg9 (EG j nm word ds a (some found) (some (.int p)) none w u) W = .ok (.nx, EG j nm word ds a (some found) (some (.int p)) none w u) W := nil_f t
  have t2 := g10_t (nm := nm) (ds := ds) (a := a) (p := p) (found := found) (w := w) ht hj h
  rw [decide_eq_false hp] at t2
  have e10 : gg10 (EG j nm word ds a (some found) (some (.int p)) none w u) W = .ok (.rt (.tup [found, fR 2 "prime", .non]), EG j nm word ds a (some found) (some (.int p)) none w u) W := by
    unfold gg10
    rw [if_t t2]
    rfl
  unfold ggR
  rw [seq_nx e9, seq_rt e10]
theorem g13_no {xs : List D} (h : word ≠ "at") (hw : word ∈ wds5) : gg13 (EG j nm word ds a (some found) (some (.int p)) (some (.lst xs)) w u) W = .ok (.rt (.tup [found, .non, .int p]), EG j nm word ds a (some found) (some (.int p)) (some (.lst xs)) w u) W := by
  unfold wds5 at hw
  simp only [List.mem_cons, List.not_mem_nil, or_false] at hw
  rcases hw with rfl | rfl | rfl | rfl | rfl
  · kernel_rfl
  · kernel_rfl
  · kernel_rfl
  · kernel_rfl
  · exact absurd rfl h
theorem gR_two (ht : word = "and" ∨ word = "or") (hd : ds.length ≤ 3) (hj : W.s[j]? = some (.dK kvs)) (h : valD kvs (.inr u) = some (.int q)) (hp : q = p) : ∃ δ', ggR (EG j nm word ds a (some found) (some (.int p)) none w u) W = .ok (.rt (.tup [found, .non, .int p]), δ') W := by
  have t := g9_t (nm := nm) (ds := ds) (a := a) (p := p) (found := found) (w := w) (u := u) ht hj
  rw [h] at t
  have e9 : gg9 (EG j nm word ds a (some found) (some (.int p)) none w u) W = .ok (.nx, EG j nm word ds a (some found) (some (.int p)) none w u) W := nil_f t
  have t2 := g10_t (nm := nm) (ds := ds) (a := a) (p := p) (found := found) (w := w) ht hj h
  rw [decide_eq_true hp] at t2
  have e10 : gg10 (EG j nm word ds a (some found) (some (.int p)) none w u) W = .ok (.nx, EG j nm word ds a (some found) (some (.int p)) none w u) W := nil_f t2
  have e11 : gg11 (EG j nm word ds a (some found) (some (.int p)) none w u) W = .ok (.nx, EG j nm word ds a (some found) (some (.int p)) none w u) W := by rcases ht with rfl | rfl <;> kernel_rfl
  exact ⟨_, (seq_nx e9).trans ((seq_nx e10).trans ((seq_nx e11).trans ((seq_nx (g12 hd)).trans (seq_rt (g13_no (by rcases ht with rfl | rfl <;> decide) (by rcases ht with rfl | rfl <;> decide))))))⟩
theorem gR_not (hd : ds.length ≤ 3) : ∃ δ', ggR (EG j nm "not" ds a (some found) (some (.int p)) none w u) W = .ok (.rt (.tup [found, .non, .int p]), δ') W := by
  have e9 : gg9 (EG j nm "not" ds a (some found) (some (.int p)) none w u) W = .ok (.nx, EG j nm "not" ds a (some found) (some (.int p)) none w u) W := by kernel_rfl
  have e10 : gg10 (EG j nm "not" ds a (some found) (some (.int p)) none w u) W = .ok (.nx, EG j nm "not" ds a (some found) (some (.int p)) none w u) W := by kernel_rfl
  have e11 : gg11 (EG j nm "not" ds a (some found) (some (.int p)) none w u) W = .ok (.nx, EG j nm "not" ds a (some found) (some (.int p)) none w u) W := by kernel_rfl
  exact ⟨_, (seq_nx e9).trans ((seq_nx e10).trans ((seq_nx e11).trans ((seq_nx (g12 hd)).trans (seq_rt (g13_no (by decide) (by decide))))))⟩
theorem gR_moved0 : ggR (EG j nm "moved" ds 0 (some found) (some (.int p)) none w u) W = .ok (.rt (.tup [found, fR 2 "number", .non]), EG j nm "moved" ds 0 (some found) (some (.int p)) none w u) W := by
  have e9 : gg9 (EG j nm "moved" ds 0 (some found) (some (.int p)) none w u) W = .ok (.nx, EG j nm "moved" ds 0 (some found) (some (.int p)) none w u) W := by kernel_rfl
  have e10 : gg10 (EG j nm "moved" ds 0 (some found) (some (.int p)) none w u) W = .ok (.nx, EG j nm "moved" ds 0 (some found) (some (.int p)) none w u) W := by kernel_rfl
  have e11 : gg11 (EG j nm "moved" ds 0 (some found) (some (.int p)) none w u) W = .ok (.rt (.tup [found, fR 2 "number", .non]), EG j nm "moved" ds 0 (some found) (some (.int p)) none w u) W := by kernel_rfl
  unfold ggR
  rw [seq_nx e9, seq_nx e10, seq_rt e11]
theorem gR_moved (hd : ds.length ≤ 3) (ha : a ≠ 0) : ∃ δ', ggR (EG j nm "moved" ds a (some found) (some (.int p)) none w u) W = .ok (.rt (.tup [found, .non, .int p]), δ') W := by
  have e9 : gg9 (EG j nm "moved" ds a (some found) (some (.int p)) none w u) W = .ok (.nx, EG j nm "moved" ds a (some found) (some (.int p)) none w u) W := by kernel_rfl
  have e10 : gg10 (EG j nm "moved" ds a (some found) (some (.int p)) none w u) W = .ok (.nx, EG j nm "moved" ds a (some found) (some (.int p)) none w u) W := by kernel_rfl
  have t : (tAnd_ (tB_ (eOp opEq (eVar 3) (eC (.str "moved")))) (tB_ (eOp opEq (eVar 5) (eC (.int 0))))) (EG j nm "moved" ds a (some found) (some (.int p)) none w u) W = .ok (decide (a = 0)) W := by kernel_rfl
  rw [decide_eq_false ha] at t
  have e11 : gg11 (EG j nm "moved" ds a (some found) (some (.int p)) none w u) W = .ok (.nx, EG j nm "moved" ds a (some found) (some (.int p)) none w u) W := nil_f t
  exact ⟨_, (seq_nx e9).trans ((seq_nx e10).trans ((seq_nx e11).trans ((seq_nx (g12 hd)).trans (seq_rt (g13_no (by decide) (by decide))))))⟩
def digG : List Int → D
  | [] => .non
  | k :: _ => .tup [.tup [.int 2, .int 2, .int k], .str "digit"]
theorem gR_at (hd : ds.length ≤ 3) : ∃ δ', ggR (EG j nm "at" ds a (some found) (some (.int p)) none w u) W = .ok (.rt (.tup [found, digG (idx p 0 ds), .int p]), δ') W := by
  have e9 : gg9 (EG j nm "at" ds a (some found) (some (.int p)) none w u) W = .ok (.nx, EG j nm "at" ds a (some found) (some (.int p)) none w u) W := by kernel_rfl
  have e10 : gg10 (EG j nm "at" ds a (some found) (some (.int p)) none w u) W = .ok (.nx, EG j nm "at" ds a (some found) (some (.int p)) none w u) W := by kernel_rfl
  have e11 : gg11 (EG j nm "at" ds a (some found) (some (.int p)) none w u) W = .ok (.nx, EG j nm "at" ds a (some found) (some (.int p)) none w u) W := by kernel_rfl
  have hz := idx_len p 0 ds
  have e12 := g12 (j := j) (nm := nm) (word := "at") (a := a) (p := p) (found := found) (w := w) (u := u) (W := W) hd
  generalize idx p 0 ds = zs at hz e12
  have e13 : gg13 (EG j nm "at" ds a (some found) (some (.int p)) (some (.lst (zs.map D.int))) w u) W = .ok (.rt (.tup [found, digG zs, .int p]), EG j nm "at" ds a (some found) (some (.int p)) (some (.lst (zs.map D.int))) w u) W := by
    have t1 : (tB_ (eOp opEq (eVar 3) (eC (.str "at")))) (EG j nm "at" ds a (some found) (some (.int p)) (some (.lst (zs.map D.int))) w u) W = .ok true W := by kernel_rfl
    have t2 : (tB_ (eOp opNe (eVar 9) (eFrz (fLst aNil)))) (EG j nm "at" ds a (some found) (some (.int p)) (some (.lst (zs.map D.int))) w u) W = .ok (!zs.isEmpty) W := tB_ok (op2_ok (x := .lst (zs.map D.int)) (y := .lst []) (w1 := W) (w2 := W) rfl rfl (ne_ints (by omega)))
    have t : (tAnd_ (tB_ (eOp opEq (eVar 3) (eC (.str "at")))) (tB_ (eOp opNe (eVar 9) (eFrz (fLst aNil))))) (EG j nm "at" ds a (some found) (some (.int p)) (some (.lst (zs.map D.int))) w u) W = .ok (!zs.isEmpty) W := by
      unfold tAnd_
      rw [t1, bind_ok, if_pos rfl, t2]
    refine ret_ok (tup_ok (acons_ok (d := found) rfl (acons_ok (d := digG zs) (w1 := W) ?_ (acons_ok (d := .int p) rfl anil_ok))) (by simp))
    cases zs with
    | nil => exact (eif_f t).trans rfl
    | cons k zs =>
      refine (eif_t t).trans (tup_ok (acons_ok (d := .tup [.int 2, .int 2, .int k]) (w1 := W) (tup_ok (acons_ok (d := .int 2) rfl (acons_ok (d := .int 2) rfl (acons_ok (d := .int k) (w1 := W) (op2_ok (x := .lst ((k :: zs).map D.int)) (y := .int 0) (w1 := W) (w2 := W) rfl rfl ?_) anil_ok))) (by simp)) (acons_ok (d := .str "digit") rfl anil_ok)) (by simp))
      exact ix_lst (n := 0) (by simp)
  exact ⟨_, (seq_nx e9).trans ((seq_nx e10).trans ((seq_nx e11).trans ((seq_nx e12).trans (seq_rt e13))))⟩
end
end Lk04

set_option Elab.async false
set_option linter.all false
set_option maxRecDepth 100000
set_option maxHeartbeats 0
/-! k04: drawn pipes, whole. -/
namespace Lk04
open PySem L2 DP
def fdG (word w u : Str) (a : Int) (ds : List Int) : D :=
  if word = "not" then .tup [.str "not", .str w] else if word = "moved" then .tup [.str "moved", .str w, .int a, .int (-2)] else if word = "at" then .tup [.str "at", .str w, .tup (ds.map D.int)] else .tup [.str word, .str w, .str u]
theorem g6 {j : Nat} {nm : Option D} {word w u : Str} {a : Int} {ds : List Int} {s : List SO} (hw : word ∈ wds5) : gg6 (EG j nm word ds a none none none w u) ⟨s, [.dK (kvG w u a)]⟩ = .ok (.nx, EG j nm word ds a (some (fdG word w u a ds)) none none w u) ⟨s, [.dK (kvG w u a)]⟩ := by
  unfold wds5 at hw
  simp only [List.mem_cons, List.not_mem_nil, or_false] at hw
  rcases hw with rfl | rfl | rfl | rfl | rfl <;> kernel_rfl
theorem sm_form {word : Str} (hw : word ∈ wds5) : (word = "and" ∨ word = "or") ∨ word = "not" ∨ word = "moved" ∨ word = "at" := by
  unfold wds5 at hw
  simp only [List.mem_cons, List.not_mem_nil, or_false] at hw
  rcases hw with h | h | h | h | h
  · exact .inl (.inl h)
  · exact .inl (.inr h)
  · exact .inr (.inl h)
  · exact .inr (.inr (.inl h))
  · exact .inr (.inr (.inr h))
theorem fd_two {word w u : Str} {a : Int} {ds : List Int} (ht : word = "and" ∨ word = "or") : fdG word w u a ds = .tup [.str word, .str w, .str u] := by
  rcases ht with rfl | rfl <;> rfl
theorem pipe_tail {L : List Lt} (G : GoodL L) {j : Nat} {nm : Option D} {word w u : Str} {a : Int} {ds : List Int} {s : List SO} {o : List SO} (hj : s[j]? = some (.dK (Qd L))) (hw : word ∈ wds5) (hd : ds.length ≤ 3) : ∃ fault prime δ', ggQ (EG j nm word ds a (some (fdG word w u a ds)) none none w u) ⟨s, o⟩ = .ok (.rt (.tup [fdG word w u a ds, fault, prime]), δ') ⟨s, o⟩ ∧ PipeR L (fdG word w u a ds) fault prime := by
  by_cases hl : ∃ l ∈ L, l.n = w
  · obtain ⟨l, hl, rfl⟩ := hl
    rw [g78 (W := ⟨s, o⟩) hj (G.Q hl)]
    rcases sm_form hw with ht | rfl | rfl | rfl
    · rw [fd_two ht]
      by_cases hu : ∃ l2 ∈ L, l2.n = u
      · obtain ⟨l2, hu, rfl⟩ := hu
        by_cases hp : l2.p = l.p
        · obtain ⟨δ', e⟩ := gR_two (j := j) (nm := nm) (a := a) (found := .tup [.str word, .str l.n, .str l2.n]) (w := l.n) (W := ⟨s, o⟩) ht hd hj (G.Q hu) hp
          exact ⟨_, _, δ', e, PR_two G hl ht hu hp⟩
        · exact ⟨_, _, _, gR_two1 (W := ⟨s, o⟩) ht hj (G.Q hu) hp, PR_two1 G hl ht hu hp⟩
      · have hu : ∀ l ∈ L, l.n ≠ u := fun l h e => hu ⟨l, h, e⟩
        exact ⟨_, _, _, gR_two0 (W := ⟨s, o⟩) ht hj (Qd_no hu), PR_two0 G hl ht hu⟩
    · obtain ⟨δ', e⟩ := gR_not (j := j) (nm := nm) (a := a) (p := l.p) (found := .tup [.str "not", .str l.n]) (w := l.n) (u := u) (W := ⟨s, o⟩) hd
      exact ⟨_, _, δ', e, PR_not G hl⟩
    · by_cases ha : a = 0
      · subst ha
        exact ⟨_, _, _, gR_moved0, PR_moved0 G hl⟩
      · obtain ⟨δ', e⟩ := gR_moved (j := j) (nm := nm) (a := a) (p := l.p) (found := .tup [.str "moved", .str l.n, .int a, .int (-2)]) (w := l.n) (u := u) (W := ⟨s, o⟩) hd ha
        exact ⟨_, _, δ', e, PR_moved G hl ha⟩
    · obtain ⟨δ', e⟩ := gR_at (j := j) (nm := nm) (a := a) (p := l.p) (found := .tup [.str "at", .str l.n, .tup (ds.map D.int)]) (w := l.n) (u := u) (W := ⟨s, o⟩) hd
      cases h : idx l.p 0 ds with
      | nil =>
        rw [h] at e
        exact ⟨_, _, δ', e, PR_at G hl hd h⟩
      | cons i is =>
        rw [h] at e
        exact ⟨_, _, δ', e, PR_at0 G hl hd h⟩
  · have hl : ∀ l ∈ L, l.n ≠ w := fun l h e => hl ⟨l, h, e⟩
    have e : ggQ (EG j nm word ds a (some (fdG word w u a ds)) none none w u) ⟨s, o⟩ = .ok (.rt (.tup [fdG word w u a ds, fR 1 "lot", .non]), EG j nm word ds a (some (fdG word w u a ds)) none none w u) ⟨s, o⟩ := seq_rt (g7_bad (W := ⟨s, o⟩) hj (Qd_no hl))
    refine ⟨_, _, _, e, ?_⟩
    rcases sm_form hw with ht | rfl | rfl | rfl
    · rw [fd_two ht]
      exact PR_no (ms := [.str u]) (ss := [.str "lot"]) rfl hl (fun _ _ => by rcases ht with rfl | rfl <;> kernel_rfl)
    · exact PR_no (tg := "not") (ms := []) (ss := []) rfl hl (fun _ _ => by kernel_rfl)
    · exact PR_no (tg := "moved") (ms := [.int a, .int (-2)]) (ss := [.str "number", .str "any"]) rfl hl (fun _ _ => by kernel_rfl)
    · have hp : ∀ ds : List Int, D.puL (ds.map D.int) = true := fun ds => by
        induction ds with
        | nil => rfl
        | cons d ds ih => rw [List.map_cons, D.puL, ih]; rfl
      exact PR_no (tg := "at") (ms := [.tup (ds.map D.int)]) (ss := [.str "digits"]) (by simp [D.puL, D.pu, hp ds]) hl (fun _ _ => by kernel_rfl)
theorem pipe_ok {L : List Lt} (G : GoodL L) {rest : List SO} {j : Nat} {c : List Int} {l m t : Int} (hj : rest[j]? = some (.dK (Qd L))) (hn : L.length < 64) (hc : c.length ≤ 63) : ∃ (found fault prime : D) (c' : List Int) (l' m' t' : Int), F__law_pipe [.loc 1, .loc (j + 2)] (src c l m t rest) = .ok (.tup [found, fault, prime]) ⟨src c' l' m' t' rest, []⟩ ∧ PipeR L found fault prime ∧ c'.length ≤ 63 := by
  obtain ⟨word, w, u, ds, a, c', l', m', t', e, hw, hd, hc'⟩ := pipe_draw (l := l) (m := m) (t := t) (ns := L.map (·.n)) hj (show keysT (Qd L) = some (L.map (·.n)) from keysT_map (f := fun q : Lt => q.n) (g := fun q : Lt => .int q.p) L) (by rw [List.length_map]; exact hn) hc
  obtain ⟨fault, prime, δ', q, hL⟩ := pipe_tail G (j := j + 2) (nm := some (.lst (nmL (L.map (·.n)) "f" "zz"))) (word := word) (w := w) (u := u) (a := a) (ds := ds) (s := src c' l' m' t' rest) (o := [.dK (kvG w u a)]) hj hw hd
  refine ⟨fdG word w u a ds, fault, prime, c', l', m', t', ?_, hL, hc'⟩
  have hL2 := hL
  obtain ⟨tg, w', ms, ef, hpu, hf, hpr, _, _⟩ := hL2
  have hcl : (D.tup [fdG word w u a ds, fault, prime]).cl = true := by
    rw [ef]
    simp [D.cl, D.clL, pu_clL hpu, hf.cl, hpr]
  exact fn_rt (nl := 15) (np := 2) (m := m__law_pipe) (ds := [.loc 1, .loc (j + 2)]) (δ0 := δG (j + 2) none none none none none none none none none none none none none) rfl rfl (e.trans ((seq_nx (g6 hw)).trans q)) hcl
end Lk04

set_option Elab.async false
set_option linter.all false
set_option maxRecDepth 100000
set_option maxHeartbeats 0
/-! k04: how long what is shown is; the first fault of a drawn polynomial. -/
namespace Lk04
open PySem L2 DP
theorem lfI_all : ((List.range 141).all fun n => lfI ((n : Int) - 40)) = true := by kernel_rfl
theorem lfI_of {i : Int} (h1 : -40 ≤ i) (h2 : i ≤ 100) : lfI i = true := by
  have := List.all_eq_true.mp lfI_all (i + 40).toNat (List.mem_range.mpr (by omega))
  rw [show (((i + 40).toNat : Nat) : Int) - 40 = i by omega] at this
  exact this
theorem sm_fau : ((List.range 60).all fun n => smF (.tup [.int 2, .int (n : Nat), .int 0]) (.str "poly") && smF (.tup [.int 2, .int (n : Nat), .int 1]) (.str "number")) = true := by kernel_rfl
theorem fauP_fau {k : Nat} (f : Fac) (hk : k < 60) : FauF (fauP k f) := by
  have := List.all_eq_true.mp sm_fau k (List.mem_range.mpr hk)
  rw [Bool.and_eq_true] at this
  unfold fauP
  split
  · exact .inr ⟨_, _, rfl, rfl, rfl, this.1⟩
  · split
    · exact .inr ⟨_, _, rfl, rfl, rfl, this.2⟩
    · exact .inl rfl
theorem firstP_fau : ∀ (fs : List Fac) (k : Nat), k + fs.length < 60 → FauF (firstP k fs)
  | [], k, _ => .inl rfl
  | f :: fs, k, h => by
    rw [List.length_cons] at h
    rw [firstP]
    split
    · exact fauP_fau f (by omega)
    · exact firstP_fau fs (k + 1) (by omega)
theorem lv_map {α : Type} {f : α → D} : ∀ {xs : List α}, (∀ x ∈ xs, lv (f x) = true) → lvL (xs.map f) = true
  | [], _ => rfl
  | x :: xs, h => by
    rw [List.map_cons, lvL, h x List.mem_cons_self, lv_map fun y hy => h y (List.mem_cons_of_mem _ hy)]
    rfl
theorem nz_map {α : Type} {f : α → D} {n : Nat} : ∀ {xs : List α}, (∀ x ∈ xs, nz (f x) ≤ n) → nzL (xs.map f) ≤ n * xs.length
  | [], _ => Nat.zero_le _
  | x :: xs, h => by
    have h1 := h x List.mem_cons_self
    have ih := nz_map (xs := xs) (n := n) fun y hy => h y (List.mem_cons_of_mem _ hy)
    rw [List.map_cons, nzL, List.length_cons, Nat.mul_succ]
    omega
theorem dp_map {α : Type} {f : α → D} {n : Nat} : ∀ {xs : List α}, (∀ x ∈ xs, dpD (f x) ≤ n) → dpL (xs.map f) ≤ n
  | [], _ => Nat.zero_le _
  | x :: xs, h => by
    have h1 := h x List.mem_cons_self
    have ih := dp_map (xs := xs) (n := n) fun y hy => h y (List.mem_cons_of_mem _ hy)
    rw [List.map_cons, dpL]
    omega
def okN (n : Str) : Bool := lfS n && PyData.canLay0 (.str n)
theorem okN_l {n : Str} (h : okN n = true) : lfS n = true := by
  unfold okN at h
  rw [Bool.and_eq_true] at h
  exact h.1
theorem okN_c {n : Str} (h : okN n = true) : PyData.canLay0 (.str n) = true := by
  unfold okN at h
  rw [Bool.and_eq_true] at h
  exact h.2
def smD (n : Nat) (d : D) : Prop := lv d = true ∧ nz d ≤ n ∧ dpD d ≤ 10
theorem tm_sm {t : Int × Nat} (h : t.2 < 4 ∧ -20 ≤ t.1 ∧ t.1 ≤ 20) : lv (tmD t) = true ∧ nz (tmD t) ≤ 3 ∧ dpD (tmD t) ≤ 1 := by
  refine ⟨?_, Nat.le_refl _, Nat.le_refl _⟩
  unfold tmD
  simp only [lv, lvL, Bool.and_true]
  rw [lfI_of (by omega) (by omega), lfI_of (by omega) (by omega)]
  rfl
theorem fac_sm {f : Fac} (h : FacS f) : lv f.d = true ∧ nz f.d ≤ 40 ∧ dpD f.d ≤ 3 := by
  have h1 := lv_map (f := tmD) fun t ht => (tm_sm (h.v t ht)).1
  have h2 := nz_map (f := tmD) (n := 3) fun t ht => (tm_sm (h.v t ht)).2.1
  have h3 := dp_map (f := tmD) (n := 1) fun t ht => (tm_sm (h.v t ht)).2.2
  have h4 := h.n
  unfold Fac.d
  refine ⟨?_, ?_, ?_⟩
  · simp only [lv, lvL, Bool.and_true, h1, Bool.true_and]
    exact lfI_of (by have := h.t; omega) (by have := h.t; omega)
  · simp only [nz, nzL]
    omega
  · simp only [dpD, dpL]
    omega
theorem poly_sm {n : Str} {fs : List Fac} (hn : lfS n = true) (h : ∀ f ∈ fs, FacS f) (hl : fs.length ≤ 50) : smD 2010 (pI n (fs.map Fac.d)) := by
  have h1 := lv_map (f := Fac.d) fun t ht => (fac_sm (h t ht)).1
  have h2 := nz_map (f := Fac.d) (n := 40) fun t ht => (fac_sm (h t ht)).2.1
  have h3 := dp_map (f := Fac.d) (n := 3) fun t ht => (fac_sm (h t ht)).2.2
  refine ⟨?_, ?_, ?_⟩
  · simp only [lv, lvL, Bool.and_true, h1, hn]
    kernel_rfl
  · simp only [nz, nzL]
    omega
  · simp only [dpD, dpL]
    omega
theorem okR_sm {d : D} {n : Nat} (h : smD n d) (hn : n ≤ 100000) : okR d = true := by
  obtain ⟨p, e1, e2, e3, e4⟩ := shows d ⟨[], []⟩ 70 h.1 (by have := h.2.2; omega)
  unfold okR
  rw [e1]
  exact okShown_of e2 (by have := h.2.2; omega) (n := 64 * n) (by have := h.2.1; omega) (by omega)
end Lk04

set_option Elab.async false
set_option linter.all false
set_option maxRecDepth 100000
set_option maxHeartbeats 0
/-! k04: one more item of the law (texts of the mirrors printed). -/
namespace Lk04
open PySem L2 DP
def bb0 : MS := (sPar 14 11 (aCons (eCall F__law_pick (aCons (eVar 1) (aCons (eC (.int 3)) aNil))) (aCons (eOp opAdd (eCall F__law_of (aCons (eVar 1) (aCons (eFrz (fLst (aCons (eC (.str "n")) (aCons (eC (.str "n")) (aCons (eC (.str "n")) (aCons (eC (.str "n")) (aCons (eC (.str "w")) (aCons (eC (.str "f")) aNil)))))))) aNil))) (eB opStr (aCons (eVar 4) aNil))) aNil)))
def bb1 : MS := (sSet 11 (eIf (tAnd_ (tB_ (eOp opNe (eOp opIx (eVar 11) (eC (.int 0))) (eC (.str "n")))) (tB_ (eOp opEq (eCall F__law_pick (aCons (eVar 1) (aCons (eC (.int 4)) aNil))) (eC (.int 0))))) (eSlA (eVar 11) oNone (oSome (eC (.int 1)))) (eVar 11)))
def bb2 : MS := (sIf (tB_ (eOp opEq (eVar 14) (eC (.int 0)))) (sSeq (sAsg (gSq 2 (gCons_ (gNm 15) (gCons_ (gNm 16) gNil_))) (eCall F__law_poly (aCons (eVar 1) aNil))) (sSeq (sPar 17 16 (aCons (eTup (aCons (eC (.str "poly")) (aCons (eVar 11) (aCons (eVar 15) aNil)))) (aCons (eIf (tB_ (eOp (opIn false) (eVar 11) (eVar 8))) (eTup (aCons (eTup (aCons (eC (.int 1)) aNil)) (aCons (eC (.str "twice")) aNil))) (eVar 16)) aNil))) sNil)) (sSeq (sIf (tB_ (eOp opEq (eVar 14) (eC (.int 1)))) (sSeq (sAsg (gSq 3 (gCons_ (gNm 18) (gCons_ (gNm 6) (gCons_ (gNm 16) gNil_)))) (eCall F__law_lot (aCons (eVar 1) (aCons (eVar 8) aNil)))) (sSeq (sPar 17 16 (aCons (eTup (aCons (eC (.str "lot")) (aCons (eVar 11) (aCons (eVar 18) (aCons (eVar 6) aNil))))) (aCons (eIf (tB_ (eOp (opIn false) (eVar 11) (eVar 9))) (eTup (aCons (eTup (aCons (eC (.int 1)) aNil)) (aCons (eC (.str "twice")) aNil))) (eVar 16)) aNil))) sNil)) (sSeq (sAsg (gSq 3 (gCons_ (gNm 6) (gCons_ (gNm 16) (gCons_ (gNm 18) gNil_)))) (eCall F__law_pipe (aCons (eVar 1) (aCons (eVar 9) aNil)))) (sSeq (sPar 17 16 (aCons (eTup (aCons (eC (.str "pipe")) (aCons (eVar 11) (aCons (eVar 6) aNil)))) (aCons (eIf (tB_ (eOp (opIn false) (eVar 11) (eVar 9))) (eTup (aCons (eTup (aCons (eC (.int 1)) aNil)) (aCons (eC (.str "twice")) aNil))) (eVar 16)) aNil))) sNil))) sNil))
def bb3 : MS := (sExpr (eMt "list" opAppend (eVar 3) (aCons (eVar 17) aNil)))
def bb4 : MS := (sIf (tB_ (eOp (opIs true) (eVar 16) (eC .non))) (sSeq (sSet 10 (eOp opAdd (eTup (aCons (eVar 4) aNil)) (eVar 16))) (sSeq sBrk sNil)) sNil)
def bb5 : MS := (sIf (tB_ (eOp opEq (eVar 14) (eC (.int 0)))) (sSeq (sAsg (gSub_ (eVar 8) (eVar 11)) (eVar 17)) sNil) (sSeq (sAsg (gSub_ (eVar 9) (eVar 11)) (eVar 18)) sNil))
def bx00 : MS := (sAsg (gSq 2 (gCons_ (gNm 15) (gCons_ (gNm 16) gNil_))) (eCall F__law_poly (aCons (eVar 1) aNil)))
def bx01 : MS := (sPar 17 16 (aCons (eTup (aCons (eC (.str "poly")) (aCons (eVar 11) (aCons (eVar 15) aNil)))) (aCons (eIf (tB_ (eOp (opIn false) (eVar 11) (eVar 8))) (eTup (aCons (eTup (aCons (eC (.int 1)) aNil)) (aCons (eC (.str "twice")) aNil))) (eVar 16)) aNil)))
def bx10 : MS := (sAsg (gSq 3 (gCons_ (gNm 18) (gCons_ (gNm 6) (gCons_ (gNm 16) gNil_)))) (eCall F__law_lot (aCons (eVar 1) (aCons (eVar 8) aNil))))
def bx11 : MS := (sPar 17 16 (aCons (eTup (aCons (eC (.str "lot")) (aCons (eVar 11) (aCons (eVar 18) (aCons (eVar 6) aNil))))) (aCons (eIf (tB_ (eOp (opIn false) (eVar 11) (eVar 9))) (eTup (aCons (eTup (aCons (eC (.int 1)) aNil)) (aCons (eC (.str "twice")) aNil))) (eVar 16)) aNil)))
def bx20 : MS := (sAsg (gSq 3 (gCons_ (gNm 6) (gCons_ (gNm 16) (gCons_ (gNm 18) gNil_)))) (eCall F__law_pipe (aCons (eVar 1) (aCons (eVar 9) aNil))))
def bx21 : MS := (sPar 17 16 (aCons (eTup (aCons (eC (.str "pipe")) (aCons (eVar 11) (aCons (eVar 6) aNil)))) (aCons (eIf (tB_ (eOp (opIn false) (eVar 11) (eVar 9))) (eTup (aCons (eTup (aCons (eC (.int 1)) aNil)) (aCons (eC (.str "twice")) aNil))) (eVar 16)) aNil)))
def lawB : MS := (sSeq bb0 (sSeq bb1 (sSeq bb2 (sSeq bb3 (sSeq bb4 (sSeq bb5 sNil))))))
theorem bb2_M : bb2 = (sIf (tB_ (eOp opEq (eVar 14) (eC (.int 0)))) (sSeq bx00 (sSeq bx01 sNil)) (sSeq (sIf (tB_ (eOp opEq (eVar 14) (eC (.int 1)))) (sSeq bx10 (sSeq bx11 sNil)) (sSeq bx20 (sSeq bx21 sNil))) sNil)) := rfl

abbrev δV (ns : List Int) (x2 x3 x4 x5 x6 x7 x8 x9 x10 x11 x12 x13 x14 x15 x16 x17 x18 : Option D) : DP.Env := [some (.scr ns), some (.loc 1), x2, x3, x4, x5, x6, x7, x8, x9, x10, x11, x12, x13, x14, x15, x16, x17, x18]
abbrev SR (rest : List SO) (P : List Pt) (L : List Lt) : List SO := rest ++ [.dK (Pd P), .dK (Qd L)]
theorem get_P {rest : List SO} {P : List Pt} {L : List Lt} : (SR rest P L)[rest.length]? = some (.dK (Pd P)) := by
  rw [List.getElem?_append_right (Nat.le_refl _), Nat.sub_self]
  rfl
theorem get_L {rest : List SO} {P : List Pt} {L : List Lt} : (SR rest P L)[rest.length + 1]? = some (.dK (Qd L)) := by
  rw [List.getElem?_append_right (by omega), show rest.length + 1 - rest.length = 1 by omega]
  rfl
theorem src_get {c : List Int} {l m t : Int} {R : List SO} {j : Nat} {o : SO} (h : R[j]? = some o) : (src c l m t R)[j + 2]? = some o := h
theorem sl_ok {nm s1 : Str} {δ : DP.Env} {w : Wd} (h : δ[11]? = some (some (.str nm))) (e : ∀ w, opSlA (.str nm) none (some 1) w = .ok (.str s1) w) : (eSlA (eVar 11) oNone (oSome (eC (.int 1)))) δ w = .ok (.str s1) w := by
  unfold eSlA
  rw [var_ok h, bind_ok]
  exact e w
def pre3 : List Str := ["n", "w", "f"]
theorem nm_fin {x : Str} {k : Nat} (hx : x ∈ pre3) (h1 : 3 ≤ k) (h2 : k < 10) : ∃ (sk nm s1 : Str) (b : Bool), (∀ w, opStr [.int (k : Nat)] w = .ok (.str sk) w) ∧ (∀ w, opAdd (.str x) (.str sk) w = .ok (.str nm) w) ∧ (∀ w, opIx (.str nm) (.int 0) w = .ok (.str x) w) ∧ (∀ w, opNe (.str x) (.str "n") w = .ok (.bl b) w) ∧
    (∀ δ w, δ[11]? = some (some (.str nm)) → (eSlA (eVar 11) oNone (oSome (eC (.int 1)))) δ w = .ok (.str s1) w) ∧ okN nm = true ∧ okN s1 = true := by
  have hk : k = 3 ∨ k = 4 ∨ k = 5 ∨ k = 6 ∨ k = 7 ∨ k = 8 ∨ k = 9 := by omega
  unfold pre3 at hx
  simp only [List.mem_cons, List.not_mem_nil, or_false] at hx
  rcases hx with rfl | rfl | rfl <;> rcases hk with rfl | rfl | rfl | rfl | rfl | rfl | rfl
  · exact ⟨"3", "n3", "n", false, fun w => by kernel_rfl, fun w => by kernel_rfl, fun w => by kernel_rfl, fun w => by kernel_rfl, fun δ w h => sl_ok h (fun w => by kernel_rfl), by kernel_rfl, by kernel_rfl⟩
  · exact ⟨"4", "n4", "n", false, fun w => by kernel_rfl, fun w => by kernel_rfl, fun w => by kernel_rfl, fun w => by kernel_rfl, fun δ w h => sl_ok h (fun w => by kernel_rfl), by kernel_rfl, by kernel_rfl⟩
  · exact ⟨"5", "n5", "n", false, fun w => by kernel_rfl, fun w => by kernel_rfl, fun w => by kernel_rfl, fun w => by kernel_rfl, fun δ w h => sl_ok h (fun w => by kernel_rfl), by kernel_rfl, by kernel_rfl⟩
  · exact ⟨"6", "n6", "n", false, fun w => by kernel_rfl, fun w => by kernel_rfl, fun w => by kernel_rfl, fun w => by kernel_rfl, fun δ w h => sl_ok h (fun w => by kernel_rfl), by kernel_rfl, by kernel_rfl⟩
  · exact ⟨"7", "n7", "n", false, fun w => by kernel_rfl, fun w => by kernel_rfl, fun w => by kernel_rfl, fun w => by kernel_rfl, fun δ w h => sl_ok h (fun w => by kernel_rfl), by kernel_rfl, by kernel_rfl⟩
  · exact ⟨"8", "n8", "n", false, fun w => by kernel_rfl, fun w => by kernel_rfl, fun w => by kernel_rfl, fun w => by kernel_rfl, fun δ w h => sl_ok h (fun w => by kernel_rfl), by kernel_rfl, by kernel_rfl⟩
  · exact ⟨"9", "n9", "n", false, fun w => by kernel_rfl, fun w => by kernel_rfl, fun w => by kernel_rfl, fun w => by kernel_rfl, fun δ w h => sl_ok h (fun w => by kernel_rfl), by kernel_rfl, by kernel_rfl⟩
  · exact ⟨"3", "w3", "w", true, fun w => by kernel_rfl, fun w => by kernel_rfl, fun w => by kernel_rfl, fun w => by kernel_rfl, fun δ w h => sl_ok h (fun w => by kernel_rfl), by kernel_rfl, by kernel_rfl⟩
  · exact ⟨"4", "w4", "w", true, fun w => by kernel_rfl, fun w => by kernel_rfl, fun w => by kernel_rfl, fun w => by kernel_rfl, fun δ w h => sl_ok h (fun w => by kernel_rfl), by kernel_rfl, by kernel_rfl⟩
  · exact ⟨"5", "w5", "w", true, fun w => by kernel_rfl, fun w => by kernel_rfl, fun w => by kernel_rfl, fun w => by kernel_rfl, fun δ w h => sl_ok h (fun w => by kernel_rfl), by kernel_rfl, by kernel_rfl⟩
  · exact ⟨"6", "w6", "w", true, fun w => by kernel_rfl, fun w => by kernel_rfl, fun w => by kernel_rfl, fun w => by kernel_rfl, fun δ w h => sl_ok h (fun w => by kernel_rfl), by kernel_rfl, by kernel_rfl⟩
  · exact ⟨"7", "w7", "w", true, fun w => by kernel_rfl, fun w => by kernel_rfl, fun w => by kernel_rfl, fun w => by kernel_rfl, fun δ w h => sl_ok h (fun w => by kernel_rfl), by kernel_rfl, by kernel_rfl⟩
  · exact ⟨"8", "w8", "w", true, fun w => by kernel_rfl, fun w => by kernel_rfl, fun w => by kernel_rfl, fun w => by kernel_rfl, fun δ w h => sl_ok h (fun w => by kernel_rfl), by kernel_rfl, by kernel_rfl⟩
  · exact ⟨"9", "w9", "w", true, fun w => by kernel_rfl, fun w => by kernel_rfl, fun w => by kernel_rfl, fun w => by kernel_rfl, fun δ w h => sl_ok h (fun w => by kernel_rfl), by kernel_rfl, by kernel_rfl⟩
  · exact ⟨"3", "f3", "f", true, fun w => by kernel_rfl, fun w => by kernel_rfl, fun w => by kernel_rfl, fun w => by kernel_rfl, fun δ w h => sl_ok h (fun w => by kernel_rfl), by kernel_rfl, by kernel_rfl⟩
  · exact ⟨"4", "f4", "f", true, fun w => by kernel_rfl, fun w => by kernel_rfl, fun w => by kernel_rfl, fun w => by kernel_rfl, fun δ w h => sl_ok h (fun w => by kernel_rfl), by kernel_rfl, by kernel_rfl⟩
  · exact ⟨"5", "f5", "f", true, fun w => by kernel_rfl, fun w => by kernel_rfl, fun w => by kernel_rfl, fun w => by kernel_rfl, fun δ w h => sl_ok h (fun w => by kernel_rfl), by kernel_rfl, by kernel_rfl⟩
  · exact ⟨"6", "f6", "f", true, fun w => by kernel_rfl, fun w => by kernel_rfl, fun w => by kernel_rfl, fun w => by kernel_rfl, fun δ w h => sl_ok h (fun w => by kernel_rfl), by kernel_rfl, by kernel_rfl⟩
  · exact ⟨"7", "f7", "f", true, fun w => by kernel_rfl, fun w => by kernel_rfl, fun w => by kernel_rfl, fun w => by kernel_rfl, fun δ w h => sl_ok h (fun w => by kernel_rfl), by kernel_rfl, by kernel_rfl⟩
  · exact ⟨"8", "f8", "f", true, fun w => by kernel_rfl, fun w => by kernel_rfl, fun w => by kernel_rfl, fun w => by kernel_rfl, fun δ w h => sl_ok h (fun w => by kernel_rfl), by kernel_rfl, by kernel_rfl⟩
  · exact ⟨"9", "f9", "f", true, fun w => by kernel_rfl, fun w => by kernel_rfl, fun w => by kernel_rfl, fun w => by kernel_rfl, fun δ w h => sl_ok h (fun w => by kernel_rfl), by kernel_rfl, by kernel_rfl⟩
end Lk04

set_option Elab.async false
set_option linter.all false
set_option maxRecDepth 100000
set_option maxHeartbeats 0
/-! k04: one more item of the law: its name, its sort. -/
namespace Lk04
open PySem L2 DP
section
variable {ns : List Int} {x2 x3 x5 x6 x7 x8 x9 x10 x11 x12 x13 x14 x15 x16 x17 x18 : Option D} {k : Nat} {c : List Int} {l m t : Int} {rest own : List SO}
theorem name_ok (hk1 : 3 ≤ k) (hk2 : k < 10) (hc : c.length ≤ 63) : ∃ (way : Nat) (name : Str) (c' : List Int) (l' m' t' : Int), way < 3 ∧ okN name = true ∧ c'.length ≤ 63 ∧ ∀ r, (sSeq bb0 (sSeq bb1 r)) (δV ns x2 x3 (some (.int (k : Nat))) x5 x6 x7 x8 x9 x10 x11 x12 x13 x14 x15 x16 x17 x18) ⟨src c l m t rest, own⟩ = r (δV ns x2 x3 (some (.int (k : Nat))) x5 x6 x7 x8 x9 x10 (some (.str name)) x12 x13 (some (.int (way : Nat))) x15 x16 x17 x18) ⟨src c' l' m' t' rest, own⟩ := by
  obtain ⟨y, c1, l1, m1, t1, q1, y0, y1, hc1⟩ := draw_pick (l := l) (m := m) (t := t) (rest := rest) (own := own) (δ := δV ns x2 x3 (some (.int (k : Nat))) x5 x6 x7 x8 x9 x10 x11 x12 x13 x14 x15 x16 x17 x18) (many := 3) (ma := (aCons (eVar 1) (aCons (eC (.int 3)) aNil))) hc (by omega) (by omega) (fun w => rfl)
  obtain ⟨way, rfl⟩ : ∃ n : Nat, y = (n : Int) := ⟨y.toNat, by omega⟩
  obtain ⟨z, c2, l2, m2, t2, q2, hz, hc2⟩ := draw_lst (l := l1) (m := m1) (t := t1) (rest := rest) (own := own) (δ := δV ns x2 x3 (some (.int (k : Nat))) x5 x6 x7 x8 x9 x10 x11 x12 x13 x14 x15 x16 x17 x18) (xs := [.str "n", .str "n", .str "n", .str "n", .str "w", .str "f"]) (ma := (aCons (eVar 1) (aCons (eFrz (fLst (aCons (eC (.str "n")) (aCons (eC (.str "n")) (aCons (eC (.str "n")) (aCons (eC (.str "n")) (aCons (eC (.str "w")) (aCons (eC (.str "f")) aNil)))))))) aNil))) hc1 (by simp) (by simp) rfl (fun w => by kernel_rfl)
  obtain ⟨x, rfl, hx⟩ : ∃ x : Str, z = .str x ∧ x ∈ pre3 := by
    simp only [List.mem_cons, List.not_mem_nil, or_false] at hz
    rcases hz with rfl | rfl | rfl | rfl | rfl | rfl <;> exact ⟨_, rfl, by decide⟩
  obtain ⟨sk, nm, s1, b, g1, g2, g3, g4, g5, g6, g7⟩ := nm_fin hx hk1 hk2
  have s0 : bb0 (δV ns x2 x3 (some (.int (k : Nat))) x5 x6 x7 x8 x9 x10 x11 x12 x13 x14 x15 x16 x17 x18) ⟨src c l m t rest, own⟩ = .ok (.nx, δV ns x2 x3 (some (.int (k : Nat))) x5 x6 x7 x8 x9 x10 (some (.str nm)) x12 x13 (some (.int (way : Nat))) x15 x16 x17 x18) ⟨src c2 l2 m2 t2 rest, own⟩ := by
    refine par_ok (acons_ok q1 (acons_ok (op2_ok (x := .str x) (y := .str sk) (w2 := ⟨src c2 l2 m2 t2 rest, own⟩) q2 ?_ (g2 _)) anil_ok))
    exact g1 _
  have t0 : (tB_ (eOp opNe (eOp opIx (eVar 11) (eC (.int 0))) (eC (.str "n")))) (δV ns x2 x3 (some (.int (k : Nat))) x5 x6 x7 x8 x9 x10 (some (.str nm)) x12 x13 (some (.int (way : Nat))) x15 x16 x17 x18) ⟨src c2 l2 m2 t2 rest, own⟩ = .ok b ⟨src c2 l2 m2 t2 rest, own⟩ :=
    tB_ok (op2_ok (x := .str x) (y := .str "n") (w1 := ⟨src c2 l2 m2 t2 rest, own⟩) (w2 := ⟨src c2 l2 m2 t2 rest, own⟩) (op2_ok (x := .str nm) (y := .int 0) (w1 := ⟨src c2 l2 m2 t2 rest, own⟩) (w2 := ⟨src c2 l2 m2 t2 rest, own⟩) rfl rfl (g3 _)) rfl (g4 _))
  cases b with
  | false =>
    have t1 : (tAnd_ (tB_ (eOp opNe (eOp opIx (eVar 11) (eC (.int 0))) (eC (.str "n")))) (tB_ (eOp opEq (eCall F__law_pick (aCons (eVar 1) (aCons (eC (.int 4)) aNil))) (eC (.int 0))))) (δV ns x2 x3 (some (.int (k : Nat))) x5 x6 x7 x8 x9 x10 (some (.str nm)) x12 x13 (some (.int (way : Nat))) x15 x16 x17 x18) ⟨src c2 l2 m2 t2 rest, own⟩ = .ok false ⟨src c2 l2 m2 t2 rest, own⟩ := by
      unfold tAnd_
      rw [t0, bind_ok, if_neg (by decide)]
    have s1 : bb1 (δV ns x2 x3 (some (.int (k : Nat))) x5 x6 x7 x8 x9 x10 (some (.str nm)) x12 x13 (some (.int (way : Nat))) x15 x16 x17 x18) ⟨src c2 l2 m2 t2 rest, own⟩ = .ok (.nx, δV ns x2 x3 (some (.int (k : Nat))) x5 x6 x7 x8 x9 x10 (some (.str nm)) x12 x13 (some (.int (way : Nat))) x15 x16 x17 x18) ⟨src c2 l2 m2 t2 rest, own⟩ := set_ok ((eif_f t1).trans rfl)
    exact ⟨way, nm, c2, l2, m2, t2, by omega, g6, hc2, fun r => by rw [seq_nx s0, seq_nx s1]⟩
  | true =>
    obtain ⟨k4, c3, l3, m3, t3, q3, _, _, hc3⟩ := draw_pick (l := l2) (m := m2) (t := t2) (rest := rest) (own := own) (δ := δV ns x2 x3 (some (.int (k : Nat))) x5 x6 x7 x8 x9 x10 (some (.str nm)) x12 x13 (some (.int (way : Nat))) x15 x16 x17 x18) (many := 4) (ma := (aCons (eVar 1) (aCons (eC (.int 4)) aNil))) hc2 (by omega) (by omega) (fun w => rfl)
    have t1 : (tAnd_ (tB_ (eOp opNe (eOp opIx (eVar 11) (eC (.int 0))) (eC (.str "n")))) (tB_ (eOp opEq (eCall F__law_pick (aCons (eVar 1) (aCons (eC (.int 4)) aNil))) (eC (.int 0))))) (δV ns x2 x3 (some (.int (k : Nat))) x5 x6 x7 x8 x9 x10 (some (.str nm)) x12 x13 (some (.int (way : Nat))) x15 x16 x17 x18) ⟨src c2 l2 m2 t2 rest, own⟩ = .ok (decide (k4 = 0)) ⟨src c3 l3 m3 t3 rest, own⟩ := by
      have t2 : (tB_ (eOp opEq (eCall F__law_pick (aCons (eVar 1) (aCons (eC (.int 4)) aNil))) (eC (.int 0)))) (δV ns x2 x3 (some (.int (k : Nat))) x5 x6 x7 x8 x9 x10 (some (.str nm)) x12 x13 (some (.int (way : Nat))) x15 x16 x17 x18) ⟨src c2 l2 m2 t2 rest, own⟩ = .ok (decide (k4 = 0)) ⟨src c3 l3 m3 t3 rest, own⟩ := tB_ok (op2_ok (x := .int k4) (y := .int 0) (w2 := ⟨src c3 l3 m3 t3 rest, own⟩) q3 rfl rfl)
      unfold tAnd_
      rw [t0, bind_ok, if_pos rfl, t2]
    generalize decide (k4 = 0) = b4 at t1
    cases b4 with
    | false =>
      have s1 : bb1 (δV ns x2 x3 (some (.int (k : Nat))) x5 x6 x7 x8 x9 x10 (some (.str nm)) x12 x13 (some (.int (way : Nat))) x15 x16 x17 x18) ⟨src c2 l2 m2 t2 rest, own⟩ = .ok (.nx, δV ns x2 x3 (some (.int (k : Nat))) x5 x6 x7 x8 x9 x10 (some (.str nm)) x12 x13 (some (.int (way : Nat))) x15 x16 x17 x18) ⟨src c3 l3 m3 t3 rest, own⟩ := set_ok ((eif_f t1).trans rfl)
      exact ⟨way, nm, c3, l3, m3, t3, by omega, g6, hc3, fun r => by rw [seq_nx s0, seq_nx s1]⟩
    | true =>
      have s9 : bb1 (δV ns x2 x3 (some (.int (k : Nat))) x5 x6 x7 x8 x9 x10 (some (.str nm)) x12 x13 (some (.int (way : Nat))) x15 x16 x17 x18) ⟨src c2 l2 m2 t2 rest, own⟩ = .ok (.nx, δV ns x2 x3 (some (.int (k : Nat))) x5 x6 x7 x8 x9 x10 (some (.str s1)) x12 x13 (some (.int (way : Nat))) x15 x16 x17 x18) ⟨src c3 l3 m3 t3 rest, own⟩ := set_ok ((eif_t t1).trans (g5 _ _ rfl))
      exact ⟨way, s1, c3, l3, m3, t3, by omega, g7, hc3, fun r => by rw [seq_nx s0, seq_nx s9]⟩
end
end Lk04

set_option Elab.async false
set_option linter.all false
set_option maxRecDepth 100000
set_option maxHeartbeats 0
/-! k04: one more item of the law, of each sort. -/
namespace Lk04
open PySem L2 DP
def Good (way : Nat) (P : List Pt) (L : List Lt) (name : Str) (x : D) (y18 : Option D) : Prop :=
  (way = 0 ∧ (∀ q ∈ P, q.n ≠ name) ∧ Stp P L x (P ++ [⟨name, x⟩]) L ∧ smD 2010 x) ∨ (way ≠ 0 ∧ (∀ q ∈ L, q.n ≠ name) ∧ ∃ kd p, y18 = some (.int p) ∧ Stp P L x P (L ++ [⟨name, kd, p, x⟩]) ∧ 0 ≤ p ∧ p ≤ 11)
def Bad (ys : List D) (x φ : D) : Prop := ∀ (xs tail : List D), xs = ys ++ x :: tail → xs.length ≤ 900 → D.puL xs = true → ∃ w, F_wrong_use [.tup xs, .int (ys.length : Nat)] [] = .ok φ w
structure Out (ys : List D) (way : Nat) (P : List Pt) (L : List Lt) (name : Str) (x φ : D) (y18 : Option D) : Prop where
  pu : x.pu = true
  f : FauF φ
  g : φ = .non → Good way P L name x y18
  b : Bad ys x φ
theorem bad_of {ys xs tail : List D} {x : D} (e : xs = ys ++ x :: tail) : ∃ h : ys.length < xs.length, xs.take ys.length = ys ∧ xs[ys.length] = x := by
  subst e
  refine ⟨by rw [List.length_append, List.length_cons]; omega, List.take_left, ?_⟩
  rw [List.getElem_append_right (Nat.le_refl _)]
  simp
theorem FauF.pu {d : D} (h : FauF d) : d.pu = true := by
  rcases h with rfl | ⟨a, b, rfl, ha, hb, _⟩
  · rfl
  · simp [D.pu, D.puL, ha, hb]
theorem twice_fau : FauF twiceF := .inr ⟨_, _, rfl, rfl, rfl, by kernel_rfl⟩
theorem Ses.len {ys : List D} {P : List Pt} {L : List Lt} (h : Ses ys P L) : P.length ≤ ys.length ∧ L.length ≤ ys.length := by
  induction h with
  | nil => exact ⟨Nat.le_refl _, Nat.le_refl _⟩
  | snoc _ o ih => cases o <;> simp only [List.length_append, List.length_singleton] <;> omega
def twE : ME := (eTup (aCons (eTup (aCons (eC (.int 1)) aNil)) (aCons (eC (.str "twice")) aNil)))
theorem eif_in {i j : Nat} {δ : DP.Env} {w : Wd} {kvs : List (Key × D)} {name : Str} {φ : D} (h11 : δ[11]? = some (some (.str name))) (hi : δ[i]? = some (some (.loc j))) (hj : w.s[j]? = some (.dK kvs)) (h16 : δ[16]? = some (some φ)) : (eIf (tB_ (eOp (opIn false) (eVar 11) (eVar i))) twE (eVar 16)) δ w = .ok (if (valD kvs (.inr name)).isSome = true then twiceF else φ) w := by
  have t : (tB_ (eOp (opIn false) (eVar 11) (eVar i))) δ w = .ok (valD kvs (.inr name)).isSome w := tB_ok (op2_ok (var_ok h11) (var_ok hi) (in_dk (neg := false) hj))
  cases h : (valD kvs (.inr name)).isSome with
  | true =>
    rw [h] at t
    rw [eif_t t, if_pos rfl]
    rfl
  | false =>
    rw [h] at t
    rw [eif_f t, if_neg (by decide), var_ok h16]
theorem sq3_ok {i j k : Nat} {m : ME} {δ : DP.Env} {w w1 : Wd} {a b c : D} (h : m δ w = .ok (.tup [a, b, c]) w1) : sAsg (gSq 3 (gCons_ (gNm i) (gCons_ (gNm j) (gCons_ (gNm k) gNil_)))) m δ w = .ok (.nx, ((δ.set i (some a)).set j (some b)).set k (some c)) w1 := by
  unfold sAsg
  rw [h, bind_ok]
  rfl
section
variable {ns : List Int} {x2 x3 x4 x5 x6 x7 x10 x12 x13 x15 x16 x17 x18 : Option D} {c : List Int} {l m t : Int} {rest own : List SO} {ys : List D} {P : List Pt} {L : List Lt} {name : Str}
abbrev δW (ns : List Int) (x2 x3 x4 x5 x6 x7 : Option D) (r : Nat) (x10 : Option D) (name : Str) (x12 x13 : Option D) (way : Nat) (x15 x16 x17 x18 : Option D) : DP.Env := δV ns x2 x3 x4 x5 x6 x7 (some (.loc (r + 2))) (some (.loc (r + 3))) x10 (some (.str name)) x12 x13 (some (.int (way : Nat))) x15 x16 x17 x18
theorem way0 (h : Ses ys P L) (hn : okN name = true) (hc : c.length ≤ 63) : ∃ (x φ : D) (y15 : Option D) (c' : List Int) (l' m' t' : Int), bb2 (δW ns x2 x3 x4 x5 x6 x7 rest.length x10 name x12 x13 0 x15 x16 x17 x18) ⟨src c l m t (SR rest P L), own⟩ = .ok (.nx, δW ns x2 x3 x4 x5 x6 x7 rest.length x10 name x12 x13 0 y15 (some φ) (some x) x18) ⟨src c' l' m' t' (SR rest P L), own⟩ ∧ Out ys 0 P L name x φ x18 ∧ c'.length ≤ 63 := by
  obtain ⟨fs, c1, l1, m1, t1, q1, hf, hl, hc1⟩ := poly_ok (l := l) (m := m) (t := t) (rest := SR rest P L) hc
  have s0 : bx00 (δW ns x2 x3 x4 x5 x6 x7 rest.length x10 name x12 x13 0 x15 x16 x17 x18) ⟨src c l m t (SR rest P L), own⟩ = .ok (.nx, δW ns x2 x3 x4 x5 x6 x7 rest.length x10 name x12 x13 0 (some (.tup (fs.map Fac.d))) (some (firstP 0 fs)) x17 x18) ⟨src c1 l1 m1 t1 (SR rest P L), own⟩ :=
    sq2_ok (callF_ok (ds := [.loc 1]) rfl q1 rfl (.inr rfl))
  have s1 : bx01 (δW ns x2 x3 x4 x5 x6 x7 rest.length x10 name x12 x13 0 (some (.tup (fs.map Fac.d))) (some (firstP 0 fs)) x17 x18) ⟨src c1 l1 m1 t1 (SR rest P L), own⟩ = .ok (.nx, δW ns x2 x3 x4 x5 x6 x7 rest.length x10 name x12 x13 0 (some (.tup (fs.map Fac.d))) (some (if (valD (Pd P) (.inr name)).isSome = true then twiceF else firstP 0 fs)) (some (pI name (fs.map Fac.d))) x18) ⟨src c1 l1 m1 t1 (SR rest P L), own⟩ := by
    refine par_ok (acons_ok (d := pI name (fs.map Fac.d)) rfl (acons_ok (eif_in (j := rest.length + 2) (name := name) (kvs := Pd P) rfl rfl (src_get get_P) rfl) anil_ok))
  refine ⟨pI name (fs.map Fac.d), (if (valD (Pd P) (.inr name)).isSome = true then twiceF else firstP 0 fs), some (.tup (fs.map Fac.d)), c1, l1, m1, t1, ?_, ?_, hc1⟩
  · rw [bb2_M, if_t (w' := ⟨src c l m t (SR rest P L), own⟩) (by kernel_rfl), seq_nx s0, seq_nx s1]
    rfl
  · have hpu : (pI name (fs.map Fac.d)).pu = true := by simp [D.pu, D.puL, fac_pu]
    have ho : ∀ f ∈ fs, f.Ok := fun f z => (hf f z).1
    have hm : ∀ r, F_wrong_making [.loc 0, pI name (fs.map Fac.d)] (ST (Kd L) (Pd P) [] r) = .ok (firstP 0 fs) ⟨ST (Kd L) (Pd P) [] r, []⟩ := fun r => making_poly ho
    have ff := firstP_fau fs 0 (by omega)
    by_cases hq : ∃ q ∈ P, q.n = name
    · obtain ⟨q, hq, rfl⟩ := hq
      rw [isSome_of (Pd_mem h hq), if_pos rfl]
      refine ⟨hpu, twice_fau, (fun z => by cases z), fun xs tail e hl hp => ?_⟩
      obtain ⟨hk, hy, hg⟩ := bad_of e
      exact use_poly hl (pu_clL hp) hk hy hg h rfl (.inl ⟨⟨q, hq, rfl⟩, rfl⟩)
    · have hq : ∀ q ∈ P, q.n ≠ name := fun q z e => hq ⟨q, z, e⟩
      rw [isNone_of (Pd_no hq), if_neg (by decide)]
      refine ⟨hpu, ff, fun z => .inl ⟨rfl, hq, .poly name _ hq (fac_pu fs) (fun r => (hm r).trans (by rw [z])), poly_sm (okN_l hn) (fun f z => (hf f z).2) hl⟩, fun xs tail e hl hp => ?_⟩
      obtain ⟨hk, hy, hg⟩ := bad_of e
      exact use_poly hl (pu_clL hp) hk hy hg h (pu_cl ff.pu) (.inr ⟨hq, _, hm _⟩)
theorem made_out {way : Nat} {tag : Str} {r3 : List D} {φ0 : D} (hw : way ≠ 0) (ht : tag = "lot" ∨ tag = "pipe") (h : Ses ys P L) (hpu : D.puL r3 = true) (ff : FauF φ0) (hm : ∀ r, F_wrong_making [.loc 0, .tup (.str tag :: .str name :: r3)] (ST (Kd L) (Pd P) [] r) = .ok φ0 ⟨ST (Kd L) (Pd P) [] r, []⟩) (hG : φ0 = .non → (∀ q ∈ L, q.n ≠ name) → Good way P L name (.tup (.str tag :: .str name :: r3)) x18) : Out ys way P L name (.tup (.str tag :: .str name :: r3)) (if (valD (Qd L) (.inr name)).isSome = true then twiceF else φ0) x18 := by
  have hp0 : (D.tup (.str tag :: .str name :: r3)).pu = true := by simp [D.pu, D.puL, hpu]
  by_cases hq : ∃ q ∈ L, q.n = name
  · obtain ⟨q, hq, rfl⟩ := hq
    rw [isSome_of (GoodL.Q ⟨h.nd.2, h.kds⟩ hq), if_pos rfl]
    refine ⟨hp0, twice_fau, (fun z => by cases z), fun xs tail e hl hp => ?_⟩
    obtain ⟨hk, hy, hg⟩ := bad_of e
    exact use_made ht hl (pu_clL hp) hk hy hg h rfl (.inl ⟨⟨q, hq, rfl⟩, rfl⟩)
  · have hq : ∀ q ∈ L, q.n ≠ name := fun q z e => hq ⟨q, z, e⟩
    rw [isNone_of (Qd_no hq), if_neg (by decide)]
    refine ⟨hp0, ff, fun z => hG z hq, fun xs tail e hl hp => ?_⟩
    obtain ⟨hk, hy, hg⟩ := bad_of e
    exact use_made ht hl (pu_clL hp) hk hy hg h ff.cl (.inr ⟨hq, _, hm _⟩)
theorem way1 (h : Ses ys P L) (hys : ys.length ≤ 20) (hc : c.length ≤ 63) : ∃ (x φ : D) (y6 y18 : Option D) (c' : List Int) (l' m' t' : Int), bb2 (δW ns x2 x3 x4 x5 x6 x7 rest.length x10 name x12 x13 1 x15 x16 x17 x18) ⟨src c l m t (SR rest P L), own⟩ = .ok (.nx, δW ns x2 x3 x4 x5 y6 x7 rest.length x10 name x12 x13 1 x15 (some φ) (some x) y18) ⟨src c' l' m' t' (SR rest P L), own⟩ ∧ Out ys 1 P L name x φ y18 ∧ c'.length ≤ 63 := by
  obtain ⟨p, found, fault, c1, l1, m1, t1, q1, hR, hp, hc1⟩ := lot_ok (P := P) (l := l) (m := m) (t := t) (rest := SR rest P L) (j := rest.length) get_P (by have := h.len; omega) hc
  have s0 : bx10 (δW ns x2 x3 x4 x5 x6 x7 rest.length x10 name x12 x13 1 x15 x16 x17 x18) ⟨src c l m t (SR rest P L), own⟩ = .ok (.nx, δW ns x2 x3 x4 x5 (some found) x7 rest.length x10 name x12 x13 1 x15 (some fault) x17 (some (.int p))) ⟨src c1 l1 m1 t1 (SR rest P L), own⟩ :=
    sq3_ok (callF_ok (ds := [.loc 1, .loc (rest.length + 2)]) rfl q1 rfl (.inr rfl))
  have s1 : bx11 (δW ns x2 x3 x4 x5 (some found) x7 rest.length x10 name x12 x13 1 x15 (some fault) x17 (some (.int p))) ⟨src c1 l1 m1 t1 (SR rest P L), own⟩ = .ok (.nx, δW ns x2 x3 x4 x5 (some found) x7 rest.length x10 name x12 x13 1 x15 (some (if (valD (Qd L) (.inr name)).isSome = true then twiceF else fault)) (some (lI name p found)) (some (.int p))) ⟨src c1 l1 m1 t1 (SR rest P L), own⟩ := by
    refine par_ok (acons_ok (d := lI name p found) rfl (acons_ok (eif_in (j := rest.length + 3) (name := name) (kvs := Qd L) rfl rfl (src_get get_L) rfl) anil_ok))
  refine ⟨lI name p found, (if (valD (Qd L) (.inr name)).isSome = true then twiceF else fault), some found, some (.int p), c1, l1, m1, t1, ?_, ?_, hc1⟩
  · rw [bb2_M, if_f (w' := ⟨src c l m t (SR rest P L), own⟩) (by kernel_rfl)]
    refine (seq_nx (δ' := δW ns x2 x3 x4 x5 (some found) x7 rest.length x10 name x12 x13 1 x15 (some (if (valD (Qd L) (.inr name)).isSome = true then twiceF else fault)) (some (lI name p found)) (some (.int p))) (w' := ⟨src c1 l1 m1 t1 (SR rest P L), own⟩) ?_).trans rfl
    rw [if_t (w' := ⟨src c l m t (SR rest P L), own⟩) (by kernel_rfl), seq_nx s0, seq_nx s1]
    rfl
  · refine made_out (r3 := [.int p, found]) (by decide) (.inl rfl) h (by simp [D.puL, D.pu, hR.1]) hR.2.1 (fun r => hR.2.2 name (Kd L) r) fun z hq => .inr ⟨by decide, hq, "lot", p, rfl, .lot name p found hq hR.1 (fun r => (hR.2.2 name (Kd L) r).trans (by rw [z])), hp⟩
theorem way2 (h : Ses ys P L) (hys : ys.length ≤ 20) (hL : ∀ q ∈ L, 0 ≤ q.p ∧ q.p ≤ 11) (hc : c.length ≤ 63) : ∃ (x φ : D) (y6 y18 : Option D) (c' : List Int) (l' m' t' : Int), bb2 (δW ns x2 x3 x4 x5 x6 x7 rest.length x10 name x12 x13 2 x15 x16 x17 x18) ⟨src c l m t (SR rest P L), own⟩ = .ok (.nx, δW ns x2 x3 x4 x5 y6 x7 rest.length x10 name x12 x13 2 x15 (some φ) (some x) y18) ⟨src c' l' m' t' (SR rest P L), own⟩ ∧ Out ys 2 P L name x φ y18 ∧ c'.length ≤ 63 := by
  obtain ⟨found, fault, prime, c1, l1, m1, t1, q1, hR, hc1⟩ := pipe_ok (L := L) ⟨h.nd.2, h.kds⟩ (l := l) (m := m) (t := t) (rest := SR rest P L) (j := rest.length + 1) get_L (by have := h.len; omega) hc
  have s0 : bx20 (δW ns x2 x3 x4 x5 x6 x7 rest.length x10 name x12 x13 2 x15 x16 x17 x18) ⟨src c l m t (SR rest P L), own⟩ = .ok (.nx, δW ns x2 x3 x4 x5 (some found) x7 rest.length x10 name x12 x13 2 x15 (some fault) x17 (some prime)) ⟨src c1 l1 m1 t1 (SR rest P L), own⟩ :=
    sq3_ok (callF_ok (ds := [.loc 1, .loc (rest.length + 3)]) rfl q1 rfl (.inr rfl))
  have s1 : bx21 (δW ns x2 x3 x4 x5 (some found) x7 rest.length x10 name x12 x13 2 x15 (some fault) x17 (some prime)) ⟨src c1 l1 m1 t1 (SR rest P L), own⟩ = .ok (.nx, δW ns x2 x3 x4 x5 (some found) x7 rest.length x10 name x12 x13 2 x15 (some (if (valD (Qd L) (.inr name)).isSome = true then twiceF else fault)) (some (.tup [.str "pipe", .str name, found])) (some prime)) ⟨src c1 l1 m1 t1 (SR rest P L), own⟩ := by
    refine par_ok (acons_ok (d := .tup [.str "pipe", .str name, found]) rfl (acons_ok (eif_in (j := rest.length + 3) (name := name) (kvs := Qd L) rfl rfl (src_get get_L) rfl) anil_ok))
  refine ⟨.tup [.str "pipe", .str name, found], (if (valD (Qd L) (.inr name)).isSome = true then twiceF else fault), some found, some prime, c1, l1, m1, t1, ?_, ?_, hc1⟩
  · rw [bb2_M, if_f (w' := ⟨src c l m t (SR rest P L), own⟩) (by kernel_rfl)]
    refine (seq_nx (δ' := δW ns x2 x3 x4 x5 (some found) x7 rest.length x10 name x12 x13 2 x15 (some (if (valD (Qd L) (.inr name)).isSome = true then twiceF else fault)) (some (.tup [.str "pipe", .str name, found])) (some prime)) (w' := ⟨src c1 l1 m1 t1 (SR rest P L), own⟩) ?_).trans rfl
    rw [if_f (w' := ⟨src c l m t (SR rest P L), own⟩) (by kernel_rfl), seq_nx s0, seq_nx s1]
    rfl
  · obtain ⟨tg, w, ms, rfl, hpu, hF, hpc, hmk, hfin⟩ := hR
    refine made_out (r3 := [.tup (.str tg :: .str w :: ms)]) (by decide) (.inr rfl) h (by simp [D.puL, D.pu, hpu]) hF (fun r => hmk name (Pd P) r) fun z hq => ?_
    obtain ⟨q, hq1, hq2, hq3⟩ := hfin z
    exact .inr ⟨by decide, hq, "pipe", q.p, by rw [hq3], .pipe name tg w ms q hq hq1 hq2 hpu (fun r => (hmk name (Pd P) r).trans (by rw [z])), hL q hq1⟩
end
end Lk04

set_option Elab.async false
set_option linter.all false
set_option maxRecDepth 100000
set_option maxHeartbeats 0
/-! k04: the law's items. -/
namespace Lk04
open PySem L2 DP
theorem for_br {g : MG} {b : MS} {d : D} {ds : List D} {δ δ1 δ2 : DP.Env} {w w1 w2 : Wd} (h1 : g d δ w = .ok δ1 w1) (h2 : b δ1 w1 = .ok (.br, δ2) w2) : forD g b (d :: ds) δ w = .ok (.nx, δ2) w2 := by
  rw [forD, h1]
  show Res.bind (b δ1 w1) _ = _
  rw [h2]
  rfl
structure Inv (ys : List D) (P : List Pt) (L : List Lt) : Prop where
  h : Ses ys P L
  p : ∀ q ∈ P, smD 2010 q.it ∧ okN q.n = true
  l : ∀ q ∈ L, okN q.n = true ∧ 0 ≤ q.p ∧ q.p ≤ 11
theorem set_two {α : Type} {rest : List α} {A B C : α} : (rest ++ [A, B]).set rest.length C = rest ++ [C, B] := by
  rw [List.set_append_right _ _ (Nat.le_refl _), Nat.sub_self]
  rfl
theorem set_two1 {α : Type} {rest : List α} {A B C : α} : (rest ++ [A, B]).set (rest.length + 1) C = rest ++ [A, C] := by
  rw [List.set_append_right _ _ (by omega), show rest.length + 1 - rest.length = 1 by omega]
  rfl
theorem set_one {α : Type} {rest : List α} {A C : α} : (rest ++ [A]).set rest.length C = rest ++ [C] := by
  rw [List.set_append_right _ _ (Nat.le_refl _), Nat.sub_self]
  rfl
theorem set_src {c : List Int} {l m t : Int} {R : List SO} {j : Nat} {v : SO} : (src c l m t R).set (j + 2) v = src c l m t (R.set j v) := rfl
theorem Pd_put {P : List Pt} {n : Str} {it : D} (h : ∀ q ∈ P, q.n ≠ n) : putD (Pd P) (.inr n) it = Pd (P ++ [⟨n, it⟩]) := by
  rw [put_fresh]
  · unfold Pd
    rw [List.map_append]
    rfl
  · intro kv hkv e
    obtain ⟨l, hl, rfl⟩ := List.mem_map.mp hkv
    injection e with e
    exact h l hl e
theorem Qd_put {L : List Lt} {n kd : Str} {p : Int} {it : D} (h : ∀ q ∈ L, q.n ≠ n) : putD (Qd L) (.inr n) (.int p) = Qd (L ++ [⟨n, kd, p, it⟩]) := by
  rw [put_fresh]
  · unfold Qd
    rw [List.map_append]
    rfl
  · intro kv hkv e
    obtain ⟨l, hl, rfl⟩ := List.mem_map.mp hkv
    injection e with e
    exact h l hl e
theorem Pd_len (P : List Pt) : (Pd P).length = P.length := List.length_map _
theorem Qd_len (L : List Lt) : (Qd L).length = L.length := List.length_map _
/-- what the items are behind the loop -/
def Fin (items : List D) (P : List Pt) (L : List Lt) (due : D) : Prop := ∃ ys, Inv ys P L ∧ ys.length ≤ 10 ∧ ((items = ys ∧ due = .non) ∨ ∃ x a b, items = ys ++ [x] ∧ due = .tup [.int (ys.length : Nat), a, b] ∧ x.pu = true ∧ a.pu = true ∧ b.pu = true ∧ smF a b = true ∧ Bad ys x (.tup [a, b]))
section
variable {ns : List Int} {rest olds : List SO}
theorem law_step {x2 x5 x6 x7 x11 x12 x13 x14 x15 x16 x17 x18 : Option D} {c : List Int} {l m t : Int} {ys : List D} {P : List Pt} {L : List Lt} (I : Inv ys P L) (h3 : 3 ≤ ys.length) (h10 : ys.length < 10) (hc : c.length ≤ 63) :
    ∃ (x : D) (P' : List Pt) (L' : List Lt) (due : D) (y6 y11 y14 y15 y16 y17 y18 : Option D) (c' : List Int) (l' m' t' : Int) (fl : Fl),
      lawB (δV ns x2 (some (.own olds.length)) (some (.int (ys.length : Nat))) x5 x6 x7 (some (.loc (rest.length + 2))) (some (.loc (rest.length + 3))) (some .non) x11 x12 x13 x14 x15 x16 x17 x18) ⟨src c l m t (SR rest P L), olds ++ [.lst ys]⟩ = .ok (fl, δV ns x2 (some (.own olds.length)) (some (.int (ys.length : Nat))) x5 y6 x7 (some (.loc (rest.length + 2))) (some (.loc (rest.length + 3))) (some due) y11 x12 x13 y14 y15 y16 y17 y18) ⟨src c' l' m' t' (SR rest P' L'), olds ++ [.lst (ys ++ [x])]⟩ ∧ c'.length ≤ 63 ∧
      ((fl = .nx ∧ due = .non ∧ Inv (ys ++ [x]) P' L') ∨ (fl = .br ∧ Fin (ys ++ [x]) P' L' due)) := by
  obtain ⟨way, name, c1, l1, m1, t1, hw, hn, hc1, e01⟩ := name_ok (ns := ns) (x2 := x2) (x3 := some (.own olds.length)) (x5 := x5) (x6 := x6) (x7 := x7) (x8 := some (.loc (rest.length + 2))) (x9 := some (.loc (rest.length + 3))) (x10 := some .non) (x11 := x11) (x12 := x12) (x13 := x13) (x14 := x14) (x15 := x15) (x16 := x16) (x17 := x17) (x18 := x18) (l := l) (m := m) (t := t) (rest := SR rest P L) (own := olds ++ [.lst ys]) h3 h10 hc
  have hlen := I.h.len
  obtain ⟨x, φ, y6, y15, y18, c2, l2, m2, t2, e2, O, hc2⟩ : ∃ (x φ : D) (y6 y15 y18 : Option D) (c' : List Int) (l' m' t' : Int), bb2 (δW ns x2 (some (.own olds.length)) (some (.int (ys.length : Nat))) x5 x6 x7 rest.length (some .non) name x12 x13 way x15 x16 x17 x18) ⟨src c1 l1 m1 t1 (SR rest P L), olds ++ [.lst ys]⟩ = .ok (.nx, δW ns x2 (some (.own olds.length)) (some (.int (ys.length : Nat))) x5 y6 x7 rest.length (some .non) name x12 x13 way y15 (some φ) (some x) y18) ⟨src c' l' m' t' (SR rest P L), olds ++ [.lst ys]⟩ ∧ Out ys way P L name x φ y18 ∧ c'.length ≤ 63 := by
    have : way = 0 ∨ way = 1 ∨ way = 2 := by omega
    rcases this with rfl | rfl | rfl
    · obtain ⟨x, φ, y15, c2, l2, m2, t2, e, O, h⟩ := way0 (ns := ns) (x2 := x2) (x3 := some (.own olds.length)) (x4 := some (.int (ys.length : Nat))) (x5 := x5) (x6 := x6) (x7 := x7) (x10 := some .non) (x12 := x12) (x13 := x13) (x15 := x15) (x16 := x16) (x17 := x17) (x18 := x18) (l := l1) (m := m1) (t := t1) (rest := rest) (own := olds ++ [.lst ys]) (name := name) I.h hn hc1
      exact ⟨x, φ, x6, y15, x18, c2, l2, m2, t2, e, O, h⟩
    · obtain ⟨x, φ, y6, y18, c2, l2, m2, t2, e, O, h⟩ := way1 (ns := ns) (x2 := x2) (x3 := some (.own olds.length)) (x4 := some (.int (ys.length : Nat))) (x5 := x5) (x6 := x6) (x7 := x7) (x10 := some .non) (x12 := x12) (x13 := x13) (x15 := x15) (x16 := x16) (x17 := x17) (x18 := x18) (l := l1) (m := m1) (t := t1) (rest := rest) (own := olds ++ [.lst ys]) (name := name) I.h (by omega) hc1
      exact ⟨x, φ, y6, x15, y18, c2, l2, m2, t2, e, O, h⟩
    · obtain ⟨x, φ, y6, y18, c2, l2, m2, t2, e, O, h⟩ := way2 (ns := ns) (x2 := x2) (x3 := some (.own olds.length)) (x4 := some (.int (ys.length : Nat))) (x5 := x5) (x6 := x6) (x7 := x7) (x10 := some .non) (x12 := x12) (x13 := x13) (x15 := x15) (x16 := x16) (x17 := x17) (x18 := x18) (l := l1) (m := m1) (t := t1) (rest := rest) (own := olds ++ [.lst ys]) (name := name) I.h (by omega) (fun q hq => (I.l q hq).2) hc1
      exact ⟨x, φ, y6, x15, y18, c2, l2, m2, t2, e, O, h⟩
  have e3 : bb3 (δW ns x2 (some (.own olds.length)) (some (.int (ys.length : Nat))) x5 y6 x7 rest.length (some .non) name x12 x13 way y15 (some φ) (some x) y18) ⟨src c2 l2 m2 t2 (SR rest P L), olds ++ [.lst ys]⟩ = .ok (.nx, δW ns x2 (some (.own olds.length)) (some (.int (ys.length : Nat))) x5 y6 x7 rest.length (some .non) name x12 x13 way y15 (some φ) (some x) y18) ⟨src c2 l2 m2 t2 (SR rest P L), olds ++ [.lst (ys ++ [x])]⟩ := by
    have := app_lst (i := 3) (k := olds.length) (xs := ys) (x := x) (ma := (aCons (eVar 17) aNil)) (δ := δW ns x2 (some (.own olds.length)) (some (.int (ys.length : Nat))) x5 y6 x7 rest.length (some .non) name x12 x13 way y15 (some φ) (some x) y18) (s := src c2 l2 m2 t2 (SR rest P L)) (s' := src c2 l2 m2 t2 (SR rest P L)) (l := olds ++ [.lst ys]) rfl (by rw [List.getElem?_append_right (Nat.le_refl _), Nat.sub_self]; rfl) rfl (by omega)
    rw [set_one] at this
    exact this
  have hB : ∀ r, lawB (δV ns x2 (some (.own olds.length)) (some (.int (ys.length : Nat))) x5 x6 x7 (some (.loc (rest.length + 2))) (some (.loc (rest.length + 3))) (some .non) x11 x12 x13 x14 x15 x16 x17 x18) ⟨src c l m t (SR rest P L), olds ++ [.lst ys]⟩ = r ↔ (sSeq bb4 (sSeq bb5 sNil)) (δW ns x2 (some (.own olds.length)) (some (.int (ys.length : Nat))) x5 y6 x7 rest.length (some .non) name x12 x13 way y15 (some φ) (some x) y18) ⟨src c2 l2 m2 t2 (SR rest P L), olds ++ [.lst (ys ++ [x])]⟩ = r := by
    intro r
    unfold lawB
    rw [e01, seq_nx e2, seq_nx e3]
  rcases O.f with rfl | ⟨a, b, rfl, ha, hb, hs⟩
  · have e4 : bb4 (δW ns x2 (some (.own olds.length)) (some (.int (ys.length : Nat))) x5 y6 x7 rest.length (some .non) name x12 x13 way y15 (some .non) (some x) y18) ⟨src c2 l2 m2 t2 (SR rest P L), olds ++ [.lst (ys ++ [x])]⟩ = .ok (.nx, δW ns x2 (some (.own olds.length)) (some (.int (ys.length : Nat))) x5 y6 x7 rest.length (some .non) name x12 x13 way y15 (some .non) (some x) y18) ⟨src c2 l2 m2 t2 (SR rest P L), olds ++ [.lst (ys ++ [x])]⟩ := by kernel_rfl
    rcases O.g rfl with ⟨rfl, hq, hS, hsm⟩ | ⟨hw0, hq, kd, p, rfl, hS, hp⟩
    · have e5 : bb5 (δW ns x2 (some (.own olds.length)) (some (.int (ys.length : Nat))) x5 y6 x7 rest.length (some .non) name x12 x13 0 y15 (some .non) (some x) y18) ⟨src c2 l2 m2 t2 (SR rest P L), olds ++ [.lst (ys ++ [x])]⟩ = .ok (.nx, δW ns x2 (some (.own olds.length)) (some (.int (ys.length : Nat))) x5 y6 x7 rest.length (some .non) name x12 x13 0 y15 (some .non) (some x) y18) ⟨src c2 l2 m2 t2 (SR rest (P ++ [⟨name, x⟩]) L), olds ++ [.lst (ys ++ [x])]⟩ := by
        unfold bb5
        rw [if_t (w' := ⟨src c2 l2 m2 t2 (SR rest P L), olds ++ [.lst (ys ++ [x])]⟩) (by kernel_rfl)]
        refine seq_one (asg_ok (d := x) (w1 := ⟨src c2 l2 m2 t2 (SR rest P L), olds ++ [.lst (ys ++ [x])]⟩) rfl (gsub_ok (o := .loc (rest.length + 2)) (i := .str name) (w1 := ⟨src c2 l2 m2 t2 (SR rest P L), olds ++ [.lst (ys ++ [x])]⟩) (w2 := ⟨src c2 l2 m2 t2 (SR rest P L), olds ++ [.lst (ys ++ [x])]⟩) rfl rfl ?_))
        rw [put_dk (n := rest.length + 2) (w := ⟨src c2 l2 m2 t2 (SR rest P L), olds ++ [SO.lst (ys ++ [x])]⟩) (kvs := Pd P) (src_get get_P) (pu_cl O.pu) (by rw [Pd_len]; exact Nat.lt_of_le_of_lt (by omega : P.length ≤ 1000) (by decide))]
        rw [Pd_put hq, set_src, set_two]
      refine ⟨x, P ++ [⟨name, x⟩], L, .non, _, _, _, _, _, _, _, c2, l2, m2, t2, .nx, (hB _).mpr ((seq_nx e4).trans (seq_one e5)), hc2, .inl ⟨rfl, rfl, .snoc I.h hS, fun q hq => ?_, I.l⟩⟩
      rcases List.mem_append.mp hq with z | z
      · exact I.p q z
      · rw [List.mem_singleton.mp z]; exact ⟨hsm, hn⟩
    · have t5 : (tB_ (eOp opEq (eVar 14) (eC (.int 0)))) (δW ns x2 (some (.own olds.length)) (some (.int (ys.length : Nat))) x5 y6 x7 rest.length (some .non) name x12 x13 way y15 (some .non) (some x) (some (.int p))) ⟨src c2 l2 m2 t2 (SR rest P L), olds ++ [.lst (ys ++ [x])]⟩ = .ok false ⟨src c2 l2 m2 t2 (SR rest P L), olds ++ [.lst (ys ++ [x])]⟩ := by
        have : way = 1 ∨ way = 2 := by omega
        rcases this with rfl | rfl <;> kernel_rfl
      have e5 : bb5 (δW ns x2 (some (.own olds.length)) (some (.int (ys.length : Nat))) x5 y6 x7 rest.length (some .non) name x12 x13 way y15 (some .non) (some x) (some (.int p))) ⟨src c2 l2 m2 t2 (SR rest P L), olds ++ [.lst (ys ++ [x])]⟩ = .ok (.nx, δW ns x2 (some (.own olds.length)) (some (.int (ys.length : Nat))) x5 y6 x7 rest.length (some .non) name x12 x13 way y15 (some .non) (some x) (some (.int p))) ⟨src c2 l2 m2 t2 (SR rest P (L ++ [⟨name, kd, p, x⟩])), olds ++ [.lst (ys ++ [x])]⟩ := by
        unfold bb5
        rw [if_f t5]
        refine seq_one (asg_ok (d := .int p) (w1 := ⟨src c2 l2 m2 t2 (SR rest P L), olds ++ [.lst (ys ++ [x])]⟩) rfl (gsub_ok (o := .loc (rest.length + 3)) (i := .str name) (w1 := ⟨src c2 l2 m2 t2 (SR rest P L), olds ++ [.lst (ys ++ [x])]⟩) (w2 := ⟨src c2 l2 m2 t2 (SR rest P L), olds ++ [.lst (ys ++ [x])]⟩) rfl rfl ?_))
        rw [put_dk (n := rest.length + 3) (w := ⟨src c2 l2 m2 t2 (SR rest P L), olds ++ [SO.lst (ys ++ [x])]⟩) (kvs := Qd L) (src_get get_L) rfl (by rw [Qd_len]; exact Nat.lt_of_le_of_lt (by omega : L.length ≤ 1000) (by decide))]
        rw [Qd_put hq, show rest.length + 3 = rest.length + 1 + 2 from rfl, set_src, set_two1]
      refine ⟨x, P, L ++ [⟨name, kd, p, x⟩], .non, _, _, _, _, _, _, _, c2, l2, m2, t2, .nx, (hB _).mpr ((seq_nx e4).trans (seq_one e5)), hc2, .inl ⟨rfl, rfl, .snoc I.h hS, I.p, fun q hq => ?_⟩⟩
      rcases List.mem_append.mp hq with z | z
      · exact I.l q z
      · rw [List.mem_singleton.mp z]; exact ⟨hn, hp⟩
  · have t4 : (tB_ (eOp (opIs true) (eVar 16) (eC .non))) (δW ns x2 (some (.own olds.length)) (some (.int (ys.length : Nat))) x5 y6 x7 rest.length (some .non) name x12 x13 way y15 (some (.tup [a, b])) (some x) y18) ⟨src c2 l2 m2 t2 (SR rest P L), olds ++ [.lst (ys ++ [x])]⟩ = .ok true ⟨src c2 l2 m2 t2 (SR rest P L), olds ++ [.lst (ys ++ [x])]⟩ := by kernel_rfl
    have e4 : bb4 (δW ns x2 (some (.own olds.length)) (some (.int (ys.length : Nat))) x5 y6 x7 rest.length (some .non) name x12 x13 way y15 (some (.tup [a, b])) (some x) y18) ⟨src c2 l2 m2 t2 (SR rest P L), olds ++ [.lst (ys ++ [x])]⟩ = .ok (.br, δW ns x2 (some (.own olds.length)) (some (.int (ys.length : Nat))) x5 y6 x7 rest.length (some (.tup [.int (ys.length : Nat), a, b])) name x12 x13 way y15 (some (.tup [a, b])) (some x) y18) ⟨src c2 l2 m2 t2 (SR rest P L), olds ++ [.lst (ys ++ [x])]⟩ := by
      have e : (sSet 10 (eOp opAdd (eTup (aCons (eVar 4) aNil)) (eVar 16))) (δW ns x2 (some (.own olds.length)) (some (.int (ys.length : Nat))) x5 y6 x7 rest.length (some .non) name x12 x13 way y15 (some (.tup [a, b])) (some x) y18) ⟨src c2 l2 m2 t2 (SR rest P L), olds ++ [.lst (ys ++ [x])]⟩ = .ok (.nx, δW ns x2 (some (.own olds.length)) (some (.int (ys.length : Nat))) x5 y6 x7 rest.length (some (.tup [.int (ys.length : Nat), a, b])) name x12 x13 way y15 (some (.tup [a, b])) (some x) y18) ⟨src c2 l2 m2 t2 (SR rest P L), olds ++ [.lst (ys ++ [x])]⟩ := by
        refine set_ok (op2_ok (x := .tup [.int (ys.length : Nat)]) (y := .tup [a, b]) (w1 := ⟨src c2 l2 m2 t2 (SR rest P L), olds ++ [.lst (ys ++ [x])]⟩) (w2 := ⟨src c2 l2 m2 t2 (SR rest P L), olds ++ [.lst (ys ++ [x])]⟩) rfl rfl ?_)
        kernel_rfl
      unfold bb4
      rw [if_t t4, seq_nx e]
      exact seq_br rfl
    exact ⟨x, P, L, .tup [.int (ys.length : Nat), a, b], _, _, _, _, _, _, _, c2, l2, m2, t2, .br, (hB _).mpr (seq_br e4), hc2, .inr ⟨rfl, ys, I, by omega, .inr ⟨x, a, b, rfl, rfl, O.pu, ha, hb, hs, O.b⟩⟩⟩
theorem law_loop {x2 x5 x7 x12 x13 : Option D} : ∀ (n : Nat) (ys : List D) (P : List Pt) (L : List Lt) (x4 x6 x11 x14 x15 x16 x17 x18 : Option D) (c : List Int) (l m t : Int), Inv ys P L → 3 ≤ ys.length → ys.length + n = 10 → c.length ≤ 63 →
    ∃ (items : List D) (P' : List Pt) (L' : List Lt) (due : D) (y4 y6 y11 y14 y15 y16 y17 y18 : Option D) (c' : List Int) (l' m' t' : Int),
      forD (gNm 4) lawB (intsF ys.length n) (δV ns x2 (some (.own olds.length)) x4 x5 x6 x7 (some (.loc (rest.length + 2))) (some (.loc (rest.length + 3))) (some .non) x11 x12 x13 x14 x15 x16 x17 x18) ⟨src c l m t (SR rest P L), olds ++ [.lst ys]⟩ = .ok (.nx, δV ns x2 (some (.own olds.length)) y4 x5 y6 x7 (some (.loc (rest.length + 2))) (some (.loc (rest.length + 3))) (some due) y11 x12 x13 y14 y15 y16 y17 y18) ⟨src c' l' m' t' (SR rest P' L'), olds ++ [.lst items]⟩ ∧ c'.length ≤ 63 ∧ Fin items P' L' due
  | 0, ys, P, L, x4, x6, x11, x14, x15, x16, x17, x18, c, l, m, t, I, h3, hn, hc => ⟨ys, P, L, .non, _, _, _, _, _, _, _, _, c, l, m, t, rfl, hc, ys, I, by omega, .inl ⟨rfl, rfl⟩⟩
  | n + 1, ys, P, L, x4, x6, x11, x14, x15, x16, x17, x18, c, l, m, t, I, h3, hn, hc => by
    obtain ⟨x, P', L', due, y6, y11, y14, y15, y16, y17, y18, c1, l1, m1, t1, fl, e, hc1, hx⟩ := law_step (ns := ns) (rest := rest) (olds := olds) (x2 := x2) (x5 := x5) (x6 := x6) (x7 := x7) (x11 := x11) (x12 := x12) (x13 := x13) (x14 := x14) (x15 := x15) (x16 := x16) (x17 := x17) (x18 := x18) (l := l) (m := m) (t := t) I h3 (by omega) hc
    rcases hx with ⟨rfl, rfl, I2⟩ | ⟨rfl, hF⟩
    · obtain ⟨items, P2, L2, due, z4, z6, z11, z14, z15, z16, z17, z18, c2, l2, m2, t2, e2, hc2, hF⟩ := law_loop (x2 := x2) (x5 := x5) (x7 := x7) (x12 := x12) (x13 := x13) n (ys ++ [x]) P' L' (some (.int (ys.length : Nat))) y6 y11 y14 y15 y16 y17 y18 c1 l1 m1 t1 I2 (by rw [List.length_append]; omega) (by rw [List.length_append, List.length_singleton]; omega) hc1
      refine ⟨items, P2, L2, due, z4, z6, z11, z14, z15, z16, z17, z18, c2, l2, m2, t2, ?_, hc2, hF⟩
      rw [List.length_append, List.length_singleton] at e2
      rw [intsF]
      exact (for_nx rfl e).trans e2
    · refine ⟨ys ++ [x], P', L', due, some (.int (ys.length : Nat)), y6, y11, y14, y15, y16, y17, y18, c1, l1, m1, t1, ?_, hc1, hF⟩
      rw [intsF]
      exact for_br rfl e
end
end Lk04

set_option Elab.async false
set_option linter.all false
set_option maxRecDepth 100000
set_option maxHeartbeats 0
/-! k04: what is told of a session, in any store. -/
namespace Lk04
open PySem L2 DP
abbrev δK (xs : List D) (k : Nat) (j : Nat) (x : Option D) : DP.Env := [some (.tup xs), some (.int (k : Nat)), some (.loc j), x]
abbrev wK (s : List SO) (kv : List (Key × D)) : Wd := ⟨s ++ [.dK kv], []⟩
theorem get_one {α : Type} {s : List α} {a : α} : (s ++ [a])[s.length]? = some a := by
  rw [List.getElem?_append_right (Nat.le_refl _), Nat.sub_self]
  rfl
section
variable {ys xs : List D} {k : Nat} {P P' : List Pt} {L L' : List Lt} {x : D} {s : List SO}
theorem put_end {kvs : List (Key × D)} {y : Str} {d : D} (hc : d.cl = true) (hl : kvs.length < sizeLine) : opPut (.loc s.length) (.str y) d (wK s kvs) = .ok () (wK s (putD kvs (.inr y) d)) := by
  rw [put_dk (n := s.length) (kvs := kvs) (w := wK s kvs) get_one hc hl, set_one]
theorem mkG_one (h : Stp P L x P' L') (hnd : (L.map (·.n)).Nodup) (hl : L.length < 1000) : bMK (δK xs k s.length (some x)) (wK s (Kd L)) = .ok (.nx, δK xs k s.length (some x)) (wK s (Kd L')) := by
  have hz : (Kd L).length < sizeLine := by rw [Kd_len]; exact Nat.lt_of_lt_of_le hl (by decide)
  cases h with
  | poly n fs h1 h2 _ => kernel_rfl
  | lot n p told h1 h2 _ =>
    have s1 : (sAsg (gSub_ (eVar 2) (eOp opIx (eVar 3) (eC (.int 1)))) (eTup (aCons (eC g_LOT) (aCons (eOp opIx (eVar 3) (eC (.int 2))) aNil)))) (δK xs k s.length (some (lI n p told))) (wK s (Kd L)) = .ok (.nx, δK xs k s.length (some (lI n p told))) (wK s (Kd (L ++ [⟨n, "lot", p, lI n p told⟩]))) := by
      refine asg_ok (d := .tup [.str "lot", .int p]) (w1 := wK s (Kd L)) (by kernel_rfl) (gsub_ok (o := .loc s.length) (i := .str n) (w1 := wK s (Kd L)) (w2 := wK s (Kd L)) rfl (by kernel_rfl) ?_)
      rw [put_end rfl hz, Kd_put (it := lI n p told) h1]
    have t1 : (tB_ (eOp opEq (eOp opIx (eVar 3) (eC (.int 0))) (eC g_LOT))) (δK xs k s.length (some (lI n p told))) (wK s (Kd L)) = .ok true (wK s (Kd L)) := by kernel_rfl
    unfold bMK
    rw [seq_nx ((if_t t1).trans (seq_one s1))]
    kernel_rfl
  | pipe n tg v ms l h1 h2 h3 h4 _ =>
    subst h3
    have hv : valD (Kd L) (.inr l.n) = some (.tup [.str l.kd, .int l.p]) := val_some (f := fun l : Lt => l.n) (g := fun l : Lt => .tup [.str l.kd, .int l.p]) hnd h2
    have e2 : (eOp opIx (eOp opIx (eVar 2) (eOp opIx (eOp opIx (eVar 3) (eC (.int 2))) (eC (.int 1)))) (eC (.int 1))) (δK xs k s.length (some (qI n tg l.n ms))) (wK s (Kd L)) = .ok (.int l.p) (wK s (Kd L)) := by
      refine op2_ok (x := .tup [.str l.kd, .int l.p]) (y := .int 1) (w1 := wK s (Kd L)) (w2 := wK s (Kd L)) ?_ rfl rfl
      refine op2_ok (x := .loc s.length) (y := .str l.n) (w1 := wK s (Kd L)) (w2 := wK s (Kd L)) rfl ?_ (ix_dk (kvs := Kd L) get_one hv)
      exact op2_ok (x := .tup (.str tg :: .str l.n :: ms)) (y := .int 1) (w1 := wK s (Kd L)) (w2 := wK s (Kd L)) (by kernel_rfl) rfl (ix_tupS (n := 1) rfl)
    have s2 : (sAsg (gSub_ (eVar 2) (eOp opIx (eVar 3) (eC (.int 1)))) (eTup (aCons (eC g_PIPE) (aCons (eOp opIx (eOp opIx (eVar 2) (eOp opIx (eOp opIx (eVar 3) (eC (.int 2))) (eC (.int 1)))) (eC (.int 1))) aNil)))) (δK xs k s.length (some (qI n tg l.n ms))) (wK s (Kd L)) = .ok (.nx, δK xs k s.length (some (qI n tg l.n ms))) (wK s (Kd (L ++ [⟨n, "pipe", l.p, qI n tg l.n ms⟩]))) := by
      refine asg_ok (d := .tup [.str "pipe", .int l.p]) (w1 := wK s (Kd L)) (tup_ok (acons_ok (d := .str "pipe") rfl (acons_ok e2 anil_ok)) (by simp)) (gsub_ok (o := .loc s.length) (i := .str n) (w1 := wK s (Kd L)) (w2 := wK s (Kd L)) rfl (by kernel_rfl) ?_)
      rw [put_end rfl hz, Kd_put (it := qI n tg l.n ms) h1]
    have n1 : (sIf (tB_ (eOp opEq (eOp opIx (eVar 3) (eC (.int 0))) (eC g_LOT))) (sSeq (sAsg (gSub_ (eVar 2) (eOp opIx (eVar 3) (eC (.int 1)))) (eTup (aCons (eC g_LOT) (aCons (eOp opIx (eVar 3) (eC (.int 2))) aNil)))) sNil) sNil) (δK xs k s.length (some (qI n tg l.n ms))) (wK s (Kd L)) = .ok (.nx, δK xs k s.length (some (qI n tg l.n ms))) (wK s (Kd L)) := by kernel_rfl
    have t2 : (tB_ (eOp opEq (eOp opIx (eVar 3) (eC (.int 0))) (eC g_PIPE))) (δK xs k s.length (some (qI n tg l.n ms))) (wK s (Kd L)) = .ok true (wK s (Kd L)) := by kernel_rfl
    unfold bMK
    rw [seq_nx n1, seq_nx ((if_t t2).trans (seq_one s2))]
    kernel_rfl
theorem mkG_run (h : Ses ys P L) (hl : ys.length ≤ 900) : L.length ≤ ys.length ∧ ∃ x, Turns (gNm 3) bMK ys (δK xs k s.length none) (wK s []) (δK xs k s.length x) (wK s (Kd L)) := by
  induction h with
  | nil => exact ⟨Nat.le_refl _, none, .nil _ _⟩
  | snoc r o ih =>
    rw [List.length_append, List.length_singleton] at hl
    obtain ⟨h1, x, t⟩ := ih (by omega)
    have hs := mkG_one (xs := xs) (k := k) (s := s) o r.nd.2 (by omega)
    refine ⟨?_, _, t.app (.one (δa := δK xs k s.length (some _)) (wa := wK s _) rfl hs)⟩
    cases o <;> simp only [List.length_append, List.length_singleton] <;> omega
theorem kindsG_ok (hl : xs.length ≤ 900) (hy : xs.take k = ys) (h : Ses ys P L) : F_made_kinds [.tup xs, .int (k : Nat)] s = .ok (.loc s.length) ⟨s ++ [.dK (Kd L)], []⟩ := by
  have hly : ys.length ≤ 900 := by rw [← hy, List.length_take]; omega
  obtain ⟨_, x, t⟩ := mkG_run (xs := xs) (k := k) (s := s) h hly
  have e1 : (sSet 2 (eLocK kNew)) [some (.tup xs), some (.int (k : Nat)), none, none] ⟨s, []⟩ = .ok (.nx, δK xs k s.length none) (wK s []) := rfl
  have e2 : (sFor (iSeq (eSlA (eVar 0) oNone (oSome (eVar 1)))) (gNm 3) bMK) (δK xs k s.length none) (wK s []) = .ok (.nx, δK xs k s.length x) (wK s (Kd L)) := by
    rw [for_run iSl_take, hy]
    exact t.run
  have e3 : (sRet (eVar 2)) (δK xs k s.length x) (wK s (Kd L)) = .ok (.rt (.loc s.length), δK xs k s.length x) (wK s (Kd L)) := rfl
  have e4 : m_made_kinds [some (.tup xs), some (.int (k : Nat)), none, none] ⟨s, []⟩ = .ok (.rt (.loc s.length), δK xs k s.length x) (wK s (Kd L)) := by
    unfold m_made_kinds
    rw [seq_nx e1, seq_nx e2, seq_rt e3]
  exact fn_rt (nl := 4) (np := 2) (m := m_made_kinds) (ds := [.tup xs, .int (k : Nat)]) (δ0 := [some (.tup xs), some (.int (k : Nat)), none, none]) rfl rfl e4 rfl
theorem ti_ok (hl : xs.length ≤ 900) (hy : xs.take k = ys) (h : Ses ys P L) : F_told_items [.tup xs, .int (k : Nat)] s = .ok (.loc s.length) ⟨s ++ [.dK (Td L)], []⟩ := by
  have a1 : (aCons (eVar 0) (aCons (eVar 1) (aCons (eTup (aCons (eC g_LOT) (aCons (eC g_PIPE) aNil))) aNil))) [some (.tup xs), some (.int (k : Nat))] ⟨s, []⟩ = .ok [.tup xs, .int (k : Nat), WI] ⟨s, []⟩ := rfl
  have e1 : (sRet (eCall F_things_ahead (aCons (eVar 0) (aCons (eVar 1) (aCons (eTup (aCons (eC g_LOT) (aCons (eC g_PIPE) aNil))) aNil))))) [some (.tup xs), some (.int (k : Nat))] ⟨s, []⟩ = .ok (.rt (.loc s.length), [some (.tup xs), some (.int (k : Nat))]) ⟨s ++ [.dK (Td L)], []⟩ := by
    unfold sRet
    rw [callF_ok2 a1 (lots_ok hl hy (.inr rfl) h s) (.inl rfl), bind_ok]
  have em : m_told_items [some (.tup xs), some (.int (k : Nat))] ⟨s, []⟩ = .ok (.rt (.loc s.length), [some (.tup xs), some (.int (k : Nat))]) ⟨s ++ [.dK (Td L)], []⟩ := by
    unfold m_told_items
    rw [seq_rt e1]
  exact fn_rt (nl := 2) (np := 2) (m := m_told_items) (ds := [.tup xs, .int (k : Nat)]) (δ0 := [some (.tup xs), some (.int (k : Nat))]) rfl rfl em rfl
theorem Ses.hd (h : Ses ys P L) : ∀ l ∈ L, ∃ r, l.it = .tup (.str l.kd :: r) := by
  induction h with
  | nil => exact fun _ h => nomatch h
  | snoc r o ih =>
    cases o with
    | poly n fs h1 h2 _ => exact ih
    | lot n p told h1 h2 _ => exact fun l hl => (List.mem_append.mp hl).elim (ih l) fun z => by rw [List.mem_singleton.mp z]; exact ⟨_, rfl⟩
    | pipe n tg v ms l h1 h2 h3 h4 _ => exact fun l hl => (List.mem_append.mp hl).elim (ih l) fun z => by rw [List.mem_singleton.mp z]; exact ⟨_, rfl⟩
end
/-! names compared -/
theorem py_strs {w : Wd} : ∀ zs : List Str, D.pyL w (zs.map D.str) = some (zs.map PyData.str)
  | [] => rfl
  | z :: zs => by
    rw [List.map_cons, D.pyL, py_strs zs]
    rfl
theorem lay_strs : ∀ {zs : List Str}, (∀ z ∈ zs, okN z = true) → PyData.canLayAll0 (zs.map PyData.str) = true
  | [], _ => rfl
  | z :: zs, h => by
    have h1 := okN_c (h z List.mem_cons_self)
    have ih := lay_strs fun y hy => h y (List.mem_cons_of_mem _ hy)
    show (PyData.canLay0 (.str z) && PyData.canLayAll0 (zs.map PyData.str)) = true
    rw [h1, ih]
    rfl
theorem dep_strs : ∀ zs : List Str, PyData.depthAll (zs.map PyData.str) = 0
  | [] => rfl
  | z :: zs => by
    show max 0 (PyData.depthAll (zs.map PyData.str)) = 0
    rw [dep_strs zs]
    rfl
theorem eqv_strs : ∀ zs : List Str, PyData.eqvAll (zs.map PyData.str) (zs.map PyData.str) = true
  | [] => rfl
  | z :: zs => by
    show (PyData.eqv (.str z) (.str z) && PyData.eqvAll (zs.map PyData.str) (zs.map PyData.str)) = true
    rw [eqv_strs zs]
    show ((z == z) && true) = true
    simp
theorem ne_strs {zs : List Str} {w : Wd} (h : ∀ z ∈ zs, okN z = true) : opNe (.lst (zs.map D.str)) (.lst (zs.map D.str)) w = .ok (.bl false) w := by
  have e1 : (D.lst (zs.map D.str)).py w = some (.list (zs.map PyData.str)) := by
    rw [D.py, py_strs]
    rfl
  have e2 : SeqAt.shaped (.list (zs.map PyData.str)) = true := by
    unfold SeqAt.shaped
    rw [Bool.and_eq_true]
    refine ⟨lay_strs h, decide_eq_true ?_⟩
    show PyData.depthAll (zs.map PyData.str) + 1 ≤ 64
    rw [dep_strs]
    omega
  show (match (D.lst (zs.map D.str)).py w, (D.lst (zs.map D.str)).py w with
    | some p, some q => if (SeqAt.shaped p && SeqAt.shaped q) = true then Res.ok (D.bl (if true then !PyData.eqv p q else PyData.eqv p q)) w else .stuck
    | _, _ => .stuck) = _
  rw [e1]
  show (if (SeqAt.shaped (.list (zs.map PyData.str)) && SeqAt.shaped (.list (zs.map PyData.str))) = true then Res.ok (D.bl (!PyData.eqvAll (zs.map PyData.str) (zs.map PyData.str))) w else .stuck) = _
  rw [e2, eqv_strs]
  rfl
end Lk04

set_option Elab.async false
set_option linter.all false
set_option maxRecDepth 100000
set_option maxHeartbeats 0
/-! k04: one lap of the law (texts of the mirrors printed). -/
namespace Lk04
open PySem L2 DP
def aa0 : MS := (sSet 3 (eOwn (fLst (aCons (eTup (aCons (eC (.str "poly")) (aCons (eC (.str "f")) (aCons (eTup (aCons (eTup (aCons (eTup (aCons (eTup (aCons (eC (.int 1)) (aCons (eC (.int 1)) aNil))) aNil)) (aCons (eC (.int 1)) aNil))) aNil)) aNil)))) (aCons (eTup (aCons (eC (.str "lot")) (aCons (eC (.str "w")) (aCons (eC (.int 3)) (aCons (eTup (aCons (eC (.str "least")) (aCons (eC (.str "f")) (aCons (eC (.int 1)) aNil)))) aNil))))) aNil)))))
def aa1 : MS := (sExpr (eMt "list" opAppend (eVar 3) (aCons (eTup (aCons (eC (.str "lot")) (aCons (eC (.str "u")) (aCons (eC (.int 2)) (aCons (eTup (aCons (eC (.str "just")) (aCons (eC (.str "f")) (aCons (eC (.int 0)) aNil)))) aNil))))) aNil)))
def aa2 : MS := (sAsg (gSq 3 (gCons_ (gNm 8) (gCons_ (gNm 9) (gCons_ (gNm 10) gNil_)))) (eTup (aCons (eLocK (kDisp [((eC (.str "f")), (eOp opIx (eVar 3) (eC (.int 0))))])) (aCons (eLocK (kDisp [((eC (.str "w")), (eC (.int 3))), ((eC (.str "u")), (eC (.int 2)))])) (aCons (eC .non) aNil)))))
def aa3 : MS := (sFor (iRange2 (aCons (eC (.int 3)) (aCons (eC (.int 10)) aNil))) (gNm 4) lawB)
def aa4 : MS := (sPar 12 13 (aCons (eB opTuple (aCons (eVar 3) aNil)) (aCons (eOp opSub (eB opLen (aCons (eVar 3) aNil)) (eB opInt (aCons (eOp (opIs true) (eVar 10) (eC .non)) aNil))) aNil)))
def aa5 : MS := (sSet 5 (eIf (tB_ (eOp (opIs true) (eVar 10) (eC .non))) (eTup (aCons (eTup (aCons (eC (.str "first")) (aCons (eC (.str "w")) aNil))) (aCons (eTup (aCons (eC (.str "lot")) (aCons (eC (.str "w")) (aCons (eC (.int 4)) (aCons (eTup (aCons (eC (.str "least")) (aCons (eC (.str "zz")) (aCons (eC (.int 0)) aNil)))) aNil))))) (aCons (eTup (aCons (eC (.str "empty")) (aCons (eC (.str "u")) aNil))) aNil)))) (eTup aNil)))
def aa6 : MS := (sIf (tB_ (eOp opNe (eB opRepr (aCons (eCallP F_wrong_item (aCons (eOp opAdd (eVar 12) (eVar 5)) aNil)) aNil)) (eB opRepr (aCons (eVar 10) aNil)))) (sSeq (sRet (eC (.bl false))) sNil) sNil)
def aa7 : MS := (sIf (tB_ (eOp opNe (eB opRepr (aCons (eFrz (fItems (eCall F_told_polys (aCons (eVar 12) (aCons (eVar 13) aNil))))) aNil)) (eB opRepr (aCons (eFrz (fItems (eVar 8))) aNil)))) (sSeq (sRet (eC (.bl false))) sNil) sNil)
def aa8 : MS := (sSet 6 (eCall F_told_items (aCons (eVar 12) (aCons (eVar 13) aNil))))
def aa9 : MS := (sIf (tB_ (eOp opNe (eFrz (fB opList (aCons (eVar 6) aNil))) (eFrz (fB opList (aCons (eVar 9) aNil))))) (sSeq (sRet (eC (.bl false))) sNil) sNil)
def aa10 : MS := (withLk 9 (sSet 7 (eFrz (fComp (iKeysL (eVar 9)) (gNm 11) tYes_ (eTup (aCons (eVar 11) (aCons (eTup (aCons (eIf (tB_ (eOp opEq (eOp opIx (eOp opIx (eVar 6) (eVar 11)) (eC (.int 0))) (eC (.str "pipe")))) (eC (.str "pipe")) (eC (.str "lot"))) (aCons (eOp opIx (eVar 9) (eVar 11)) aNil))) aNil))) [11]))))
def aa11 : MS := (sIf (tB_ (eOp opNe (eB opRepr (aCons (eFrz (fItems (eCall F_made_kinds (aCons (eVar 12) (aCons (eVar 13) aNil))))) aNil)) (eB opRepr (aCons (eVar 7) aNil)))) (sSeq (sRet (eC (.bl false))) sNil) sNil)
def lapB : MS := (sSeq aa0 (sSeq aa1 (sSeq aa2 (sSeq aa3 (sSeq aa4 (sSeq aa5 (sSeq aa6 (sSeq aa7 (sSeq aa8 (sSeq aa9 (sSeq aa10 (sSeq aa11 sNil))))))))))))
theorem law_M : m_law = (sSeq (sSet 1 (eCall F__law_source (aCons (eVar 0) aNil))) (sSeq (sFor (iRange1 (aCons (eC (.int 4)) aNil)) (gNm 2) lapB) (sSeq (sRet (eC (.bl true))) sNil))) := rfl
def kdE : ME := (eTup (aCons (eVar 11) (aCons (eTup (aCons (eIf (tB_ (eOp opEq (eOp opIx (eOp opIx (eVar 6) (eVar 11)) (eC (.int 0))) (eC (.str "pipe")))) (eC (.str "pipe")) (eC (.str "lot"))) (aCons (eOp opIx (eVar 9) (eVar 11)) aNil))) aNil)))

theorem getL {α : Type} {R Y : List α} {j : Nat} {o : α} (h : R[j]? = some o) : (R ++ Y)[j]? = some o := by
  obtain ⟨hj, _⟩ := List.getElem?_eq_some_iff.mp h
  rw [List.getElem?_append_left hj]
  exact h
theorem ix_lk {n : Nat} {w : Wd} {kvs : List (Key × D)} {y : Str} {d : D} (h : w.s[n]? = some (.lk kvs)) (hv : valD kvs (.inr y) = some d) : opIx (.loc n) (.str y) w = .ok d w := by
  have e0 : lstOf w (.loc n) = none := by
    show soL w.s[n]? = _
    rw [h]
    rfl
  have e1 : dKof w (.loc n) = some kvs := by
    show soK w.s[n]? = _
    rw [h]
    rfl
  show (match lstOf w (.loc n), D.str y with
    | some xs, .int i => (match L2.atI xs i with
      | some d => Res.ok d w
      | none => .stuck)
    | _, _ => opIxD (.loc n) (.str y) w) = _
  rw [e0]
  show (match dKof w (.loc n), keyD (.str y) with
    | some kvs, some k => (match valD kvs k with
      | some d => Res.ok d w
      | none => .stuck)
    | _, _ => .stuck) = _
  rw [e1]
  show (match valD kvs (.inr y) with
      | some d => Res.ok d w
      | none => .stuck) = _
  rw [hv]
theorem items_ok {m : ME} {δ : DP.Env} {w w1 : Wd} {j : Nat} {kvs : List (Key × D)} (h : m δ w = .ok (.loc j) w1) (hj : w1.s[j]? = some (.dK kvs)) : eFrz (fItems m) δ w = .ok (.lst (kvs.map fun kv => .tup [kD kv.1, kv.2])) w1 := by
  refine frz_ok ?_
  unfold fItems
  rw [h, bind_ok]
  have g : w1.get (.loc j) = some (.dK kvs) := hj
  rw [g]
theorem list_dk {m : ME} {δ : DP.Env} {w w1 : Wd} {j : Nat} {kvs : List (Key × D)} (h : m δ w = .ok (.loc j) w1) (hj : w1.s[j]? = some (.dK kvs)) : eFrz (fB opList (aCons m aNil)) δ w = .ok (.lst (kvs.map fun kv : Key × D => keyOf kv.1)) w1 := by
  refine frz_ok ?_
  unfold fB
  rw [acons_ok h anil_ok, bind_ok]
  have e0 : seqOf w1 (.loc j) = none := by
    show soL w1.s[j]? = _
    rw [hj]
    rfl
  have e1 : dKof w1 (.loc j) = some kvs := by
    show soK w1.s[j]? = _
    rw [hj]
    rfl
  show (match seqOf w1 (.loc j) with
    | some xs => Res.ok xs w1
    | none => (match dKof w1 (.loc j) with
      | some kvs => .ok (kvs.map fun kv : Key × D => keyOf kv.1) w1
      | none => .stuck)) = _
  rw [e0]
  show (match dKof w1 (.loc j) with
      | some kvs => Res.ok (kvs.map fun kv : Key × D => keyOf kv.1) w1
      | none => .stuck) = _
  rw [e1]
/-- the same list shown twice -/
theorem ne_list {m n : ME} {δ : DP.Env} {w w1 : Wd} {xs : List D} (hm : m δ w = .ok (.lst xs) w1) (hn : n δ w1 = .ok (.lst xs) w1) (h1 : lvL xs = true) (h2 : nzL xs ≤ 30000) (h3 : dpL xs ≤ 30) : tB_ (eOp opNe (eB opRepr (aCons m aNil)) (eB opRepr (aCons n aNil))) δ w = .ok false w1 := by
  obtain ⟨p, e1, e2, e3, e4⟩ := shows (.lst xs) w1 70 (by rw [lv]; exact h1) (by rw [dpD]; omega)
  rw [dpD] at e3
  rw [nz] at e4
  exact ne_rp hm hn e1 e1 (okShown_of e2 (by omega) (n := 64 * 30001) (by omega) (by omega))
def PX (P : List Pt) : List D := P.map fun q => .tup [.str q.n, q.it]
def KX (L : List Lt) : List D := L.map fun q => .tup [.str q.n, .tup [.str q.kd, .int q.p]]
theorem PX_eq (P : List Pt) : (Pd P).map (fun kv : Key × D => D.tup [kD kv.1, kv.2]) = PX P := by
  unfold Pd PX
  rw [List.map_map]
  rfl
theorem KX_eq (L : List Lt) : (Kd L).map (fun kv : Key × D => D.tup [kD kv.1, kv.2]) = KX L := by
  unfold Kd KX
  rw [List.map_map]
  rfl
theorem PX_sm {ys : List D} {P : List Pt} {L : List Lt} (I : Inv ys P L) (hy : ys.length ≤ 10) : lvL (PX P) = true ∧ nzL (PX P) ≤ 30000 ∧ dpL (PX P) ≤ 30 := by
  have hP := I.h.len.1
  have h1 := lv_map (f := fun q : Pt => D.tup [.str q.n, q.it]) (xs := P) fun q hq => by
    simp only [lv, lvL, Bool.and_true]
    rw [okN_l (I.p q hq).2, (I.p q hq).1.1]
    rfl
  have h2 := nz_map (f := fun q : Pt => D.tup [.str q.n, q.it]) (xs := P) (n := 2020) fun q hq => by
    simp only [nz, nzL]
    have := (I.p q hq).1.2.1
    omega
  have h3 := dp_map (f := fun q : Pt => D.tup [.str q.n, q.it]) (xs := P) (n := 15) fun q hq => by
    simp only [dpD, dpL]
    have := (I.p q hq).1.2.2
    omega
  refine ⟨h1, Nat.le_trans h2 ?_, Nat.le_trans h3 (by omega)⟩
  omega
theorem KX_sm {ys : List D} {P : List Pt} {L : List Lt} (I : Inv ys P L) (hy : ys.length ≤ 10) : lvL (KX L) = true ∧ nzL (KX L) ≤ 30000 ∧ dpL (KX L) ≤ 30 := by
  have hL := I.h.len.2
  have h1 := lv_map (f := fun q : Lt => D.tup [.str q.n, .tup [.str q.kd, .int q.p]]) (xs := L) fun q hq => by
    simp only [lv, lvL, Bool.and_true]
    have hp := (I.l q hq).2
    rw [okN_l (I.l q hq).1, lfI_of (by omega) (by omega)]
    rcases I.h.kds q hq with e | e <;> rw [e] <;> kernel_rfl
  have h2 := nz_map (f := fun q : Lt => D.tup [.str q.n, .tup [.str q.kd, .int q.p]]) (xs := L) (n := 5) fun q hq => by
    simp only [nz, nzL]
    omega
  have h3 := dp_map (f := fun q : Lt => D.tup [.str q.n, .tup [.str q.kd, .int q.p]]) (xs := L) (n := 5) fun q hq => by
    simp only [dpD, dpL]
    omega
  refine ⟨h1, Nat.le_trans h2 ?_, Nat.le_trans h3 (by omega)⟩
  omega
theorem NX_T (L : List Lt) : (Td L).map (fun kv : Key × D => keyOf kv.1) = (L.map (·.n)).map D.str := by
  unfold Td
  rw [List.map_map, List.map_map]
  rfl
theorem NX_Q (L : List Lt) : (Qd L).map (fun kv : Key × D => keyOf kv.1) = (L.map (·.n)).map D.str := by
  unfold Qd
  rw [List.map_map, List.map_map]
  rfl
end Lk04

set_option Elab.async false
set_option linter.all false
set_option maxRecDepth 100000
set_option maxHeartbeats 0
/-! k04: one lap of the law, its begin and its end. -/
namespace Lk04
open PySem L2 DP
def i0 : D := .tup [.str "poly", .str "f", .tup [.tup [.tup [.tup [.int 1, .int 1]], .int 1]]]
def i1 : D := .tup [.str "lot", .str "w", .int 3, .tup [.str "least", .str "f", .int 1]]
def i2 : D := .tup [.str "lot", .str "u", .int 2, .tup [.str "just", .str "f", .int 0]]
def P0 : List Pt := [⟨"f", i0⟩]
def L0 : List Lt := [⟨"w", "lot", 3, i1⟩, ⟨"u", "lot", 2, i2⟩]
theorem inv0 : Inv [i0, i1, i2] P0 L0 := by
  refine ⟨?_, ?_, ?_⟩
  · have a0 : Ses [i0] P0 [] := .snoc .nil (.poly "f" [.tup [.tup [.tup [.int 1, .int 1]], .int 1]] (fun _ h => nomatch h) rfl (fun r => by kernel_rfl))
    have a1 : Ses [i0, i1] P0 [⟨"w", "lot", 3, i1⟩] := .snoc a0 (.lot "w" 3 (.tup [.str "least", .str "f", .int 1]) (fun _ h => nomatch h) rfl (fun r => by kernel_rfl))
    exact .snoc a1 (.lot "u" 2 (.tup [.str "just", .str "f", .int 0]) (fun q hq => by rw [List.mem_singleton.mp hq]; decide) rfl (fun r => by kernel_rfl))
  · intro q hq
    rw [List.mem_singleton.mp hq]
    exact ⟨⟨by kernel_rfl, by decide, by decide⟩, by kernel_rfl⟩
  · intro q hq
    unfold L0 at hq
    simp only [List.mem_cons, List.not_mem_nil, or_false] at hq
    rcases hq with rfl | rfl
    · exact ⟨by kernel_rfl, by decide, by decide⟩
    · exact ⟨by kernel_rfl, by decide, by decide⟩
theorem ix_own {k n : Nat} {w : Wd} {xs : List D} {d : D} (h : w.l[k]? = some (.lst xs)) (hn : xs[n]? = some d) : opIx (.own k) (.int (n : Nat)) w = .ok d w := by
  obtain ⟨hl, e⟩ := List.getElem?_eq_some_iff.mp hn
  have e0 : lstOf w (.own k) = some xs := by
    show soL w.l[k]? = _
    rw [h]
    rfl
  show (match lstOf w (.own k), D.int (n : Nat) with
    | some xs, .int i => (match L2.atI xs i with
      | some d => Res.ok d w
      | none => .stuck)
    | _, _ => opIxD (.own k) (.int (n : Nat)) w) = _
  rw [e0]
  show (match L2.atI xs (n : Int) with
      | some d => Res.ok d w
      | none => .stuck) = _
  rw [atI_nat hl, e]
section
variable {ns : List Int} {rest olds : List SO} {x2 x3 x4 x5 x6 x7 x8 x9 x10 x11 x12 x13 x14 x15 x16 x17 x18 : Option D} {c : List Int} {l m t : Int}
theorem lap_begin : ∀ r, (sSeq aa0 (sSeq aa1 (sSeq aa2 r))) (δV ns x2 x3 x4 x5 x6 x7 x8 x9 x10 x11 x12 x13 x14 x15 x16 x17 x18) ⟨src c l m t rest, olds⟩ = r (δV ns x2 (some (.own olds.length)) x4 x5 x6 x7 (some (.loc (rest.length + 2))) (some (.loc (rest.length + 3))) (some .non) x11 x12 x13 x14 x15 x16 x17 x18) ⟨src c l m t (SR rest P0 L0), olds ++ [.lst [i0, i1, i2]]⟩ := by
  intro r
  have s0 : aa0 (δV ns x2 x3 x4 x5 x6 x7 x8 x9 x10 x11 x12 x13 x14 x15 x16 x17 x18) ⟨src c l m t rest, olds⟩ = .ok (.nx, δV ns x2 (some (.own olds.length)) x4 x5 x6 x7 x8 x9 x10 x11 x12 x13 x14 x15 x16 x17 x18) ⟨src c l m t rest, olds ++ [.lst [i0, i1]]⟩ := by kernel_rfl
  have s1 : aa1 (δV ns x2 (some (.own olds.length)) x4 x5 x6 x7 x8 x9 x10 x11 x12 x13 x14 x15 x16 x17 x18) ⟨src c l m t rest, olds ++ [.lst [i0, i1]]⟩ = .ok (.nx, δV ns x2 (some (.own olds.length)) x4 x5 x6 x7 x8 x9 x10 x11 x12 x13 x14 x15 x16 x17 x18) ⟨src c l m t rest, olds ++ [.lst [i0, i1, i2]]⟩ := by
    have := app_lst (i := 3) (k := olds.length) (xs := [i0, i1]) (x := i2) (ma := (aCons (eTup (aCons (eC (.str "lot")) (aCons (eC (.str "u")) (aCons (eC (.int 2)) (aCons (eTup (aCons (eC (.str "just")) (aCons (eC (.str "f")) (aCons (eC (.int 0)) aNil)))) aNil))))) aNil)) (δ := δV ns x2 (some (.own olds.length)) x4 x5 x6 x7 x8 x9 x10 x11 x12 x13 x14 x15 x16 x17 x18) (s := src c l m t rest) (s' := src c l m t rest) (l := olds ++ [.lst [i0, i1]]) rfl get_one (by kernel_rfl) (by simp)
    rw [set_one] at this
    exact this
  have k1 : (eLocK (kDisp [((eC (.str "f")), (eOp opIx (eVar 3) (eC (.int 0))))])) (δV ns x2 (some (.own olds.length)) x4 x5 x6 x7 x8 x9 x10 x11 x12 x13 x14 x15 x16 x17 x18) ⟨src c l m t rest, olds ++ [.lst [i0, i1, i2]]⟩ = .ok (.loc (rest.length + 2)) ⟨src c l m t (rest ++ [.dK (Pd P0)]), olds ++ [.lst [i0, i1, i2]]⟩ := by
    have e : (eOp opIx (eVar 3) (eC (.int 0))) (δV ns x2 (some (.own olds.length)) x4 x5 x6 x7 x8 x9 x10 x11 x12 x13 x14 x15 x16 x17 x18) ⟨src c l m t rest, olds ++ [.lst [i0, i1, i2]]⟩ = .ok i0 ⟨src c l m t rest, olds ++ [.lst [i0, i1, i2]]⟩ :=
      op2_ok (x := .own olds.length) (y := .int 0) (w1 := ⟨src c l m t rest, olds ++ [.lst [i0, i1, i2]]⟩) (w2 := ⟨src c l m t rest, olds ++ [.lst [i0, i1, i2]]⟩) rfl rfl (ix_own (n := 0) (xs := [i0, i1, i2]) get_one rfl)
    have e2 : (kDisp [((eC (.str "f")), (eOp opIx (eVar 3) (eC (.int 0))))]) (δV ns x2 (some (.own olds.length)) x4 x5 x6 x7 x8 x9 x10 x11 x12 x13 x14 x15 x16 x17 x18) ⟨src c l m t rest, olds ++ [.lst [i0, i1, i2]]⟩ = .ok (Pd P0) ⟨src c l m t rest, olds ++ [.lst [i0, i1, i2]]⟩ := by
      unfold kDisp pairsM
      show Res.bind (Res.bind ((eOp opIx (eVar 3) (eC (.int 0))) (δV ns x2 (some (.own olds.length)) x4 x5 x6 x7 x8 x9 x10 x11 x12 x13 x14 x15 x16 x17 x18) ⟨src c l m t rest, olds ++ [.lst [i0, i1, i2]]⟩) _) _ = _
      rw [e]
      rfl
    unfold eLocK
    rw [e2]
    rfl
  have k2 : (eLocK (kDisp [((eC (.str "w")), (eC (.int 3))), ((eC (.str "u")), (eC (.int 2)))])) (δV ns x2 (some (.own olds.length)) x4 x5 x6 x7 x8 x9 x10 x11 x12 x13 x14 x15 x16 x17 x18) ⟨src c l m t (rest ++ [.dK (Pd P0)]), olds ++ [.lst [i0, i1, i2]]⟩ = .ok (.loc (rest.length + 3)) ⟨src c l m t (SR rest P0 L0), olds ++ [.lst [i0, i1, i2]]⟩ := by
    have e2 : (kDisp [((eC (.str "w")), (eC (.int 3))), ((eC (.str "u")), (eC (.int 2)))]) (δV ns x2 (some (.own olds.length)) x4 x5 x6 x7 x8 x9 x10 x11 x12 x13 x14 x15 x16 x17 x18) ⟨src c l m t (rest ++ [.dK (Pd P0)]), olds ++ [.lst [i0, i1, i2]]⟩ = .ok (Qd L0) ⟨src c l m t (rest ++ [.dK (Pd P0)]), olds ++ [.lst [i0, i1, i2]]⟩ := by kernel_rfl
    have hl : (src c l m t (rest ++ [.dK (Pd P0)])).length = rest.length + 3 := by
      show (rest ++ [SO.dK (Pd P0)]).length + 1 + 1 = _
      rw [List.length_append, List.length_singleton]
    have hs : src c l m t (rest ++ [.dK (Pd P0)]) ++ [.dK (Qd L0)] = src c l m t (SR rest P0 L0) := by
      show _ :: _ :: ((rest ++ [SO.dK (Pd P0)]) ++ [SO.dK (Qd L0)]) = _
      rw [List.append_assoc]
      rfl
    have e3 : (eLocK (kDisp [((eC (.str "w")), (eC (.int 3))), ((eC (.str "u")), (eC (.int 2)))])) (δV ns x2 (some (.own olds.length)) x4 x5 x6 x7 x8 x9 x10 x11 x12 x13 x14 x15 x16 x17 x18) ⟨src c l m t (rest ++ [.dK (Pd P0)]), olds ++ [.lst [i0, i1, i2]]⟩ = .ok (.loc (src c l m t (rest ++ [.dK (Pd P0)])).length) ⟨src c l m t (rest ++ [.dK (Pd P0)]) ++ [.dK (Qd L0)], olds ++ [.lst [i0, i1, i2]]⟩ := by
      unfold eLocK
      rw [e2]
      rfl
    rw [e3, hl, hs]
  have s2 : aa2 (δV ns x2 (some (.own olds.length)) x4 x5 x6 x7 x8 x9 x10 x11 x12 x13 x14 x15 x16 x17 x18) ⟨src c l m t rest, olds ++ [.lst [i0, i1, i2]]⟩ = .ok (.nx, δV ns x2 (some (.own olds.length)) x4 x5 x6 x7 (some (.loc (rest.length + 2))) (some (.loc (rest.length + 3))) (some .non) x11 x12 x13 x14 x15 x16 x17 x18) ⟨src c l m t (SR rest P0 L0), olds ++ [.lst [i0, i1, i2]]⟩ :=
    sq3_ok (tup_ok (acons_ok k1 (acons_ok k2 (acons_ok (d := .non) rfl anil_ok))) (by simp))
  rw [seq_nx s0, seq_nx s1, seq_nx s2]
theorem rng3 {δ : DP.Env} {w : Wd} : (iRange2 (aCons (eC (.int 3)) (aCons (eC (.int 10)) aNil))) δ w = .ok (intsF 3 7) w := by kernel_rfl
end
end Lk04

set_option Elab.async false
set_option linter.all false
set_option maxRecDepth 100000
set_option maxHeartbeats 0
/-! k04: one lap of the law: its checks. -/
namespace Lk04
open PySem L2 DP
def tail3 : List D := [.tup [.str "first", .str "w"], .tup [.str "lot", .str "w", .int 4, .tup [.str "least", .str "zz", .int 0]], .tup [.str "empty", .str "u"]]
theorem add_tt {a b : List D} {w : Wd} (h : a.length + b.length ≤ 1000) : opAdd (.tup a) (.tup b) w = .ok (.tup (a ++ b)) w := by
  show (if a.length + b.length ≤ sizeLine then Res.ok (D.tup (a ++ b)) w else .stuck) = _
  rw [if_pos (Nat.le_trans h (by decide))]
theorem tup_own {m : ME} {δ : DP.Env} {w w1 : Wd} {k : Nat} {xs : List D} (h : m δ w = .ok (.own k) w1) (hk : w1.l[k]? = some (.lst xs)) : eB opTuple (aCons m aNil) δ w = .ok (.tup xs) w1 := by
  unfold eB
  rw [acons_ok h anil_ok, bind_ok]
  have e0 : seqOf w1 (.own k) = some xs := by
    show soL w1.l[k]? = _
    rw [hk]
    rfl
  show (match seqOf w1 (.own k) with
    | some xs => Res.ok (D.tup xs) w1
    | none => .stuck) = _
  rw [e0]
theorem len_own {m : ME} {δ : DP.Env} {w w1 : Wd} {k : Nat} {xs : List D} (h : m δ w = .ok (.own k) w1) (hk : w1.l[k]? = some (.lst xs)) : eB opLen (aCons m aNil) δ w = .ok (.int (xs.length : Nat)) w1 := by
  unfold eB
  rw [acons_ok h anil_ok, bind_ok]
  have e0 : seqOf w1 (.own k) = some xs := by
    show soL w1.l[k]? = _
    rw [hk]
    rfl
  show (match seqOf w1 (.own k) with
      | some xs => Res.ok (D.int (xs.length : Nat)) w1
      | none => (match dKof w1 (.own k) with
        | some kvs => .ok (.int (kvs.length : Nat)) w1
        | none => .stuck)) = _
  rw [e0]
section
variable {ns : List Int} {x2 x3 x4 x5 x6 x7 x8 x9 x10 x11 x12 x13 x14 x15 x16 x17 x18 : Option D} {S olds : List SO} {ys items : List D} {P : List Pt} {L : List Lt} {due : D}
/-- A4, A5, A6 -/
theorem lap_wrong (hF : Fin items P L due) : ∃ (ys tail : List D), Inv ys P L ∧ ys.length ≤ 10 ∧ items.length ≤ 11 ∧ items.take ys.length = ys ∧ D.clL items = true ∧
    ∀ r, (sSeq aa4 (sSeq aa5 (sSeq aa6 r))) (δV ns x2 (some (.own olds.length)) x4 x5 x6 x7 x8 x9 (some due) x11 x12 x13 x14 x15 x16 x17 x18) ⟨S, olds ++ [.lst items]⟩ = r (δV ns x2 (some (.own olds.length)) x4 (some (.tup tail)) x6 x7 x8 x9 (some due) x11 (some (.tup items)) (some (.int (ys.length : Nat))) x14 x15 x16 x17 x18) ⟨S, olds ++ [.lst items]⟩ := by
  obtain ⟨ys, I, hl, h⟩ := hF
  rcases h with ⟨rfl, rfl⟩ | ⟨x, a, b, rfl, rfl, hx, ha, hb, hs, hbad⟩
  · refine ⟨items, [], I, hl, by omega, List.take_length, pu_clL I.h.pu, fun r => ?_⟩
    have s4 : aa4 (δV ns x2 (some (.own olds.length)) x4 x5 x6 x7 x8 x9 (some .non) x11 x12 x13 x14 x15 x16 x17 x18) ⟨S, olds ++ [.lst items]⟩ = .ok (.nx, δV ns x2 (some (.own olds.length)) x4 x5 x6 x7 x8 x9 (some .non) x11 (some (.tup items)) (some (.int (items.length : Nat))) x14 x15 x16 x17 x18) ⟨S, olds ++ [.lst items]⟩ := by
      refine par_ok (acons_ok (tup_own (w1 := ⟨S, olds ++ [.lst items]⟩) rfl get_one) (acons_ok (w1 := ⟨S, olds ++ [.lst items]⟩) (op2_ok (x := .int (items.length : Nat)) (y := .int 0) (w1 := ⟨S, olds ++ [.lst items]⟩) (w2 := ⟨S, olds ++ [.lst items]⟩) (len_own rfl get_one) (by kernel_rfl) ?_) anil_ok))
      show Res.ok (D.int ((items.length : Nat) - 0)) _ = _
      rw [Int.sub_zero]
    have s5 : aa5 (δV ns x2 (some (.own olds.length)) x4 x5 x6 x7 x8 x9 (some .non) x11 (some (.tup items)) (some (.int (items.length : Nat))) x14 x15 x16 x17 x18) ⟨S, olds ++ [.lst items]⟩ = .ok (.nx, δV ns x2 (some (.own olds.length)) x4 (some (.tup [])) x6 x7 x8 x9 (some .non) x11 (some (.tup items)) (some (.int (items.length : Nat))) x14 x15 x16 x17 x18) ⟨S, olds ++ [.lst items]⟩ := by kernel_rfl
    have s6 : aa6 (δV ns x2 (some (.own olds.length)) x4 (some (.tup [])) x6 x7 x8 x9 (some .non) x11 (some (.tup items)) (some (.int (items.length : Nat))) x14 x15 x16 x17 x18) ⟨S, olds ++ [.lst items]⟩ = .ok (.nx, δV ns x2 (some (.own olds.length)) x4 (some (.tup [])) x6 x7 x8 x9 (some .non) x11 (some (.tup items)) (some (.int (items.length : Nat))) x14 x15 x16 x17 x18) ⟨S, olds ++ [.lst items]⟩ := by
      refine nil_f (ne_same (d := .non) ?_ rfl rfl (by kernel_rfl))
      have e1 : (eOp opAdd (eVar 12) (eVar 5)) (δV ns x2 (some (.own olds.length)) x4 (some (.tup [])) x6 x7 x8 x9 (some .non) x11 (some (.tup items)) (some (.int (items.length : Nat))) x14 x15 x16 x17 x18) ⟨S, olds ++ [.lst items]⟩ = .ok (.tup items) ⟨S, olds ++ [.lst items]⟩ := by
        refine op2_ok (x := .tup items) (y := .tup []) (w1 := ⟨S, olds ++ [.lst items]⟩) (w2 := ⟨S, olds ++ [.lst items]⟩) rfl rfl ?_
        rw [add_tt (by simp; omega), List.append_nil]
      rw [callP_m e1]
      exact ses_none I.h (by omega) _
    rw [seq_nx s4, seq_nx s5, seq_nx s6]
  · have hpu : D.puL (ys ++ [x]) = true := puL_app I.h.pu (by rw [D.puL, hx]; rfl)
    refine ⟨ys, tail3, I, hl, by rw [List.length_append, List.length_singleton]; omega, List.take_left, pu_clL hpu, fun r => ?_⟩
    have s4 : aa4 (δV ns x2 (some (.own olds.length)) x4 x5 x6 x7 x8 x9 (some (.tup [.int (ys.length : Nat), a, b])) x11 x12 x13 x14 x15 x16 x17 x18) ⟨S, olds ++ [.lst (ys ++ [x])]⟩ = .ok (.nx, δV ns x2 (some (.own olds.length)) x4 x5 x6 x7 x8 x9 (some (.tup [.int (ys.length : Nat), a, b])) x11 (some (.tup (ys ++ [x]))) (some (.int (ys.length : Nat))) x14 x15 x16 x17 x18) ⟨S, olds ++ [.lst (ys ++ [x])]⟩ := by
      refine par_ok (acons_ok (tup_own (w1 := ⟨S, olds ++ [.lst (ys ++ [x])]⟩) rfl get_one) (acons_ok (w1 := ⟨S, olds ++ [.lst (ys ++ [x])]⟩) (op2_ok (x := .int ((ys ++ [x]).length : Nat)) (y := .int 1) (w1 := ⟨S, olds ++ [.lst (ys ++ [x])]⟩) (w2 := ⟨S, olds ++ [.lst (ys ++ [x])]⟩) (len_own rfl get_one) (by kernel_rfl) ?_) anil_ok))
      show Res.ok (D.int (((ys ++ [x]).length : Nat) - 1)) _ = _
      rw [List.length_append, List.length_singleton, show (((ys.length + 1 : Nat) : Int) - 1) = (ys.length : Nat) by omega]
    have s5 : aa5 (δV ns x2 (some (.own olds.length)) x4 x5 x6 x7 x8 x9 (some (.tup [.int (ys.length : Nat), a, b])) x11 (some (.tup (ys ++ [x]))) (some (.int (ys.length : Nat))) x14 x15 x16 x17 x18) ⟨S, olds ++ [.lst (ys ++ [x])]⟩ = .ok (.nx, δV ns x2 (some (.own olds.length)) x4 (some (.tup tail3)) x6 x7 x8 x9 (some (.tup [.int (ys.length : Nat), a, b])) x11 (some (.tup (ys ++ [x]))) (some (.int (ys.length : Nat))) x14 x15 x16 x17 x18) ⟨S, olds ++ [.lst (ys ++ [x])]⟩ := by kernel_rfl
    have s6 : aa6 (δV ns x2 (some (.own olds.length)) x4 (some (.tup tail3)) x6 x7 x8 x9 (some (.tup [.int (ys.length : Nat), a, b])) x11 (some (.tup (ys ++ [x]))) (some (.int (ys.length : Nat))) x14 x15 x16 x17 x18) ⟨S, olds ++ [.lst (ys ++ [x])]⟩ = .ok (.nx, δV ns x2 (some (.own olds.length)) x4 (some (.tup tail3)) x6 x7 x8 x9 (some (.tup [.int (ys.length : Nat), a, b])) x11 (some (.tup (ys ++ [x]))) (some (.int (ys.length : Nat))) x14 x15 x16 x17 x18) ⟨S, olds ++ [.lst (ys ++ [x])]⟩ := by
      have hok : okR (.tup [.int (ys.length : Nat), a, b]) = true := by
        unfold smF at hs
        simp only [Bool.and_eq_true, decide_eq_true_eq] at hs
        obtain ⟨⟨⟨⟨h1, h2⟩, h3⟩, h4⟩, h5⟩ := hs
        refine okR_sm (n := 200) ⟨?_, ?_, ?_⟩ (by omega)
        · simp only [lv, lvL, Bool.and_true, h1, h2]
          exact lfI_of (by omega) (by omega)
        · simp only [nz, nzL]
          omega
        · simp only [dpD, dpL]
          omega
      refine nil_f (ne_same (d := .tup [.int (ys.length : Nat), a, b]) ?_ rfl (by simp [D.pu, D.puL, ha, hb]) hok)
      have e1 : (eOp opAdd (eVar 12) (eVar 5)) (δV ns x2 (some (.own olds.length)) x4 (some (.tup tail3)) x6 x7 x8 x9 (some (.tup [.int (ys.length : Nat), a, b])) x11 (some (.tup (ys ++ [x]))) (some (.int (ys.length : Nat))) x14 x15 x16 x17 x18) ⟨S, olds ++ [.lst (ys ++ [x])]⟩ = .ok (.tup (ys ++ x :: tail3)) ⟨S, olds ++ [.lst (ys ++ [x])]⟩ := by
        refine op2_ok (x := .tup (ys ++ [x])) (y := .tup tail3) (w1 := ⟨S, olds ++ [.lst (ys ++ [x])]⟩) (w2 := ⟨S, olds ++ [.lst (ys ++ [x])]⟩) rfl rfl ?_
        rw [add_tt (by rw [List.length_append, List.length_singleton]; show _ + 3 ≤ _; omega), List.append_assoc]
        rfl
      rw [callP_m e1]
      have hp2 : D.puL (ys ++ x :: tail3) = true := puL_app I.h.pu (by rw [D.puL, hx]; rfl)
      have hl2 : (ys ++ x :: tail3).length ≤ 900 := by rw [List.length_append]; show _ + 4 ≤ _; omega
      exact ses_bad I.h rfl hl2 hp2 ha hb (hbad _ tail3 rfl hl2 hp2) _
    rw [seq_nx s4, seq_nx s5, seq_nx s6]
end
end Lk04

set_option Elab.async false
set_option linter.all false
set_option maxRecDepth 100000
set_option maxHeartbeats 0
/-! k04: one lap of the law: names, polynomials, kinds told; the lap. -/
namespace Lk04
open PySem L2 DP
section
variable {ns : List Int} {x2 x3 x4 x5 x6 x7 x8 x9 x10 x11 x12 x13 x14 x15 x16 x17 x18 : Option D} {S O : List SO} {ys items : List D} {P : List Pt} {L : List Lt} {due : D} {jP jL : Nat}
theorem a7_ok (I : Inv ys P L) (hl : ys.length ≤ 10) (hi : items.length ≤ 11) (hy : items.take ys.length = ys) (hc : D.clL items = true) (hP : S[jP]? = some (.dK (Pd P))) : aa7 (δV ns x2 x3 x4 x5 x6 x7 (some (.loc jP)) x9 x10 x11 (some (.tup items)) (some (.int (ys.length : Nat))) x14 x15 x16 x17 x18) ⟨S, O⟩ = .ok (.nx, δV ns x2 x3 x4 x5 x6 x7 (some (.loc jP)) x9 x10 x11 (some (.tup items)) (some (.int (ys.length : Nat))) x14 x15 x16 x17 x18) ⟨S ++ [.dK (Pd P)], O⟩ := by
  have c1 : (eCall F_told_polys (aCons (eVar 12) (aCons (eVar 13) aNil))) (δV ns x2 x3 x4 x5 x6 x7 (some (.loc jP)) x9 x10 x11 (some (.tup items)) (some (.int (ys.length : Nat))) x14 x15 x16 x17 x18) ⟨S, O⟩ = .ok (.loc S.length) ⟨S ++ [.dK (Pd P)], O⟩ :=
    callF_ok (ds := [.tup items, .int (ys.length : Nat)]) rfl (tp_ok hc (polys_ok (by omega) hy I.h)) rfl (.inr (by simp [D.clL, D.cl, hc]))
  have m1 := items_ok c1 get_one
  have m2 : (eFrz (fItems (eVar 8))) (δV ns x2 x3 x4 x5 x6 x7 (some (.loc jP)) x9 x10 x11 (some (.tup items)) (some (.int (ys.length : Nat))) x14 x15 x16 x17 x18) ⟨S ++ [.dK (Pd P)], O⟩ = .ok (.lst ((Pd P).map fun kv => .tup [kD kv.1, kv.2])) ⟨S ++ [.dK (Pd P)], O⟩ := items_ok (j := jP) rfl (getL hP)
  rw [PX_eq] at m1 m2
  obtain ⟨h1, h2, h3⟩ := PX_sm I hl
  exact nil_f (ne_list m1 m2 h1 h2 h3)
theorem a8_ok (I : Inv ys P L) (hi : items.length ≤ 11) (hy : items.take ys.length = ys) (hc : D.clL items = true) : aa8 (δV ns x2 x3 x4 x5 x6 x7 x8 x9 x10 x11 (some (.tup items)) (some (.int (ys.length : Nat))) x14 x15 x16 x17 x18) ⟨S, O⟩ = .ok (.nx, δV ns x2 x3 x4 x5 (some (.loc S.length)) x7 x8 x9 x10 x11 (some (.tup items)) (some (.int (ys.length : Nat))) x14 x15 x16 x17 x18) ⟨S ++ [.dK (Td L)], O⟩ :=
  set_ok (callF_ok (ds := [.tup items, .int (ys.length : Nat)]) rfl (ti_ok (by omega) hy I.h) rfl (.inr (by simp [D.clL, D.cl, hc])))
theorem a9_ok (I : Inv ys P L) {jT : Nat} (hT : S[jT]? = some (.dK (Td L))) (hL : S[jL]? = some (.dK (Qd L))) : aa9 (δV ns x2 x3 x4 x5 (some (.loc jT)) x7 x8 (some (.loc jL)) x10 x11 x12 x13 x14 x15 x16 x17 x18) ⟨S, O⟩ = .ok (.nx, δV ns x2 x3 x4 x5 (some (.loc jT)) x7 x8 (some (.loc jL)) x10 x11 x12 x13 x14 x15 x16 x17 x18) ⟨S, O⟩ := by
  have m1 : (eFrz (fB opList (aCons (eVar 6) aNil))) (δV ns x2 x3 x4 x5 (some (.loc jT)) x7 x8 (some (.loc jL)) x10 x11 x12 x13 x14 x15 x16 x17 x18) ⟨S, O⟩ = .ok (.lst ((Td L).map fun kv : Key × D => keyOf kv.1)) ⟨S, O⟩ := list_dk (j := jT) rfl hT
  have m2 : (eFrz (fB opList (aCons (eVar 9) aNil))) (δV ns x2 x3 x4 x5 (some (.loc jT)) x7 x8 (some (.loc jL)) x10 x11 x12 x13 x14 x15 x16 x17 x18) ⟨S, O⟩ = .ok (.lst ((Qd L).map fun kv : Key × D => keyOf kv.1)) ⟨S, O⟩ := list_dk (j := jL) rfl hL
  rw [NX_T] at m1
  rw [NX_Q] at m2
  refine nil_f (tB_ok (op2_ok m1 m2 (ne_strs fun z hz => ?_)))
  obtain ⟨l, hl, rfl⟩ := List.mem_map.mp hz
  exact (I.l l hl).1
theorem kd_comp (I : Inv ys P L) {jT : Nat} {W : Wd} (hT : W.s[jT]? = some (.dK (Td L))) (hL : W.s[jL]? = some (.lk (Qd L))) : ∀ L' : List Lt, (∀ l ∈ L', l ∈ L) → compD (gNm 11) tYes_ kdE [11] (δV ns x2 x3 x4 x5 (some (.loc jT)) x7 x8 (some (.loc jL)) x10 x11 x12 x13 x14 x15 x16 x17 x18) (L'.map fun l => .str l.n) W = .ok (KX L') W
  | [], _ => rfl
  | l :: L', h => by
    have ih := kd_comp I hT hL L' fun q hq => h q (List.mem_cons_of_mem _ hq)
    have hl := h l List.mem_cons_self
    obtain ⟨r, hr⟩ := I.h.hd l hl
    have i1 : (eOp opIx (eVar 6) (eVar 11)) (δV ns x2 x3 x4 x5 (some (.loc jT)) x7 x8 (some (.loc jL)) x10 (some (.str l.n)) x12 x13 x14 x15 x16 x17 x18) W = .ok l.it W := op2_ok (x := .loc jT) (y := .str l.n) (w1 := W) (w2 := W) rfl rfl (ix_dk hT (Td_mem I.h hl))
    rw [hr] at i1
    have i2 : (tB_ (eOp opEq (eOp opIx (eOp opIx (eVar 6) (eVar 11)) (eC (.int 0))) (eC (.str "pipe")))) (δV ns x2 x3 x4 x5 (some (.loc jT)) x7 x8 (some (.loc jL)) x10 (some (.str l.n)) x12 x13 x14 x15 x16 x17 x18) W = .ok (decide (l.kd = "pipe")) W :=
      tB_ok (op2_ok (x := .str l.kd) (y := .str "pipe") (w1 := W) (w2 := W) (op2_ok (x := .tup (.str l.kd :: r)) (y := .int 0) (w1 := W) (w2 := W) i1 rfl (ix_tupS (n := 0) rfl)) rfl rfl)
    have i3 : (eIf (tB_ (eOp opEq (eOp opIx (eOp opIx (eVar 6) (eVar 11)) (eC (.int 0))) (eC (.str "pipe")))) (eC (.str "pipe")) (eC (.str "lot"))) (δV ns x2 x3 x4 x5 (some (.loc jT)) x7 x8 (some (.loc jL)) x10 (some (.str l.n)) x12 x13 x14 x15 x16 x17 x18) W = .ok (.str l.kd) W := by
      rcases I.h.kds l hl with e | e
      · rw [e] at i2 ⊢
        rw [decide_eq_false (by decide)] at i2
        exact (eif_f i2).trans rfl
      · rw [e] at i2 ⊢
        rw [decide_eq_true rfl] at i2
        exact (eif_t i2).trans rfl
    have i4 : (eOp opIx (eVar 9) (eVar 11)) (δV ns x2 x3 x4 x5 (some (.loc jT)) x7 x8 (some (.loc jL)) x10 (some (.str l.n)) x12 x13 x14 x15 x16 x17 x18) W = .ok (.int l.p) W := op2_ok (x := .loc jL) (y := .str l.n) (w1 := W) (w2 := W) rfl rfl (ix_lk hL (GoodL.Q ⟨I.h.nd.2, I.h.kds⟩ hl))
    have e : kdE (δV ns x2 x3 x4 x5 (some (.loc jT)) x7 x8 (some (.loc jL)) x10 (some (.str l.n)) x12 x13 x14 x15 x16 x17 x18) W = .ok (.tup [.str l.n, .tup [.str l.kd, .int l.p]]) W :=
      tup_ok (acons_ok (d := .str l.n) rfl (acons_ok (tup_ok (acons_ok i3 (acons_ok i4 anil_ok)) (by simp)) anil_ok)) (by simp)
    rw [List.map_cons, compD]
    rw [show gNm 11 (.str l.n) (wipeD (δV ns x2 x3 x4 x5 (some (.loc jT)) x7 x8 (some (.loc jL)) x10 x11 x12 x13 x14 x15 x16 x17 x18) [11]) W = .ok (δV ns x2 x3 x4 x5 (some (.loc jT)) x7 x8 (some (.loc jL)) x10 (some (.str l.n)) x12 x13 x14 x15 x16 x17 x18) W from rfl, bind_ok]
    rw [show tYes_ (δV ns x2 x3 x4 x5 (some (.loc jT)) x7 x8 (some (.loc jL)) x10 (some (.str l.n)) x12 x13 x14 x15 x16 x17 x18) W = .ok true W from rfl, bind_ok, if_pos rfl, e, bind_ok, ih, bind_ok]
    rfl
theorem a10_ok (I : Inv ys P L) (hl : ys.length ≤ 10) {jT : Nat} (hT : S[jT]? = some (.dK (Td L))) (hL : S[jL]? = some (.dK (Qd L))) (hne : jL ≠ jT) : aa10 (δV ns x2 x3 x4 x5 (some (.loc jT)) x7 x8 (some (.loc jL)) x10 x11 x12 x13 x14 x15 x16 x17 x18) ⟨S, O⟩ = .ok (.nx, δV ns x2 x3 x4 x5 (some (.loc jT)) (some (.lst (KX L))) x8 (some (.loc jL)) x10 x11 x12 x13 x14 x15 x16 x17 x18) ⟨S, O⟩ := by
  obtain ⟨hj, ej⟩ := List.getElem?_eq_some_iff.mp hL
  have hT2 : (S.set jL (.lk (Qd L)))[jT]? = some (.dK (Td L)) := by rw [List.getElem?_set_ne hne]; exact hT
  have hL2 : (S.set jL (.lk (Qd L)))[jL]? = some (.lk (Qd L)) := List.getElem?_set_self hj
  have e1 : (fComp (iKeysL (eVar 9)) (gNm 11) tYes_ kdE [11]) (δV ns x2 x3 x4 x5 (some (.loc jT)) x7 x8 (some (.loc jL)) x10 x11 x12 x13 x14 x15 x16 x17 x18) ⟨S.set jL (.lk (Qd L)), O⟩ = .ok (KX L) ⟨S.set jL (.lk (Qd L)), O⟩ := by
    refine fcomp_ok (ds := L.map fun l => .str l.n) (w1 := ⟨S.set jL (.lk (Qd L)), O⟩) ?_ (by rw [List.length_map]; have := I.h.len; omega) (kd_comp I (W := ⟨S.set jL (.lk (Qd L)), O⟩) hT2 hL2 L fun _ h => h)
    have k1 : lkOf ⟨S.set jL (.lk (Qd L)), O⟩ (.loc jL) = some (Qd L) := by
      have g : (⟨S.set jL (.lk (Qd L)), O⟩ : Wd).get (.loc jL) = some (.lk (Qd L)) := hL2
      unfold lkOf
      rw [g]
    show (match lkOf ⟨S.set jL (.lk (Qd L)), O⟩ (.loc jL) with
      | some kvs => Res.ok (kvs.map fun kv : Key × D => keyOf kv.1) (⟨S.set jL (.lk (Qd L)), O⟩ : Wd)
      | none => .stuck) = _
    rw [k1]
    show Res.ok ((Qd L).map fun kv : Key × D => keyOf kv.1) _ = _
    rw [NX_Q, List.map_map]
    rfl
  have e2 := set_ok (i := 7) (frz_ok e1)
  have k0 : lockD ⟨S, O⟩ (.loc jL) = some ⟨S.set jL (.lk (Qd L)), O⟩ := by
    have g : (⟨S, O⟩ : Wd).get (.loc jL) = some (.dK (Qd L)) := hL
    unfold lockD
    rw [g]
    rfl
  have k2 : (⟨S.set jL (.lk (Qd L)), O⟩ : Wd).get (.loc jL) = some (.lk (Qd L)) := hL2
  have k3 : (S.set jL (.lk (Qd L))).set jL (.dK (Qd L)) = S := by
    rw [List.set_set]
    rw [← ej]
    exact List.set_getElem_self hj
  show (match lockD ⟨S, O⟩ (.loc jL) with
    | some w1 => unlockD (.loc jL) ((sSet 7 (eFrz (fComp (iKeysL (eVar 9)) (gNm 11) tYes_ kdE [11]))) (δV ns x2 x3 x4 x5 (some (.loc jT)) x7 x8 (some (.loc jL)) x10 x11 x12 x13 x14 x15 x16 x17 x18) w1)
    | none => .stuck) = _
  rw [k0]
  show unlockD (.loc jL) ((sSet 7 (eFrz (fComp (iKeysL (eVar 9)) (gNm 11) tYes_ kdE [11]))) (δV ns x2 x3 x4 x5 (some (.loc jT)) x7 x8 (some (.loc jL)) x10 x11 x12 x13 x14 x15 x16 x17 x18) ⟨S.set jL (.lk (Qd L)), O⟩) = _
  rw [e2]
  unfold unlockD
  rw [bind_ok, k2]
  show Res.ok _ (⟨(S.set jL (.lk (Qd L))).set jL (.dK (Qd L)), O⟩ : Wd) = _
  rw [k3]
  rfl
theorem a11_ok (I : Inv ys P L) (hl : ys.length ≤ 10) (hi : items.length ≤ 11) (hy : items.take ys.length = ys) (hc : D.clL items = true) : aa11 (δV ns x2 x3 x4 x5 x6 (some (.lst (KX L))) x8 x9 x10 x11 (some (.tup items)) (some (.int (ys.length : Nat))) x14 x15 x16 x17 x18) ⟨S, O⟩ = .ok (.nx, δV ns x2 x3 x4 x5 x6 (some (.lst (KX L))) x8 x9 x10 x11 (some (.tup items)) (some (.int (ys.length : Nat))) x14 x15 x16 x17 x18) ⟨S ++ [.dK (Kd L)], O⟩ := by
  have c1 : (eCall F_made_kinds (aCons (eVar 12) (aCons (eVar 13) aNil))) (δV ns x2 x3 x4 x5 x6 (some (.lst (KX L))) x8 x9 x10 x11 (some (.tup items)) (some (.int (ys.length : Nat))) x14 x15 x16 x17 x18) ⟨S, O⟩ = .ok (.loc S.length) ⟨S ++ [.dK (Kd L)], O⟩ :=
    callF_ok (ds := [.tup items, .int (ys.length : Nat)]) rfl (kindsG_ok (by omega) hy I.h) rfl (.inr (by simp [D.clL, D.cl, hc]))
  have m1 := items_ok c1 get_one
  rw [KX_eq] at m1
  obtain ⟨h1, h2, h3⟩ := KX_sm I hl
  exact nil_f (ne_list m1 rfl h1 h2 h3)
end
/-- one lap -/
theorem lap_ok {ns : List Int} {x2 x3 x4 x5 x6 x7 x8 x9 x10 x11 x12 x13 x14 x15 x16 x17 x18 : Option D} {rest olds : List SO} {c : List Int} {l m t : Int} (hc : c.length ≤ 63) : ∃ (y3 y4 y5 y6 y7 y8 y9 y10 y11 y12 y13 y14 y15 y16 y17 y18 : Option D) (c' : List Int) (l' m' t' : Int) (rest' olds' : List SO),
    lapB (δV ns x2 x3 x4 x5 x6 x7 x8 x9 x10 x11 x12 x13 x14 x15 x16 x17 x18) ⟨src c l m t rest, olds⟩ = .ok (.nx, δV ns x2 y3 y4 y5 y6 y7 y8 y9 y10 y11 y12 y13 y14 y15 y16 y17 y18) ⟨src c' l' m' t' rest', olds'⟩ ∧ c'.length ≤ 63 := by
  obtain ⟨items, P, L, due, y4, y6, y11, y14, y15, y16, y17, y18, c1, l1, m1, t1, e, hc1, hF⟩ := law_loop (ns := ns) (rest := rest) (olds := olds) (x2 := x2) (x5 := x5) (x7 := x7) (x12 := x12) (x13 := x13) 7 [i0, i1, i2] P0 L0 x4 x6 x11 x14 x15 x16 x17 x18 c l m t inv0 (by simp) (by simp) hc
  have s3 : aa3 (δV ns x2 (some (.own olds.length)) x4 x5 x6 x7 (some (.loc (rest.length + 2))) (some (.loc (rest.length + 3))) (some .non) x11 x12 x13 x14 x15 x16 x17 x18) ⟨src c l m t (SR rest P0 L0), olds ++ [.lst [i0, i1, i2]]⟩ = .ok (.nx, δV ns x2 (some (.own olds.length)) y4 x5 y6 x7 (some (.loc (rest.length + 2))) (some (.loc (rest.length + 3))) (some due) y11 x12 x13 y14 y15 y16 y17 y18) ⟨src c1 l1 m1 t1 (SR rest P L), olds ++ [SO.lst items]⟩ := by
    unfold aa3
    rw [for_run rng3]
    exact e
  obtain ⟨ys, tail, I, hl, hi, hy, hcl, e456⟩ := lap_wrong (ns := ns) (x2 := x2) (x4 := y4) (x5 := x5) (x6 := y6) (x7 := x7) (x8 := some (.loc (rest.length + 2))) (x9 := some (.loc (rest.length + 3))) (x11 := y11) (x12 := x12) (x13 := x13) (x14 := y14) (x15 := y15) (x16 := y16) (x17 := y17) (x18 := y18) (S := src c1 l1 m1 t1 (SR rest P L)) (olds := olds) hF
  have gP : (src c1 l1 m1 t1 (SR rest P L))[rest.length + 2]? = some (.dK (Pd P)) := src_get get_P
  have gL : (src c1 l1 m1 t1 (SR rest P L))[rest.length + 3]? = some (.dK (Qd L)) := src_get get_L
  have s7 := a7_ok (ns := ns) (x2 := x2) (x3 := some (.own olds.length)) (x4 := y4) (x5 := some (.tup tail)) (x6 := y6) (x7 := x7) (x9 := some (.loc (rest.length + 3))) (x10 := some due) (x11 := y11) (x14 := y14) (x15 := y15) (x16 := y16) (x17 := y17) (x18 := y18) (O := olds ++ [SO.lst items]) I hl hi hy hcl gP
  have s8 := a8_ok (ns := ns) (x2 := x2) (x3 := some (.own olds.length)) (x4 := y4) (x5 := some (.tup tail)) (x6 := y6) (x7 := x7) (x8 := some (.loc (rest.length + 2))) (x9 := some (.loc (rest.length + 3))) (x10 := some due) (x11 := y11) (x14 := y14) (x15 := y15) (x16 := y16) (x17 := y17) (x18 := y18) (S := src c1 l1 m1 t1 (SR rest P L) ++ [SO.dK (Pd P)]) (O := olds ++ [SO.lst items]) I hi hy hcl
  have gT : (src c1 l1 m1 t1 (SR rest P L) ++ [SO.dK (Pd P)] ++ [SO.dK (Td L)])[(src c1 l1 m1 t1 (SR rest P L) ++ [SO.dK (Pd P)]).length]? = some (.dK (Td L)) := get_one
  have gL2 : (src c1 l1 m1 t1 (SR rest P L) ++ [SO.dK (Pd P)] ++ [SO.dK (Td L)])[rest.length + 3]? = some (.dK (Qd L)) := getL (getL gL)
  have hne : rest.length + 3 ≠ (src c1 l1 m1 t1 (SR rest P L) ++ [SO.dK (Pd P)]).length := by
    obtain ⟨h, _⟩ := List.getElem?_eq_some_iff.mp gL
    rw [List.length_append]
    omega
  have s9 := a9_ok (ns := ns) (x2 := x2) (x3 := some (.own olds.length)) (x4 := y4) (x5 := some (.tup tail)) (x7 := x7) (x8 := some (.loc (rest.length + 2))) (x10 := some due) (x11 := y11) (x12 := some (.tup items)) (x13 := some (.int (ys.length : Nat))) (x14 := y14) (x15 := y15) (x16 := y16) (x17 := y17) (x18 := y18) (O := olds ++ [SO.lst items]) I gT gL2
  have s10 := a10_ok (ns := ns) (x2 := x2) (x3 := some (.own olds.length)) (x4 := y4) (x5 := some (.tup tail)) (x7 := x7) (x8 := some (.loc (rest.length + 2))) (x10 := some due) (x11 := y11) (x12 := some (.tup items)) (x13 := some (.int (ys.length : Nat))) (x14 := y14) (x15 := y15) (x16 := y16) (x17 := y17) (x18 := y18) (O := olds ++ [SO.lst items]) I hl gT gL2 hne
  have s11 := a11_ok (ns := ns) (x2 := x2) (x3 := some (.own olds.length)) (x4 := y4) (x5 := some (.tup tail)) (x6 := some (.loc (src c1 l1 m1 t1 (SR rest P L) ++ [SO.dK (Pd P)]).length)) (x8 := some (.loc (rest.length + 2))) (x9 := some (.loc (rest.length + 3))) (x10 := some due) (x11 := y11) (x14 := y14) (x15 := y15) (x16 := y16) (x17 := y17) (x18 := y18) (S := src c1 l1 m1 t1 (SR rest P L) ++ [SO.dK (Pd P)] ++ [SO.dK (Td L)]) (O := olds ++ [SO.lst items]) I hl hi hy hcl
  have eE : lapB (δV ns x2 x3 x4 x5 x6 x7 x8 x9 x10 x11 x12 x13 x14 x15 x16 x17 x18) ⟨src c l m t rest, olds⟩ = .ok (.nx, δV ns x2 (some (.own olds.length)) y4 (some (.tup tail)) (some (.loc (src c1 l1 m1 t1 (SR rest P L) ++ [SO.dK (Pd P)]).length)) (some (.lst (KX L))) (some (.loc (rest.length + 2))) (some (.loc (rest.length + 3))) (some due) y11 (some (.tup items)) (some (.int (ys.length : Nat))) y14 y15 y16 y17 y18) ⟨src c1 l1 m1 t1 (SR rest P L) ++ [SO.dK (Pd P)] ++ [SO.dK (Td L)] ++ [SO.dK (Kd L)], olds ++ [SO.lst items]⟩ := by
    unfold lapB
    rw [lap_begin, seq_nx s3, e456, seq_nx s7, seq_nx s8, seq_nx s9, seq_nx s10, seq_nx s11]
    rfl
  exact ⟨some (.own olds.length), y4, some (.tup tail), some (.loc (src c1 l1 m1 t1 (SR rest P L) ++ [SO.dK (Pd P)]).length), some (.lst (KX L)), some (.loc (rest.length + 2)), some (.loc (rest.length + 3)), some due, y11, some (.tup items), some (.int (ys.length : Nat)), y14, y15, y16, y17, y18, c1, l1, m1, t1, SR rest P L ++ [SO.dK (Pd P)] ++ [SO.dK (Td L)] ++ [SO.dK (Kd L)], olds ++ [SO.lst items], eE, hc1⟩
end Lk04

set_option Elab.async false
set_option linter.all false
set_option maxRecDepth 100000
set_option maxHeartbeats 0
/-! k04: the plain law. -/
namespace Lk04
open PySem L2 DP
theorem laps_ok {ns : List Int} : ∀ (n i : Nat) (x2 x3 x4 x5 x6 x7 x8 x9 x10 x11 x12 x13 x14 x15 x16 x17 x18 : Option D) (rest olds : List SO) (c : List Int) (l m t : Int), c.length ≤ 63 → ∃ δ' w', forD (gNm 2) lapB (intsF i n) (δV ns x2 x3 x4 x5 x6 x7 x8 x9 x10 x11 x12 x13 x14 x15 x16 x17 x18) ⟨src c l m t rest, olds⟩ = .ok (.nx, δ') w'
  | 0, i, x2, x3, x4, x5, x6, x7, x8, x9, x10, x11, x12, x13, x14, x15, x16, x17, x18, rest, olds, c, l, m, t, hc => ⟨_, _, rfl⟩
  | n + 1, i, x2, x3, x4, x5, x6, x7, x8, x9, x10, x11, x12, x13, x14, x15, x16, x17, x18, rest, olds, c, l, m, t, hc => by
    obtain ⟨y3, y4, y5, y6, y7, y8, y9, y10, y11, y12, y13, y14, y15, y16, y17, y18, c1, l1, m1, t1, rest1, olds1, e, hc1⟩ := lap_ok (ns := ns) (x2 := some (.int (i : Nat))) (x3 := x3) (x4 := x4) (x5 := x5) (x6 := x6) (x7 := x7) (x8 := x8) (x9 := x9) (x10 := x10) (x11 := x11) (x12 := x12) (x13 := x13) (x14 := x14) (x15 := x15) (x16 := x16) (x17 := x17) (x18 := x18) (rest := rest) (olds := olds) (l := l) (m := m) (t := t) hc
    obtain ⟨δ', w', e2⟩ := laps_ok n (i + 1) (some (.int (i : Nat))) y3 y4 y5 y6 y7 y8 y9 y10 y11 y12 y13 y14 y15 y16 y17 y18 rest1 olds1 c1 l1 m1 t1 hc1
    refine ⟨δ', w', ?_⟩
    rw [intsF]
    exact (for_nx rfl e).trans e2
theorem pure_law (ns : List Int) (h : ns.length ≤ 63) : ∃ w', F_law [.scr ns] [] = .ok (.bl true) w' := by
  obtain ⟨cells, mixed, e0, hc⟩ := source_ok h
  have s0 : (sSet 1 (eCall F__law_source (aCons (eVar 0) aNil))) [some (.scr ns), none, none, none, none, none, none, none, none, none, none, none, none, none, none, none, none, none, none] ⟨[], []⟩ = .ok (.nx, δV ns none none none none none none none none none none none none none none none none none) ⟨src cells 1 mixed 0 [], []⟩ :=
    set_ok (callF_ok2 (w1 := ⟨[], []⟩) (ds := [.scr ns]) rfl (show F__law_source [.scr ns] [] = _ from e0) (.inl rfl))
  obtain ⟨δ', w', e⟩ := laps_ok (ns := ns) 4 0 none none none none none none none none none none none none none none none none none [] [] cells 1 mixed 0 hc
  have s1 : (sFor (iRange1 (aCons (eC (.int 4)) aNil)) (gNm 2) lapB) (δV ns none none none none none none none none none none none none none none none none none) ⟨src cells 1 mixed 0 [], []⟩ = .ok (.nx, δ') w' := by
    rw [for_run (range1_ok (n := 4) (w1 := ⟨src cells 1 mixed 0 [], []⟩) rfl (by omega)), rangeL_ints0]
    exact e
  have s2 : (sRet (eC (.bl true))) δ' w' = .ok (.rt (.bl true), δ') w' := rfl
  have em : m_law [some (.scr ns), none, none, none, none, none, none, none, none, none, none, none, none, none, none, none, none, none, none] ⟨[], []⟩ = .ok (.rt (.bl true), δ') w' := by
    rw [law_M, seq_nx s0, seq_nx s1, seq_rt s2]
  exact ⟨_, fn_rt (nl := 19) (np := 1) (m := m_law) (ds := [.scr ns]) (δ0 := [some (.scr ns), none, none, none, none, none, none, none, none, none, none, none, none, none, none, none, none, none, none]) rfl rfl em rfl⟩
end Lk04

set_option Elab.async false
set_option linter.all false
set_option maxRecDepth 100000
set_option maxHeartbeats 0
/-! law_k04_wrong_polynomials_and_lots: the head, the end (printed by gen.py). -/
namespace Lk04
open PySem PySem.Spec PyProof.Rows L2 DP
abbrev hk : PySem.W.Hook := hookP 6 fa fn ts ck
theorem law_fd {P : Program} {w : World} {K : PySem.W.Frag} {mg : Str → Option Value} {a : Addr} (y : Hy K w mg) (hm : mg "law" = some (.ref a)) : ∃ fd : FuncData, (∀ (s : Shared) (u : Value), BindsTo s fd ⟨[u], []⟩ [("script", u)]) ∧ ∀ base : Heap, FnG P w K mg base CX0 9 a fd ["script"] (spD ⟨K, w⟩ 1 F_law) := by
  obtain ⟨h, X, G⟩ := y.g
  obtain ⟨fd, FD⟩ := y.c.t.d.def_ 24 (d := d_law) rfl
  have e := hm.symm.trans (He.glo_ok X G (y.c.t.d.fact 22 (f := .glo "law") rfl))
  cases e
  have b := FunD.bindsA (ps := ["script"]) FD fun _ _ _ _ _ _ us hl => match us, hl with | [_], _ => rfl
  exact ⟨fd, fun s u => b s [u] rfl, fun base => fnG_M FD sc_law fun cdv A outer s H E hr => w_law y cdv _ A outer s H E hr⟩
end Lk04
open PySem PySem.W PySem.Spec PyProof.Rows L2 DP
theorem PySem.Challenge.cw_allpowers_k04_wrong_polynomials_and_lots_holds : PySem.Challenge.rw_allpowers_k04_wrong_polynomials_and_lots.Holds := by
  w_on; o_law; o_head (Lk04.hk); (case hw => w_witness2)
  case hc =>
    refine DP.walkG (l := PySem.Challenge.rw_allpowers_k04_wrong_polynomials_and_lots) (n := 63) (k := 9) (x := "script") (F := Lk04.F_law) rfl (by decide) rfl ⟨rfl, by decide, by decide⟩ ?_ Lk04.pure_law
    intro w mg fa h Y G hmg
    obtain ⟨K, KX, c⟩ := Y
    obtain ⟨fd, hb, hF⟩ := Lk04.law_fd (P := (PySem.Challenge.rw_allpowers_k04_wrong_polynomials_and_lots).prog) (w := w) (a := fa) ⟨c, h, KX, G⟩ hmg
    exact ⟨K, fd, KX, hb, fun base _ _ => hF base⟩

